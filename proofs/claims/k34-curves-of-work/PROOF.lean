import PyProof.Rows.All
import PySem.Str
import HandS.ForMost
import HandS.Deep
import HandS.TupAny
import HandS.TupMul
import KE.SortData
import KE.DataMinMax
import KE.KTupSum
import HandS.Style
import HandS.IsInst
import HandS.Zip
import HandS.Codes
import HandS.Small
import HandS.Ends
import OpenK.AllK
import Wide.All
import Wide.FinOn
import PySem.Challenge.RW_raisedlines_k34_whole_curves_of_work
set_option linter.all false
/-! Ev0: a pure evaluator of a small part of Python, by values. -/
namespace EV
open PySem (Str)

/-- a value, as data; `ins`: an instance, `fn`: a def as a value, `bm`: a bound method, `scr`: the law's script -/
inductive PV where
  | non | bl (b : Bool) | int (i : Int) | str (s : List Nat)
  | tup (xs : List PV) | lst (xs : List PV) | dct (kvs : List (PV × PV))
  | ins (c : Nat) (fs : List (Nat × PV)) | fn (f : Nat) | bm (f : Nat) (o : PV) | scr (ns : List Int)
  deriving Inhabited

abbrev Fr := List (Option PV)
abbrev line : Nat := 16777216

mutual
/-- Python's == -/
def pyEq : PV → PV → Bool
  | .non, .non => true
  | .bl a, .bl b => a == b
  | .bl a, .int j => (if a then 1 else 0) == j
  | .int i, .bl b => i == (if b then 1 else 0)
  | .int i, .int j => decide (i = j)
  | .str x, .str y => decide (x = y)
  | .tup xs, .tup ys => pyEqL xs ys
  | .lst xs, .lst ys => pyEqL xs ys
  | _, _ => false
def pyEqL : List PV → List PV → Bool
  | [], [] => true
  | x :: xs, y :: ys => pyEq x y && pyEqL xs ys
  | _, _ => false
end
mutual
/-- data that == is asked of: no dict, no instance; signs that a text may have -/
def datOk : PV → Bool
  | .non => true | .bl _ => true | .int _ => true
  | .str s => s.all fun c => decide (c < 1114112)
  | .tup xs => datOkL xs
  | .lst xs => datOkL xs
  | _ => false
def datOkL : List PV → Bool
  | [] => true
  | x :: xs => datOk x && datOkL xs
end
mutual
def depth : PV → Nat
  | .tup xs => depthL xs + 1
  | .lst xs => depthL xs + 1
  | _ => 0
def depthL : List PV → Nat
  | [] => 0
  | x :: xs => max (depth x) (depthL xs)
end
/-- == can be asked: data, one of them not too deep -/
def eqOk (x y : PV) : Bool := datOk x && datOk y && decide (min (depth x) (depth y) ≤ 40)
def inOk (x : PV) (ys : List PV) : Bool := datOk x && datOkL ys && decide (min (depthL ys) (depth x) ≤ 40)
def eqOp (x y : PV) : Option Bool :=
  if eqOk x y = true then some (pyEq x y) else none

mutual
/-- x < y can be asked of alike things alone -/
def alike : PV → PV → Bool
  | .non, .non => true
  | .bl _, .bl _ => true
  | .int _, .int _ => true
  | .str _, .str _ => true
  | .tup xs, .tup ys => alikeL xs ys
  | .lst xs, .lst ys => alikeL xs ys
  | _, _ => false
def alikeL : List PV → List PV → Bool
  | [], _ => true
  | _ :: _, [] => true
  | x :: xs, y :: ys => alike x y && alikeL xs ys
end
mutual
/-- x < y, of alike things -/
def ltV : PV → PV → Bool
  | .bl a, .bl b => !a && b
  | .int i, .int j => decide (i < j)
  | .str x, .str y => decide (x < y)
  | .tup xs, .tup ys => ltVL xs ys
  | .lst xs, .lst ys => ltVL xs ys
  | _, _ => false
def ltVL : List PV → List PV → Bool
  | [], [] => false
  | [], _ :: _ => true
  | _ :: _, [] => false
  | x :: xs, y :: ys => if pyEq x y = true then ltVL xs ys else ltV x y
end

def isMut : PV → Bool
  | .lst _ => true | .dct _ => true | .ins _ _ => true | _ => false

def getS (fr : Fr) (i : Nat) : Option PV := (fr[i]?).join

/-! ### operations -/
inductive Bo where | add | sub | mul | fdiv | mod | pow | shl
  deriving DecidableEq
inductive Co where | eq | ne | lt | le | gt | ge | isin | notin | is | isnt
  deriving DecidableEq
inductive Ty where | int | bool | str | tuple | list | dict
  deriving DecidableEq
inductive Bi where | abs | len | int | tuple | list | dict | sorted | min | max | sum | all | any | str | ord | min2 | max2 | set
  deriving DecidableEq

def okMul (i j : Int) : Bool := decide ((-(2 ^ 64) < i ∧ i < 2 ^ 64) ∨ (-(2 ^ 64) < j ∧ j < 2 ^ 64))
def binop : Bo → PV → PV → Option PV
  | .add, .int i, .int j => some (.int (i + j))
  | .add, .str x, .str y => if x.length + y.length ≤ line then some (.str (x ++ y)) else none
  | .add, .tup x, .tup y => if x.length + y.length ≤ line then some (.tup (x ++ y)) else none
  | .add, .lst x, .lst y => if x.length + y.length ≤ line then some (.lst (x ++ y)) else none
  | .sub, .int i, .int j => some (.int (i - j))
  | .mul, .int i, .int j => if okMul i j = true then some (.int (i * j)) else none
  | .mul, .lst x, .int k => if 0 ≤ k ∧ k ≤ 1000000 ∧ x.length * k.toNat ≤ line then some (.lst (List.replicate k.toNat x).flatten) else none
  | .mul, .tup x, .int k => if x.isEmpty = false ∧ 2 ≤ k ∧ k ≤ 1000 ∧ x.length ≤ 1000 then some (.tup (List.replicate k.toNat x).flatten) else none
  | .fdiv, .int i, .int j => if 0 < j ∧ j < 1073741824 then some (.int (i / j)) else none
  | .mod, .int i, .int j => if 0 < j then some (.int (i % j)) else none
  | .pow, .int i, .int j => if 0 ≤ j ∧ j ≤ 1000000 ∧ i.natAbs < 2 ^ 64 then some (.int (i ^ j.toNat)) else none
  | .shl, .int i, .int j => if 0 ≤ j ∧ j ≤ 1000000 ∧ i.natAbs < 2 ^ 64 then some (.int (i * 2 ^ j.toNat)) else none
  | _, _, _ => none

/-- a dict's key: an int or a text -/
inductive Ky where | i (n : Int) | s (x : List Nat)
  deriving DecidableEq
def toKy : PV → Option Ky
  | .int n => some (.i n)
  | .str x => some (.s x)
  | _ => none
def dfind (k : Ky) : List (PV × PV) → Option PV
  | [] => none
  | (a, v) :: r => if toKy a = some k then some v else dfind k r
def dput (k : PV) (v : PV) (kvs : List (PV × PV)) : List (PV × PV) :=
  if (kvs.any fun p => decide (toKy p.1 = toKy k)) = true then kvs.map (fun p => if toKy p.1 = toKy k then (p.1, v) else p) else kvs ++ [(k, v)]
def ddel (k : Ky) (kvs : List (PV × PV)) : List (PV × PV) := kvs.filter fun p => decide (¬ toKy p.1 = some k)
def dputAll : List (PV × PV) → List (PV × PV) → List (PV × PV)
  | acc, [] => acc
  | acc, (k, v) :: r => dputAll (dput k v acc) r

def isInL (x : PV) (xs : List PV) : Bool := xs.any fun y => pyEq y x
def isNon : PV → Bool
  | .non => true | _ => false
def isBl : PV → Bool → Bool
  | .bl a, b => a == b | _, _ => false
def cmpop : Co → PV → PV → Option PV
  | .eq, x, y => (eqOp x y).map .bl
  | .ne, x, y => (eqOp x y).map fun b => .bl !b
  | .lt, .int i, .int j => some (.bl (decide (i < j)))
  | .le, .int i, .int j => some (.bl (decide (i ≤ j)))
  | .gt, .int i, .int j => some (.bl (decide (j < i)))
  | .ge, .int i, .int j => some (.bl (decide (j ≤ i)))
  | .lt, .str i, .str j => some (.bl (decide (i < j)))
  | .le, .str i, .str j => some (.bl !(decide (j < i)))
  | .isin, x, .tup ys => if inOk x ys = true then some (.bl (isInL x ys)) else none
  | .isin, x, .lst ys => if inOk x ys = true then some (.bl (isInL x ys)) else none
  | .notin, x, .tup ys => if inOk x ys = true then some (.bl (!isInL x ys)) else none
  | .notin, x, .lst ys => if inOk x ys = true then some (.bl (!isInL x ys)) else none
  | .isin, x, .dct kvs => (toKy x).map fun k => .bl (dfind k kvs).isSome
  | .notin, x, .dct kvs => (toKy x).map fun k => .bl !(dfind k kvs).isSome
  | .isin, .str [x], .str y => some (.bl (decide (x ∈ y)))
  | .notin, .str [x], .str y => some (.bl (!decide (x ∈ y)))
  | .is, x, .non => some (.bl (isNon x))
  | .isnt, x, .non => some (.bl !(isNon x))
  | .is, x, .bl b => some (.bl (isBl x b))
  | .isnt, x, .bl b => some (.bl !(isBl x b))
  | _, _, _ => none

/-- the place that an index means -/
def ixOf (i : Int) (n : Nat) : Option Nat :=
  if 0 ≤ i then (if i < n then some i.toNat else none) else if -(n : Int) ≤ i then some (i + n).toNat else none
def subop : PV → PV → Option PV
  | .tup xs, .int i => (ixOf i xs.length).bind fun k => xs[k]?
  | .lst xs, .int i => (ixOf i xs.length).bind fun k => xs[k]?
  | .str s, .int i => if s.length ≤ line then (ixOf i s.length).bind fun k => (s[k]?).map fun c => .str [c] else none
  | .scr ns, .int i => (ixOf i ns.length).bind fun k => (ns[k]?).map fun c => .int c
  | .dct kvs, k => (toKy k).bind fun k => dfind k kvs
  | _, _ => none
/-- a slice's end as a place among n (d where it is left out) -/
def cutIx (n d : Nat) : Option Int → Nat
  | none => d
  | some v => if v < 0 then (v + (n : Int)).toNat else min v.toNat n
def cut {α : Type} (xs : List α) (lo hi : Option Int) : List α := (xs.drop (cutIx xs.length 0 lo)).take (cutIx xs.length xs.length hi - cutIx xs.length 0 lo)
def cutop (x : PV) (lo hi : Option Int) : Option PV :=
  match x with
  | .tup xs => some (.tup (cut xs lo hi))
  | .lst xs => some (.lst (cut xs lo hi))
  | .str xs => if xs.length ≤ line then some (.str (cut xs lo hi)) else none
  | _ => none
def revop : PV → Option PV
  | .tup xs => some (.tup xs.reverse)
  | .lst xs => some (.lst xs.reverse)
  | _ => none
def iterV : PV → Option (List PV)
  | .tup xs => some xs
  | .lst xs => some xs
  | .str s => if s.length ≤ line then some (s.map fun c => .str [c]) else none
  | _ => none
def isTy : Ty → PV → Option Bool
  | _, .ins _ _ => none
  | _, .fn _ => none
  | _, .bm _ _ => none
  | _, .scr _ => none
  | .int, .int _ => some true
  | .int, .bl _ => some true
  | .bool, .bl _ => some true
  | .str, .str _ => some true
  | .tuple, .tup _ => some true
  | .list, .lst _ => some true
  | .dict, .dct _ => some true
  | _, _ => some false

def intsOf : List PV → Option (List Int)
  | [] => some []
  | .int i :: r => (intsOf r).map (i :: ·)
  | _ => none
def blsOf : List PV → Option (List Bool)
  | [] => some []
  | .bl b :: r => (blsOf r).map (b :: ·)
  | _ => none
/-- all alike, to be sorted or compared -/
def isTup : PV → Bool
  | .tup (_ :: _) => true | _ => false
def isAtom : PV → Bool
  | .bl _ => true | .int _ => true | .str _ => true | .lst _ => true | _ => false
def cmpOk (xs : List PV) : Bool := xs.all (fun x => xs.all fun y => alike x y) && datOkL xs && decide (depthL xs ≤ 40) && xs.all fun x => !isNon x && !isMut x
def sortOk (xs : List PV) : Bool := cmpOk xs && (xs.all isTup || xs.all isAtom)
def leV (x y : PV) : Bool := !ltV y x
def minV : List PV → Option PV
  | [] => none
  | x :: xs => some (xs.foldl (fun m y => if ltV y m then y else m) x)
def maxV : List PV → Option PV
  | [] => none
  | x :: xs => some (xs.foldl (fun m y => if ltV m y then y else m) x)
def decDigits (n : Nat) : List Nat := (Nat.toDigits 10 n).map Char.toNat
def intStr (i : Int) : List Nat := if i < 0 then 45 :: decDigits i.natAbs else decDigits i.natAbs

def pairsOf : List PV → Option (List (PV × PV))
  | [] => some []
  | .tup [k, v] :: r => match toKy k with | some _ => (pairsOf r).map ((k, v) :: ·) | none => none
  | _ => none

/-- k1, v1, k2, v2, .. -/
def pairUp : List PV → Option (List (PV × PV))
  | [] => some []
  | k :: v :: r => match toKy k with | some _ => (pairUp r).map ((k, v) :: ·) | none => none
  | _ => none

def biop : Bi → List PV → Option PV
  | .abs, [.int i] => some (.int i.natAbs)
  | .len, [.tup xs] => some (.int xs.length)
  | .len, [.lst xs] => some (.int xs.length)
  | .len, [.str s] => if s.length ≤ line then some (.int s.length) else none
  | .len, [.dct kvs] => some (.int kvs.length)
  | .len, [.scr ns] => some (.int ns.length)
  | .int, [.int i] => some (.int i)
  | .int, [.bl b] => some (.int (if b then 1 else 0))
  | .tuple, [.tup xs] => some (.tup xs)
  | .tuple, [.lst xs] => some (.tup xs)
  | .list, [.tup xs] => some (.lst xs)
  | .list, [.lst xs] => some (.lst xs)
  | .dict, [.dct kvs] => some (.dct kvs)
  | .dict, [.lst ps] => (pairsOf ps).map fun ps => .dct (dputAll [] ps)
  | .sorted, [.lst xs] => if sortOk xs = true then some (.lst (xs.mergeSort leV)) else none
  | .sorted, [.tup xs] => if sortOk xs = true then some (.lst (xs.mergeSort leV)) else none
  | .min, [.lst xs] => if cmpOk xs = true then minV xs else none
  | .max, [.lst xs] => if cmpOk xs = true then maxV xs else none
  | .min2, [.int i, .int j] => some (.int (if j < i then j else i))
  | .max2, [.int i, .int j] => some (.int (if j > i then j else i))
  | .sum, [.lst xs] => (intsOf xs).map fun ns => .int ns.sum
  | .sum, [.tup xs] => (intsOf xs).map fun ns => .int ns.sum
  | .all, [.lst xs] => (blsOf xs).map fun bs => .bl (bs.all id)
  | .any, [.lst xs] => (blsOf xs).map fun bs => .bl (bs.any id)
  | .str, [.int i] => if i.natAbs.log2 < 1920 then some (.str (intStr i)) else none
  | .str, [.str s] => some (.str s)
  | .ord, [.str [c]] => some (.int c)
  | _, _ => none

/-! ### programs -/
inductive Tg where | nm (i : Nat) | tp (is : List Nat)
  deriving DecidableEq
inductive Mt where | count | index | get1 | get2 | items
  deriving DecidableEq
/-- `sl`: a slot read; `mv`: read for good; a source (of a for, a comprehension): any value to walk, `rg1` .. `rg3`, `zip` -/
inductive Ex where
  | sl (i : Nat) | mv (i : Nat) | non | bl (b : Bool) | int (i : Int) | str (s : List Nat) | cst (k : Nat) (v : PV)
  | tup (es : List Ex) | lst (es : List Ex) | dct (es : List Ex)
  | bin (o : Bo) (a b : Ex) | neg (a : Ex) | cmp (o : Co) (a b : Ex) | chn (o p : Co) (a b c : Ex)
  | and (a b : Ex) | or (a b : Ex) | not (a : Ex) | ife (c a b : Ex)
  | sub (a i : Ex) | cut (a : Ex) (lo hi : Option Ex) | rev (a : Ex)
  | bi (b : Bi) (es : List Ex) | isi (t : Ty) (a : Ex)
  | call (f : Nat) (ms : List (Option Nat)) (es : List Ex)
  | comp (src : Ex) (tg : Tg) (cond : Option Ex) (elt : Ex) (own : List Nat)
  | comp2 (src : Ex) (tg : Tg) (cond : Option Ex) (src2 : Ex) (tg2 : Tg) (cond2 : Option Ex) (elt : Ex) (own own2 : List Nat)
  | rg1 (a : Ex) | rg2 (a b : Ex) | rg3 (a b c : Ex) | zip (a b : Ex) | items (a : Ex) | keys (a : Ex)
  | meth (m : Mt) (a : Ex) (es : List Ex)
  | pop (i : Nat) | popAt (i : Nat) (k : Ex)
inductive Sm where
  | asg (i : Nat) (e : Ex) | asgM (i : Nat) (e : Ex) | unp (is : List Nat) (e : Ex) | par (is : List Nat) (bs : List Bool) (es : List Ex)
  | aug (i : Nat) (o : Bo) (e : Ex) | setix (i : Nat) (k e : Ex) | augix (i : Nat) (k : Ex) (o : Bo) (e : Ex)
  | app (i : Nat) (e : Ex) | ext (i : Nat) (e : Ex) | rem (i : Nat) (e : Ex) | upd (i : Nat) (e : Ex)
  | ex (e : Ex) | ret (e : Ex) | retM (i : Nat) | ifs (c : Ex) (a b : List Sm) | whl (c : Ex) (b : List Sm)
  | for_ (tg : Tg) (src : Ex) (b : List Sm) | pass | brk | cnt
/-- x op= y: numbers alone -/
def augop : Bo → PV → PV → Option PV
  | .add, .int i, .int j => some (.int (i + j))
  | .sub, .int i, .int j => some (.int (i - j))
  | _, _, _ => none
inductive Fl where | nx | bk | ct | rt (v : PV)

abbrev Calls := Nat → List PV → Option (PV × List (Option PV))

def rangeL (lo : Int) (n : Nat) (c : Int) : List PV := (List.range n).map fun (k : Nat) => PV.int (lo + k * c)
/-- how many turns range(lo, hi, c) has -/
def rangeN (lo hi c : Int) : Nat := if 0 < c then ((hi - lo + c - 1) / c).toNat else ((lo - hi + (-c) - 1) / (-c)).toNat
def okRg (n : Int) : Bool := decide (-(2 ^ 61) ≤ n ∧ n < 2 ^ 61)
def okN (n : Nat) : Bool := decide (n ≤ line)

def setAll : List Nat → List PV → Fr → Fr
  | i :: is, v :: vs, fr => setAll is vs (fr.set i (some v))
  | _, _, fr => fr
def bindTg : Tg → PV → Fr → Option Fr
  | .nm i, v, fr => some (fr.set i (some v))
  | .tp is, .tup vs, fr => if vs.length = is.length then some (setAll is vs fr) else none
  | .tp is, _, fr => none
def wipeF : Fr → List Nat → Fr
  | fr, [] => fr
  | fr, i :: is => (wipeF fr is).set i none
/-- the slots at own as they were -/
def backF (old : Fr) : List Nat → Fr → Fr
  | [], fr => fr
  | i :: is, fr => (backF old is fr).set i ((old[i]?).join)

def compL (f : PV → Fr → Option (List PV × Fr)) : List PV → Fr → Option (List PV × Fr)
  | [], fr => some ([], fr)
  | x :: xs, fr => (f x fr).bind fun p => (compL f xs p.2).bind fun q => some (p.1 ++ q.1, q.2)
def forL (f : PV → Fr → Option (Fl × Fr)) : List PV → Fr → Option (Fl × Fr)
  | [], fr => some (.nx, fr)
  | x :: xs, fr => (f x fr).bind fun p => match p.1 with
    | .nx => forL f xs p.2
    | .ct => forL f xs p.2
    | .bk => some (.nx, p.2)
    | .rt v => some (.rt v, p.2)
/-- one turn of a while: go on, or be done -/
inductive Tn where | on (fr : Fr) | done (fl : Fl) (fr : Fr)
def whileO (step : Fr → Option Tn) (fr : Fr) : Option (Fl × Fr) :=
  step fr >>= fun t => match t with
    | .on fr' => whileO step fr'
    | .done fl fr' => some (fl, fr')
partial_fixpoint
def whileN (step : Fr → Option Tn) : Nat → Fr → Option (Fl × Fr)
  | 0, _ => none
  | n + 1, fr => (step fr).bind fun t => match t with
    | .on fr' => whileN step n fr'
    | .done fl fr' => some (fl, fr')

def fillM : List (Option Nat) → List PV → Fr → Option (List PV)
  | [], [], _ => some []
  | none :: ms, v :: vs, fr => (fillM ms vs fr).map (v :: ·)
  | some i :: ms, _ :: vs, fr => (getS fr i).bind fun v => (fillM ms vs fr).map (v :: ·)
  | _, _, _ => none
def putM : List (Option Nat) → List (Option PV) → Fr → Fr
  | none :: ms, os, fr => putM ms os fr
  | some i :: ms, o :: os, fr => putM ms os (fr.set i o)
  | _, _, fr => fr
def intOf : PV → Option Int
  | .int i => some i
  | _ => none
def zipL : List PV → List PV → List PV
  | x :: xs, y :: ys => .tup [x, y] :: zipL xs ys
  | _, _ => []
def indexL (x : PV) : List PV → Nat → Option Nat
  | [], _ => none
  | y :: ys, k => if pyEq y x then some k else indexL x ys (k + 1)
def methop : Mt → PV → List PV → Option PV
  | .count, .lst xs, [x] => if inOk x xs = true then some (.int (xs.countP fun y => pyEq y x)) else none
  | .index, .lst xs, [x] => if (datOk x && datOkL xs && decide (depthL xs ≤ 40) && decide (depth x ≤ 40)) = true then (indexL x xs 0).map fun (k : Nat) => PV.int (k : Int) else none
  | .get1, .dct kvs, [k] => (toKy k).map fun k => (dfind k kvs).getD .non
  | .get2, .dct kvs, [k, d] => (toKy k).map fun k => (dfind k kvs).getD d
  | _, _, _ => none
def isLst : PV → Bool
  | .lst _ => true | _ => false
def isDct : PV → Bool
  | .dct _ => true | _ => false
/-- the receiver's kind -/
def recvOk : Mt → PV → Bool
  | .count, x => isLst x | .index, x => isLst x | _, x => isDct x
def removeL (x : PV) : List PV → Option (List PV)
  | [] => none
  | y :: ys => if pyEq y x then some ys else (removeL x ys).map (y :: ·)
def setIx (o k v : PV) : Option PV := match o with
  | .lst xs => (intOf k).bind fun i => (ixOf i xs.length).map fun j => .lst (xs.set j v)
  | .dct kvs => (toKy k).bind fun _ => if kvs.length < line then some (.dct (dput k v kvs)) else none
  | _ => none
def appV (o v : PV) : Option PV := match o with
  | .lst xs => if xs.length < line then some (.lst (xs ++ [v])) else none
  | _ => none
def extV (o v : PV) : Option PV := match o, v with
  | .lst xs, .lst ys => if xs.length + ys.length ≤ line then some (.lst (xs ++ ys)) else none
  | .lst xs, .tup ys => if xs.length + ys.length ≤ line then some (.lst (xs ++ ys)) else none
  | _, _ => none
def remV (o v : PV) : Option PV := match o with
  | .lst xs => if inOk v xs = true then (removeL v xs).map .lst else none
  | _ => none
def updV (o v : PV) : Option PV := match o, v with
  | .dct kvs, .dct ws => if kvs.length + ws.length < line then some (.dct (dputAll kvs ws)) else none
  | _, _ => none
def popV (o : PV) : Option (PV × PV) := match o with
  | .lst xs => (xs.getLast?).map fun v => (v, .lst xs.dropLast)
  | _ => none
def popAtV (o k : PV) : Option (PV × PV) := match o with
  | .lst xs => (intOf k).bind fun n => (ixOf n xs.length).bind fun j => (xs[j]?).map fun v => (v, .lst (xs.eraseIdx j))
  | _ => none
/-- of a, b, .. = ..: those for slots of their own are objects -/
def parChk : List Bool → List PV → Bool
  | [], [] => true
  | b :: bs, v :: vs => (!b || isMut v) && parChk bs vs
  | _, _ => false
def blOf : PV → Option Bool
  | .bl b => some b
  | _ => none

mutual
def ev (C : Calls) : Ex → Fr → Option (PV × Fr)
  | .sl i, fr => (getS fr i).map fun v => (v, fr)
  | .mv i, fr => (getS fr i).map fun v => (v, fr.set i none)
  | .non, fr => some (.non, fr)
  | .bl b, fr => some (.bl b, fr)
  | .int i, fr => some (.int i, fr)
  | .str s, fr => some (.str s, fr)
  | .cst _ v, fr => some (v, fr)
  | .tup es, fr => (evs C es fr).map fun p => (.tup p.1, p.2)
  | .lst es, fr => (evs C es fr).map fun p => (.lst p.1, p.2)
  | .dct es, fr => (evs C es fr).bind fun p => (pairUp p.1).map fun kvs => (.dct (dputAll [] kvs), p.2)
  | .bin o a b, fr => (ev C a fr).bind fun p => (ev C b p.2).bind fun q => (binop o p.1 q.1).map fun v => (v, q.2)
  | .neg a, fr => (ev C a fr).bind fun p => (intOf p.1).map fun i => (.int (-i), p.2)
  | .cmp o a b, fr => (ev C a fr).bind fun p => (ev C b p.2).bind fun q => (cmpop o p.1 q.1).map fun v => (v, q.2)
  | .chn o o' a b c, fr => (ev C a fr).bind fun p => (ev C b p.2).bind fun q => ((cmpop o p.1 q.1).bind blOf).bind fun t =>
      if t = true then (ev C c q.2).bind fun r => (cmpop o' q.1 r.1).map fun v => (v, r.2) else some (.bl false, q.2)
  | .and a b, fr => (ev C a fr).bind fun p => (blOf p.1).bind fun t => if t = true then ev C b p.2 else some (.bl false, p.2)
  | .or a b, fr => (ev C a fr).bind fun p => (blOf p.1).bind fun t => if t = true then some (.bl true, p.2) else ev C b p.2
  | .not a, fr => (ev C a fr).bind fun p => (blOf p.1).map fun t => (.bl !t, p.2)
  | .ife c a b, fr => (ev C c fr).bind fun p => (blOf p.1).bind fun t => if t = true then ev C a p.2 else ev C b p.2
  | .sub a i, fr => (ev C a fr).bind fun p => (ev C i p.2).bind fun q => (subop p.1 q.1).map fun v => (v, q.2)
  | .cut a lo hi, fr => (ev C a fr).bind fun p => (evo C lo p.2).bind fun q => (evo C hi q.2).bind fun r =>
      (cutop p.1 q.1 r.1).map fun v => (v, r.2)
  | .rev a, fr => (ev C a fr).bind fun p => (revop p.1).map fun v => (v, p.2)
  | .bi b es, fr => (evs C es fr).bind fun p => (biop b p.1).map fun v => (v, p.2)
  | .isi t a, fr => (ev C a fr).bind fun p => (isTy t p.1).map fun b => (.bl b, p.2)
  | .call f ms es, fr => (evs C es fr).bind fun p => (fillM ms p.1 p.2).bind fun vs => (C f vs).map fun r => (r.1, putM ms r.2 p.2)
  | .comp src tg cond elt own, fr => (ev C src fr).bind fun p => (iterV p.1).bind fun xs =>
      (compL (fun x g => (bindTg tg x (wipeF g own)).bind fun g => (evc C cond g).bind fun c =>
        if c.1 = true then (ev C elt c.2).map fun r => ([r.1], r.2) else some ([], c.2)) xs p.2).map fun q => (.lst q.1, backF p.2 own q.2)
  | .comp2 src tg cond src2 tg2 cond2 elt own own2, fr => (ev C src fr).bind fun p => (iterV p.1).bind fun xs =>
      (compL (fun x g => (bindTg tg x (wipeF g own)).bind fun g => (evc C cond g).bind fun c =>
        if c.1 = true then (ev C src2 c.2).bind fun p2 => (iterV p2.1).bind fun ys =>
          compL (fun y g2 => (bindTg tg2 y (wipeF g2 own2)).bind fun g2 => (evc C cond2 g2).bind fun c2 =>
            if c2.1 = true then (ev C elt c2.2).map fun r => ([r.1], r.2) else some ([], c2.2)) ys p2.2
        else some ([], c.2)) xs p.2).bind fun q => if okN q.1.length = true then some (.lst q.1, backF p.2 own q.2) else none
  | .rg1 a, fr => (ev C a fr).bind fun p => (intOf p.1).bind fun n =>
      if (okRg n && okN n.toNat) = true then some (.lst (rangeL 0 n.toNat 1), p.2) else none
  | .rg2 a b, fr => (ev C a fr).bind fun p => (ev C b p.2).bind fun q => (intOf p.1).bind fun m => (intOf q.1).bind fun n =>
      if (okRg m && okRg n && okN (n - m).toNat) = true then some (.lst (rangeL m (n - m).toNat 1), q.2) else none
  | .rg3 a b c, fr => (ev C a fr).bind fun p => (ev C b p.2).bind fun q => (ev C c q.2).bind fun r =>
      (intOf p.1).bind fun m => (intOf q.1).bind fun n => (intOf r.1).bind fun d =>
      if (okRg m && okRg n && decide (d ≠ 0 ∧ d.natAbs < 1073741824) && okN (rangeN m n d)) = true then some (.lst (rangeL m (rangeN m n d) d), r.2) else none
  | .zip a b, fr => (ev C a fr).bind fun p => (ev C b p.2).bind fun q => match p.1, q.1 with
    | .tup xs, .tup ys => some (.lst (zipL xs ys), q.2)
    | .lst xs, .lst ys => some (.lst (zipL xs ys), q.2)
    | _, _ => none
  | .keys a, fr => (ev C a fr).bind fun p => match p.1 with
    | .dct kvs => some (.lst (kvs.map fun kv => kv.1), p.2)
    | _ => none
  | .items a, fr => (ev C a fr).bind fun p => match p.1 with
    | .dct kvs => some (.lst (kvs.map fun kv => .tup [kv.1, kv.2]), p.2)
    | _ => none
  | .meth m a es, fr => (ev C a fr).bind fun p => if recvOk m p.1 = true then (evs C es p.2).bind fun q => (methop m p.1 q.1).map fun v => (v, q.2) else none
  | .pop i, fr => (getS fr i).bind fun o => (popV o).map fun r => (r.1, fr.set i (some r.2))
  | .popAt i k, fr => (getS fr i).bind fun o => (ev C k fr).bind fun p => (popAtV o p.1).map fun r => (r.1, p.2.set i (some r.2))
def evs (C : Calls) : List Ex → Fr → Option (List PV × Fr)
  | [], fr => some ([], fr)
  | e :: es, fr => (ev C e fr).bind fun p => (evs C es p.2).map fun q => (p.1 :: q.1, q.2)
def evo (C : Calls) : Option Ex → Fr → Option (Option Int × Fr)
  | none, fr => some (none, fr)
  | some e, fr => (ev C e fr).bind fun p => (intOf p.1).map fun i => (some i, p.2)
def evc (C : Calls) : Option Ex → Fr → Option (Bool × Fr)
  | none, fr => some (true, fr)
  | some e, fr => (ev C e fr).bind fun p => (blOf p.1).map fun b => (b, p.2)
end

mutual
def evS (C : Calls) : Sm → Fr → Option (Fl × Fr)
  | .asg i e, fr => (ev C e fr).map fun p => (.nx, p.2.set i (some p.1))
  | .asgM i e, fr => (ev C e fr).bind fun p => if isMut p.1 = true then some (.nx, p.2.set i (some p.1)) else none
  | .unp is e, fr => (ev C e fr).bind fun p => match p.1 with
    | .tup vs => if vs.length = is.length then some (.nx, setAll is vs p.2) else none
    | _ => none
  | .par is bs es, fr => (evs C es fr).bind fun p => if parChk bs p.1 = true then some (.nx, setAll is p.1 p.2) else none
  | .aug i o e, fr => (getS fr i).bind fun x => (ev C e fr).bind fun p => (augop o x p.1).map fun v => (.nx, p.2.set i (some v))
  | .setix i k e, fr => (ev C e fr).bind fun p => (getS p.2 i).bind fun o => (ev C k p.2).bind fun q => (setIx o q.1 p.1).map fun o' => (.nx, q.2.set i (some o'))
  | .augix i k o e, fr => (getS fr i).bind fun c => (ev C k fr).bind fun p => (subop c p.1).bind fun x => (ev C e p.2).bind fun q =>
      (augop o x q.1).bind fun v => (setIx c p.1 v).map fun c' => (.nx, q.2.set i (some c'))
  | .app i e, fr => (getS fr i).bind fun o => (ev C e fr).bind fun p => (appV o p.1).map fun o' => (.nx, p.2.set i (some o'))
  | .ext i e, fr => (getS fr i).bind fun o => (ev C e fr).bind fun p => (extV o p.1).map fun o' => (.nx, p.2.set i (some o'))
  | .rem i e, fr => (getS fr i).bind fun o => (ev C e fr).bind fun p => (remV o p.1).map fun o' => (.nx, p.2.set i (some o'))
  | .upd i e, fr => (getS fr i).bind fun o => (ev C e fr).bind fun p => (updV o p.1).map fun o' => (.nx, p.2.set i (some o'))
  | .ex e, fr => (ev C e fr).map fun p => (.nx, p.2)
  | .ret e, fr => (ev C e fr).map fun p => (.rt p.1, p.2)
  | .retM i, fr => (getS fr i).map fun v => (.rt v, fr.set i none)
  | .ifs c a b, fr => (ev C c fr).bind fun p => (blOf p.1).bind fun t => if t = true then evSs C a p.2 else evSs C b p.2
  | .whl c b, fr => whileO (fun fr => (ev C c fr).bind fun p => (blOf p.1).bind fun t =>
      if t = true then (evSs C b p.2).map fun q => match q.1 with
        | .nx => .on q.2
        | .ct => .on q.2
        | .bk => .done .nx q.2
        | .rt v => .done (.rt v) q.2
      else some (.done .nx p.2)) fr
  | .for_ tg src b, fr => (ev C src fr).bind fun p => (iterV p.1).bind fun xs =>
      forL (fun x g => (bindTg tg x g).bind fun g => evSs C b g) xs p.2
  | .pass, fr => some (.nx, fr)
  | .brk, fr => some (.bk, fr)
  | .cnt, fr => some (.ct, fr)
def evSs (C : Calls) : List Sm → Fr → Option (Fl × Fr)
  | [], fr => some (.nx, fr)
  | s :: ss, fr => (evS C s fr).bind fun p => match p.1 with
    | .nx => evSs C ss p.2
    | .bk => some (.bk, p.2)
    | .ct => some (.ct, p.2)
    | .rt v => some (.rt v, p.2)
end

/-- how a slot holds: plain; lent (read alone, never handed on); its own (changed in place, known to nobody else) -/
inductive Cls where | P | L | M
  deriving DecidableEq
structure Fn where
  na : Nat
  ns : Nat
  cls : List Cls
  mps : List Nat
  fresh : Bool
  body : List Sm
def runFn (C : Calls) (F : Fn) (args : List PV) : Option (PV × List (Option PV)) :=
  if args.length = F.na then
    (evSs C F.body (args.map some ++ List.replicate (F.ns - F.na) none)).bind fun p => match p.1 with
      | .rt v => some (v, F.mps.map fun i => getS p.2 i)
      | .nx => some (.non, F.mps.map fun i => getS p.2 i)
      | _ => none
  else none
def evCall (P : List Fn) : Nat → Calls
  | 0, _, _ => none
  | d + 1, f, args => match P[f]? with
    | some F => runFn (evCall P d) F args
    | none => none
end EV

set_option linter.all false
set_option Elab.async false
set_option maxRecDepth 100000
/-! Ev1: how the evaluator's values stand in the abstract heap; frames; what a call, an expression, a statement leaves. -/
namespace EV
open PySem L2

def tStr (s : List Nat) : Str := ⟨s.toArray⟩
def kyOf : Ky → Key
  | .i n => .inl n
  | .s x => .inr (tStr x)

/-- the script: a list that nobody writes -/
def SqF (K : PySem.W.Frag) (H : Hp) (a : Addr) (xs : List V) : Prop :=
  (∃ o, H a = some (.frz o (.lst xs))) ∨
    ∃ (o : Obj) (its : Array Value) (n : Nat), K.lookup a = some o ∧ o.cls = .type "list" ∧ o.dict = none ∧ o.data = .seq its n ∧ its.size ≤ sizeLine ∧ Vals xs its.toList
theorem SqF.sq {K : PySem.W.Frag} {H : Hp} {a : Addr} {xs : List V} (h : SqF K H a xs) : SqL K H a xs := h.imp .inr id

mutual
/-- the value v is pv, and none of its lists, dicts stands at an address of B -/
inductive Rep (K : PySem.W.Frag) (H : Hp) (B : Addr → Prop) : PV → V → Prop
  | non : Rep K H B .non .non
  | bl (b : Bool) : Rep K H B (.bl b) (.bl b)
  | int (i : Int) : Rep K H B (.int i) (.int i)
  | str (s : List Nat) : Rep K H B (.str s) (.str (tStr s))
  | tup {a : Addr} {xs : List PV} {ys : List V} : SqT K H a ys → ys.length ≤ sizeLine → RepL K H B xs ys → Rep K H B (.tup xs) (.ref a)
  | lst {a : Addr} {xs : List PV} {ys : List V} : ¬ B a → H a = some (.lst ys) → ys.length ≤ sizeLine → RepL K H B xs ys → Rep K H B (.lst xs) (.ref a)
  | dct {a : Addr} {kvs : List (PV × PV)} {ws : List (Key × V)} : ¬ B a → Rd H a (.dK ws) → ws.length ≤ sizeLine → RepD K H B kvs ws → Rep K H B (.dct kvs) (.ref a)
  | scr {a : Addr} {ns : List Int} : SqF K H a (ns.map V.int) → ns.length ≤ sizeLine → Rep K H B (.scr ns) (.ref a)
inductive RepL (K : PySem.W.Frag) (H : Hp) (B : Addr → Prop) : List PV → List V → Prop
  | nil : RepL K H B [] []
  | cons {x : PV} {xs : List PV} {y : V} {ys : List V} : Rep K H B x y → RepL K H B xs ys → RepL K H B (x :: xs) (y :: ys)
inductive RepD (K : PySem.W.Frag) (H : Hp) (B : Addr → Prop) : List (PV × PV) → List (Key × V) → Prop
  | nil : RepD K H B [] []
  | cons {k p : PV} {j : Ky} {v : V} {r : List (PV × PV)} {s : List (Key × V)} : toKy k = some j → Rep K H B p v → RepD K H B r s → RepD K H B ((k, p) :: r) ((kyOf j, v) :: s)
end

/-- what was tracked outside O is as it was; tuples always; nothing is forgotten -/
structure Kp (H H' : Hp) (O : Addr → Prop) : Prop where
  keep : ∀ a o, H a = some o → ¬ O a → H' a = some o
  tup : ∀ a ys, Rd H a (.tup ys) → Rd H' a (.tup ys)
  frz : ∀ a o ys, H a = some (.frz o (.lst ys)) → H' a = some (.frz o (.lst ys))
  tr : ∀ a, H' a = none → H a = none

theorem Kp.refl {H : Hp} {O : Addr → Prop} : Kp H H O := ⟨fun _ _ h _ => h, fun _ _ h => h, fun _ _ _ h => h, fun _ h => h⟩
theorem Kp.mono {H H' : Hp} {O O' : Addr → Prop} (k : Kp H H' O) (h : ∀ a, O a → O' a) : Kp H H' O' := ⟨fun a o e n => k.keep a o e fun z => n (h a z), k.tup, k.frz, k.tr⟩
/-- O1: what may change next; among what was tracked it is in O -/
theorem Kp.trans {H H1 H2 : Hp} {O O1 : Addr → Prop} (a : Kp H H1 O) (b : Kp H1 H2 O1) (h : ∀ c, O1 c → O c ∨ H c = none) : Kp H H2 O :=
  ⟨fun c o e n => b.keep c o (a.keep c o e n) fun z => (h c z).elim n fun q => by (rw [q] at e; cases e), fun c ys q => b.tup c ys (a.tup c ys q), fun c o ys q => b.frz c o ys (a.frz c o ys q), fun c q => a.tr c (b.tr c q)⟩

section
variable {K : PySem.W.Frag} {H H' : Hp} {B B' O : Addr → Prop}
theorem rd_ne {a : Addr} {u : HO} (r : Rd H a u) : H a ≠ none := by
  rcases r with r | ⟨o, r⟩ <;> (rw [r]; exact fun z => nomatch z)
theorem Kp.rd {a : Addr} {u : HO} (k : Kp H H' O) (r : Rd H a u) (n : ¬ O a) : Rd H' a u := by
  rcases r with r | ⟨o, r⟩
  · exact .inl (k.keep a _ r n)
  · exact .inr ⟨o, k.keep a _ r n⟩
theorem Kp.sqT {a : Addr} {ys : List V} (k : Kp H H' O) (r : SqT K H a ys) : SqT K H' a ys := by
  rcases r with r | r
  · exact .inl (k.tup a ys r)
  · exact .inr r
theorem Kp.sqF {a : Addr} {ys : List V} (k : Kp H H' O) (r : SqF K H a ys) : SqF K H' a ys := r.imp (fun ⟨o, q⟩ => ⟨o, k.frz a o ys q⟩) id
variable (k : Kp H H' O) (hO : ∀ a, O a → B a) (hB : ∀ a, B' a → B a ∨ H a = none)
include k hO hB
mutual
theorem Rep.move : ∀ {x : PV} {v : V}, Rep K H B x v → Rep K H' B' x v
  | _, _, .non => .non
  | _, _, .bl b => .bl b
  | _, _, .int i => .int i
  | _, _, .str s => .str s
  | _, _, .tup h z r => .tup (k.sqT h) z (RepL.move r)
  | _, _, .lst n h z r => .lst (fun q => (hB _ q).elim n fun e => by rw [h] at e; cases e) (k.keep _ _ h fun q => n (hO _ q)) z (RepL.move r)
  | _, _, .scr h z => .scr (k.sqF h) z
  | _, _, .dct n h z r => .dct (fun q => (hB _ q).elim n fun e => rd_ne h e) (k.rd h fun q => n (hO _ q)) z (RepD.move r)
theorem RepL.move : ∀ {xs : List PV} {vs : List V}, RepL K H B xs vs → RepL K H' B' xs vs
  | _, _, .nil => .nil
  | _, _, .cons h t => .cons (Rep.move h) (RepL.move t)
theorem RepD.move : ∀ {xs : List (PV × PV)} {vs : List (Key × V)}, RepD K H B xs vs → RepD K H' B' xs vs
  | _, _, .nil => .nil
  | _, _, .cons e h t => .cons e (Rep.move h) (RepD.move t)
end
end

section
variable {K : PySem.W.Frag} {H H' : Hp} {B B' : Addr → Prop}
theorem RepL.length : ∀ {xs : List PV} {vs : List V}, RepL K H B xs vs → xs.length = vs.length
  | _, _, .nil => rfl
  | _, _, .cons _ t => congrArg (· + 1) t.length
theorem RepD.length : ∀ {xs : List (PV × PV)} {vs : List (Key × V)}, RepD K H B xs vs → xs.length = vs.length
  | _, _, .nil => rfl
  | _, _, .cons _ _ t => congrArg (· + 1) t.length
theorem RepL.get : ∀ {xs : List PV} {vs : List V} {i : Nat} {x : PV}, RepL K H B xs vs → xs[i]? = some x → ∃ v, vs[i]? = some v ∧ Rep K H B x v
  | _, _, _, _, .nil, e => by simp at e
  | _, _, 0, _, .cons h _, e => by simp at e; subst e; exact ⟨_, by simp, h⟩
  | _, _, i + 1, _, .cons _ t, e => by
    obtain ⟨v, h1, h2⟩ := t.get (i := i) (by simpa using e)
    exact ⟨v, by simpa using h1, h2⟩
theorem RepL.append : ∀ {xs ys : List PV} {vs ws : List V}, RepL K H B xs vs → RepL K H B ys ws → RepL K H B (xs ++ ys) (vs ++ ws)
  | _, _, _, _, .nil, s => s
  | _, _, _, _, .cons h t, s => .cons h (t.append s)
theorem RepL.take : ∀ {xs : List PV} {vs : List V} (n : Nat), RepL K H B xs vs → RepL K H B (xs.take n) (vs.take n)
  | _, _, 0, _ => .nil
  | _, _, _ + 1, .nil => .nil
  | _, _, n + 1, .cons h t => .cons h (t.take n)
theorem RepL.drop : ∀ {xs : List PV} {vs : List V} (n : Nat), RepL K H B xs vs → RepL K H B (xs.drop n) (vs.drop n)
  | _, _, 0, r => r
  | _, _, _ + 1, .nil => .nil
  | _, _, n + 1, .cons _ t => t.drop n
theorem RepL.set {x : PV} {v : V} (h : Rep K H B x v) : ∀ {xs : List PV} {vs : List V} (i : Nat), RepL K H B xs vs → RepL K H B (xs.set i x) (vs.set i v)
  | _, _, _, .nil => .nil
  | _, _, 0, .cons _ t => .cons h t
  | _, _, i + 1, .cons q t => .cons q (RepL.set h i t)
theorem RepL.reverse {xs : List PV} {vs : List V} (r : RepL K H B xs vs) : RepL K H B xs.reverse vs.reverse := by
  induction xs generalizing vs with
  | nil => cases r; exact .nil
  | cons x xs ih =>
    cases r with
    | cons h t =>
      rw [List.reverse_cons, List.reverse_cons]
      exact (ih t).append (.cons h .nil)
theorem RepL.ints {ns : List Int} : RepL K H B (ns.map .int) (ns.map .int) := by
  induction ns with
  | nil => exact .nil
  | cons n ns ih => exact .cons (.int n) ih
end

/-! ### frames -/
/-- slot i holds an object of its own, at a -/
def ownAt (cl : Nat → Cls) (σ : L2.St) (fr : Fr) (i : Nat) (a : Addr) : Prop := cl i = .M ∧ (∃ x, fr[i]? = some (some x)) ∧ σ[i]? = some (some (.ref a))
def bar (cl : Nat → Cls) (BL : Addr → Prop) (σ : L2.St) (fr : Fr) (a : Addr) : Prop := BL a ∨ ∃ i, ownAt cl σ fr i a
def ownT (cl : Nat → Cls) (σ : L2.St) (fr : Fr) (T : List Nat) (a : Addr) : Prop := ∃ i, i ∈ T ∧ ownAt cl σ fr i a

/-- an object at a, known as pv, that may be changed -/
def Top (K : PySem.W.Frag) (H : Hp) (B : Addr → Prop) (a : Addr) : PV → Prop
  | .lst xs => ∃ ys, H a = some (.lst ys) ∧ ys.length ≤ sizeLine ∧ RepL K H B xs ys
  | .dct kvs => ∃ ws, H a = some (.dK ws) ∧ ws.length ≤ sizeLine ∧ RepD K H B kvs ws
  | _ => False
/-- as Rep, but its own address may be in B -/
def RepT (K : PySem.W.Frag) (H : Hp) (B : Addr → Prop) (x : PV) (v : V) : Prop :=
  match x with
  | .lst xs => ∃ a ys, v = .ref a ∧ H a = some (.lst ys) ∧ ys.length ≤ sizeLine ∧ RepL K H B xs ys
  | .dct kvs => ∃ a ws, v = .ref a ∧ Rd H a (.dK ws) ∧ ws.length ≤ sizeLine ∧ RepD K H B kvs ws
  | x => Rep K H B x v
def SlotOk (K : PySem.W.Frag) (H : Hp) (B : Addr → Prop) : Cls → PV → V → Prop
  | .P, x, v => Rep K H B x v
  | .L, x, v => RepT K H B x v
  | .M, x, v => ∃ a, v = .ref a ∧ Top K H B a x
/-- slot i holds a lent object, at a -/
def lenAt (cl : Nat → Cls) (σ : L2.St) (fr : Fr) (i : Nat) (a : Addr) : Prop := cl i = .L ∧ (∃ x, fr[i]? = some (some x) ∧ isMut x = true) ∧ σ[i]? = some (some (.ref a))
structure FS (K : PySem.W.Frag) (cl : Nat → Cls) (n : Nat) (BL : Addr → Prop) (σ : L2.St) (H : Hp) (fr : Fr) : Prop where
  lσ : σ.length = n
  lf : fr.length = n
  slot : ∀ i x, fr[i]? = some (some x) → ∃ v, σ[i]? = some (some v) ∧ SlotOk K H (bar cl BL σ fr) (cl i) x v
  inj : ∀ i j a, ownAt cl σ fr i a → ownAt cl σ fr j a → i = j
  sep : ∀ i a, ownAt cl σ fr i a → ¬ BL a
  lsp : ∀ i j a, lenAt cl σ fr i a → ¬ ownAt cl σ fr j a
  blt : ∀ a, BL a → H a ≠ none

section
variable {K : PySem.W.Frag} {H H' : Hp} {B B' O : Addr → Prop} {x : PV} {v : V}
theorem Rep.top (h : Rep K H B x v) : RepT K H B x v := by
  cases h with
  | non => exact .non
  | bl b => exact .bl b
  | int i => exact .int i
  | str s => exact .str s
  | tup h z r => exact .tup h z r
  | lst n h z r => exact ⟨_, _, rfl, h, z, r⟩
  | dct n h z r => exact ⟨_, _, rfl, h, z, r⟩
  | scr h z => exact .scr h z
theorem Top.repT {a : Addr} (h : Top K H B a x) : RepT K H B x (.ref a) := by
  cases x <;> first | exact h.elim | skip
  · obtain ⟨ys, h1, h2, h3⟩ := h; exact ⟨a, ys, rfl, h1, h2, h3⟩
  · obtain ⟨ys, h1, h2, h3⟩ := h; exact ⟨a, ys, rfl, .inl h1, h2, h3⟩
theorem Top.rep {a : Addr} (h : Top K H B a x) (n : ¬ B a) : Rep K H B x (.ref a) := by
  cases x <;> first | exact h.elim | skip
  · obtain ⟨ys, h1, h2, h3⟩ := h; exact .lst n h1 h2 h3
  · obtain ⟨ys, h1, h2, h3⟩ := h; exact .dct n (.inl h1) h2 h3
theorem Top.mut {a : Addr} (h : Top K H B a x) : isMut x = true := by
  cases x <;> first | exact h.elim | rfl
theorem Top.ne_none {a : Addr} (h : Top K H B a x) : H a ≠ none := by
  cases x <;> first | exact h.elim | skip
  · obtain ⟨ys, h1, _⟩ := h; rw [h1]; exact fun z => nomatch z
  · obtain ⟨ys, h1, _⟩ := h; rw [h1]; exact fun z => nomatch z
theorem RepT.im (h : RepT K H B x v) (n : isMut x = false) : Rep K H B x v := by
  cases x <;> first | exact h | (simp [isMut] at n)
/-- the object at a is as it was -/
theorem Top.move {a : Addr} (k : Kp H H' O) (hO : ∀ a, O a → B a) (hB : ∀ a, B' a → B a ∨ H a = none) (ha : ¬ O a) (h : Top K H B a x) : Top K H' B' a x := by
  cases x <;> first | exact h.elim | skip
  · obtain ⟨ys, h1, h2, h3⟩ := h; exact ⟨ys, k.keep a _ h1 ha, h2, RepL.move k hO hB h3⟩
  · obtain ⟨ys, h1, h2, h3⟩ := h; exact ⟨ys, k.keep a _ h1 ha, h2, RepD.move k hO hB h3⟩
theorem RepT.move (k : Kp H H' O) (hO : ∀ a, O a → B a) (hB : ∀ a, B' a → B a ∨ H a = none) (ha : ∀ a, v = .ref a → isMut x = true → ¬ O a) (h : RepT K H B x v) : RepT K H' B' x v := by
  cases x <;> first | exact Rep.move k hO hB (show Rep K H B _ v from h) | skip
  · obtain ⟨a, ys, h0, h1, h2, h3⟩ := h; exact ⟨a, ys, h0, k.keep _ _ h1 (ha a h0 rfl), h2, RepL.move k hO hB h3⟩
  · obtain ⟨a, ys, h0, h1, h2, h3⟩ := h; exact ⟨a, ys, h0, k.rd h1 (ha a h0 rfl), h2, RepD.move k hO hB h3⟩
end

/-! ### what an expression leaves -/
inductive Md where | val | pl (i : Nat) | fresh
  deriving DecidableEq
/-- a value, not of the frame's own; a new object of its own (or what cannot be changed) -/
def Res (K : PySem.W.Frag) (cl : Nat → Cls) (n : Nat) (BL : Addr → Prop) (md : Md) (σ : L2.St) (H H' : Hp) (fr' : Fr) (x : PV) (v : V) : Prop :=
  match md with
  | .val => Rep K H' (bar cl BL σ fr') x v
  | .pl i => fr'[i]? = some (some x) ∧ σ[i]? = some (some v)
  | .fresh => (isMut x = false ∧ Rep K H' (bar cl BL σ fr') x v) ∨ ∃ p, v = .ref p ∧ H p = none ∧ FS K cl n (fun a => BL a ∨ a = p) σ H' fr' ∧ Top K H' (bar cl (fun a => BL a ∨ a = p) σ fr') p x
structure EP' (K : PySem.W.Frag) (cl : Nat → Cls) (n : Nat) (BL : Addr → Prop) (T : List Nat) (md : Md) (σ : L2.St) (H : Hp) (fr : Fr) (x : PV) (fr' : Fr) (v : V) (H' : Hp) : Prop where
  fs : FS K cl n BL σ H' fr'
  kp : Kp H H' (ownT cl σ fr T)
  le : ∀ (i : Nat) y, fr'[i]? = some (some y) → ∃ y', fr[i]? = some (some y')
  tch : ∀ i, i ∉ T → fr'[i]? = fr[i]?
  res : Res K cl n BL md σ H H' fr' x v
/-- the reading of an expression -/
def tE (K : PySem.W.Frag) (cl : Nat → Cls) (n : Nat) (T : List Nat) (md : Md) (m : Fr → Option (PV × Fr)) : TE := fun σ H Q =>
  ∃ BL fr x fr', FS K cl n BL σ H fr ∧ m fr = some (x, fr') ∧ ∀ v H', EP' K cl n BL T md σ H fr x fr' v H' → Q v H'
def SE (X : Cx) (cl : Nat → Cls) (n : Nat) (T : List Nat) (md : Md) (e : Expr) (m : Fr → Option (PV × Fr)) : Prop := PE X e (tE X.K cl n T md m)

theorem PE.weak {X : Cx} {e : Expr} {t t' : TE} (h : PE X e t) (w : ∀ σ H Q, t' σ H Q → t σ H Q) : PE X e t' := ⟨fun pins s σ H Q I q => h.run pins s σ H Q I (w σ H Q q)⟩

section
variable {K : PySem.W.Frag} {cl : Nat → Cls} {n : Nat} {BL : Addr → Prop} {σ : L2.St} {H H' H1 : Hp} {fr fr' fr1 : Fr} {T : List Nat} {md : Md} {x : PV} {v : V}
theorem FS.bar_tr (f : FS K cl n BL σ H fr) : ∀ a, bar cl BL σ fr a → H a ≠ none := by
  rintro a (h | ⟨i, hi⟩)
  · exact f.blt a h
  · obtain ⟨h1, ⟨x, h2⟩, h3⟩ := id hi
    obtain ⟨v, e, q⟩ := f.slot i x h2
    rw [h3] at e; cases e
    rw [h1] at q
    obtain ⟨b, e, q⟩ := q
    cases e
    exact q.ne_none
theorem FS.ownT_bar (f : FS K cl n BL σ H fr) : ∀ a, ownT cl σ fr T a → bar cl BL σ fr a := fun a ⟨i, _, h⟩ => .inr ⟨i, h⟩
theorem FS.own_at (f : FS K cl n BL σ H fr) {i : Nat} {x : PV} (hi : fr[i]? = some (some x)) (hc : cl i = .M) : ∃ a, σ[i]? = some (some (.ref a)) ∧ ownAt cl σ fr i a ∧ Top K H (bar cl BL σ fr) a x := by
  obtain ⟨v, e, q⟩ := f.slot i x hi
  rw [hc] at q
  obtain ⟨a, e', q⟩ := q
  subst e'
  exact ⟨a, e, ⟨hc, ⟨x, hi⟩, e⟩, q⟩
/-- a slot's content -/
theorem FS.repT (f : FS K cl n BL σ H fr) {i : Nat} {x : PV} (hi : fr[i]? = some (some x)) : ∃ v, σ[i]? = some (some v) ∧ RepT K H (bar cl BL σ fr) x v := by
  obtain ⟨v, e, q⟩ := f.slot i x hi
  refine ⟨v, e, ?_⟩
  cases h : cl i with
  | P => rw [h] at q; exact Rep.top q
  | L => rw [h] at q; exact q
  | M => rw [h] at q; obtain ⟨a, rfl, q⟩ := q; exact q.repT
/-- the heap has changed outside the frame's own objects, or is the same: the frame stands -/
theorem FS.move (f : FS K cl n BL σ H fr) (k : Kp H H' fun _ => False) : FS K cl n BL σ H' fr := by
  refine ⟨f.lσ, f.lf, fun i x hi => ?_, f.inj, f.sep, f.lsp, fun a h z => f.blt a h (k.tr a z)⟩
  obtain ⟨v, e, q⟩ := f.slot i x hi
  refine ⟨v, e, ?_⟩
  cases h : cl i with
  | P => rw [h] at q; exact Rep.move k (fun _ z => z.elim) (fun _ z => .inl z) q
  | L => rw [h] at q; exact RepT.move k (fun _ z => z.elim) (fun _ z => .inl z) (fun _ _ _ z => z) q
  | M => rw [h] at q; obtain ⟨a, e, q⟩ := q; exact ⟨a, e, q.move k (fun _ z => z.elim) (fun _ z => .inl z) fun z => z⟩
/-- one more barred address, new -/
theorem FS.more (f : FS K cl n BL σ H fr) (k : Kp H H' fun _ => False) {p : Addr} (hp : H p = none) (hp' : H' p ≠ none) : FS K cl n (fun a => BL a ∨ a = p) σ H' fr := by
  have hb : ∀ a, bar cl (fun a => BL a ∨ a = p) σ fr a → bar cl BL σ fr a ∨ H a = none := by
    rintro a ((h | h) | h)
    · exact .inl (.inl h)
    · subst h; exact .inr hp
    · exact .inl (.inr h)
  refine ⟨f.lσ, f.lf, fun i x hi => ?_, f.inj, fun i a h => ?_, f.lsp, ?_⟩
  · obtain ⟨v, e, q⟩ := f.slot i x hi
    refine ⟨v, e, ?_⟩
    cases h : cl i with
    | P => rw [h] at q; exact Rep.move k (fun _ z => z.elim) hb q
    | L => rw [h] at q; exact RepT.move k (fun _ z => z.elim) hb (fun _ _ _ z => z) q
    | M => rw [h] at q; obtain ⟨a, e, q⟩ := q; exact ⟨a, e, q.move k (fun _ z => z.elim) hb fun z => z⟩
  · rintro (z | z)
    · exact f.sep i a h z
    · subst z; exact f.bar_tr _ (.inr ⟨i, h⟩) hp
  · rintro a (h | h) z
    · exact f.blt a h (k.tr a z)
    · subst h; exact hp' z
/-- fewer barred -/
theorem FS.less {BL' : Addr → Prop} (f : FS K cl n BL σ H fr) (h : ∀ a, BL' a → BL a) : FS K cl n BL' σ H fr := by
  have hb : ∀ a, bar cl BL' σ fr a → bar cl BL σ fr a ∨ H a = none := fun a z => .inl (z.imp (h a) id)
  refine ⟨f.lσ, f.lf, fun i x hi => ?_, f.inj, fun i a q z => f.sep i a q (h a z), f.lsp, fun a z => f.blt a (h a z)⟩
  obtain ⟨v, e, q⟩ := f.slot i x hi
  refine ⟨v, e, ?_⟩
  cases h : cl i with
  | P => rw [h] at q; exact Rep.move (O := fun _ => False) .refl (fun _ z => z.elim) hb q
  | L => rw [h] at q; exact RepT.move (O := fun _ => False) .refl (fun _ z => z.elim) hb (fun _ _ _ z => z) q
  | M => rw [h] at q; obtain ⟨a, e, q⟩ := q; exact ⟨a, e, q.move (O := fun _ => False) .refl (fun _ z => z.elim) hb fun z => z⟩
theorem ownAt.of (le : ∀ (i : Nat) y, fr'[i]? = some (some y) → ∃ y', fr[i]? = some (some y')) {i : Nat} {a : Addr} (h : ownAt cl σ fr' i a) : ownAt cl σ fr i a := by
  obtain ⟨h1, ⟨x, h2⟩, h3⟩ := h
  exact ⟨h1, le i x h2, h3⟩
theorem bar.of (le : ∀ (i : Nat) y, fr'[i]? = some (some y) → ∃ y', fr[i]? = some (some y')) {a : Addr} (h : bar cl BL σ fr' a) : bar cl BL σ fr a :=
  h.imp id fun ⟨i, q⟩ => ⟨i, q.of le⟩
/-- a value stays, over an expression behind -/
theorem Rep.over {x' : PV} {v' : V} (f : FS K cl n BL σ H fr) (e : EP' K cl n BL T md σ H fr x fr' v H') (h : Rep K H (bar cl BL σ fr) x' v') : Rep K H' (bar cl BL σ fr') x' v' :=
  Rep.move e.kp f.ownT_bar (fun a z => .inl (z.of e.le)) h
theorem RepL.over {x' : List PV} {v' : List V} (f : FS K cl n BL σ H fr) (e : EP' K cl n BL T md σ H fr x fr' v H') (h : RepL K H (bar cl BL σ fr) x' v') : RepL K H' (bar cl BL σ fr') x' v' :=
  RepL.move e.kp f.ownT_bar (fun a z => .inl (z.of e.le)) h
theorem Res.val (f : FS K cl n BL σ H' fr') (h : Res K cl n BL .fresh σ H H' fr' x v) (hH : ∀ a, BL a → H a ≠ none) : Res K cl n BL .val σ H H' fr' x v := by
  rcases h with ⟨_, h⟩ | ⟨p, rfl, hp, g, t⟩
  · exact h
  · have nb : ¬ bar cl BL σ fr' p := by
      rintro (z | ⟨i, z⟩)
      · exact hH p z hp
      · exact g.sep i p z (.inr rfl)
    have t' : Top K H' (bar cl BL σ fr') p x := t.move (O := fun _ => False) .refl (fun _ z => z.elim) (fun a z => .inl (z.imp .inl id)) fun z => z
    exact t'.rep nb
end

/-- an argument's mode allows what is asked: a value, or (b) a place, too -/
def Md.ok : Md → Bool → Bool
  | .val, _ => true
  | .fresh, _ => true
  | .pl _, b => b
section
variable {K : PySem.W.Frag} {cl : Nat → Cls} {n : Nat} {BL : Addr → Prop} {σ : L2.St} {H H' H1 : Hp} {fr fr' fr1 : Fr} {T T' : List Nat} {md md' : Md} {x y : PV} {v u : V}
/-- the operand as it stands -/
theorem EP'.repT (f : FS K cl n BL σ H fr) (e : EP' K cl n BL T md σ H fr x fr' v H') : RepT K H' (bar cl BL σ fr') x v := by
  cases md with
  | val => exact Rep.top e.res
  | fresh => exact Rep.top (e.res.val e.fs f.blt)
  | pl i =>
    obtain ⟨h1, h2⟩ := e.res
    obtain ⟨v', h3, h4⟩ := e.fs.repT h1
    rw [h2] at h3; cases h3
    exact h4
theorem EP'.rep (f : FS K cl n BL σ H fr) (e : EP' K cl n BL T md σ H fr x fr' v H') (hm : md.ok false = true) : Rep K H' (bar cl BL σ fr') x v := by
  cases md with
  | val => exact e.res
  | fresh => exact e.res.val e.fs f.blt
  | pl i => cases hm
/-- .. and behind a second one, that does not touch it -/
def Md.off : Md → List Nat → Bool
  | .pl i, T => !T.contains i
  | _, _ => true
theorem EP'.repT2 (f : FS K cl n BL σ H fr) (e : EP' K cl n BL T md σ H fr x fr' v H') (e2 : EP' K cl n BL T' md' σ H' fr' y fr1 u H1) (ho : md.off T' = true) : RepT K H1 (bar cl BL σ fr1) x v := by
  cases md with
  | val => exact Rep.top (Rep.over e.fs e2 e.res)
  | fresh => exact Rep.top (Rep.over e.fs e2 (e.res.val e.fs f.blt))
  | pl i =>
    obtain ⟨h1, h2⟩ := e.res
    have hi : i ∉ T' := by simpa [Md.off] using ho
    rw [← e2.tch i hi] at h1
    obtain ⟨v', h3, h4⟩ := e2.fs.repT h1
    rw [h2] at h3; cases h3
    exact h4
theorem EP'.seq_le (e : EP' K cl n BL T md σ H fr x fr' v H') (e2 : EP' K cl n BL T' md' σ H' fr' y fr1 u H1) : ∀ (i : Nat) y, fr1[i]? = some (some y) → ∃ y', fr[i]? = some (some y') := fun i y h =>
  let ⟨y', h'⟩ := e2.le i y h
  e.le i y' h'
theorem ownT.app {a : Addr} (h : ownT cl σ fr T a ∨ ownT cl σ fr T' a) : ownT cl σ fr (T ++ T') a := by
  rcases h with ⟨i, h1, h2⟩ | ⟨i, h1, h2⟩
  · exact ⟨i, List.mem_append_left _ h1, h2⟩
  · exact ⟨i, List.mem_append_right _ h1, h2⟩
theorem EP'.seq_kp (e : EP' K cl n BL T md σ H fr x fr' v H') (e2 : EP' K cl n BL T' md' σ H' fr' y fr1 u H1) : Kp H H1 (ownT cl σ fr (T ++ T')) :=
  (e.kp.mono fun _ h => ownT.app (.inl h)).trans e2.kp fun a ⟨i, h1, h2⟩ => .inl ⟨i, List.mem_append_right _ h1, h2.of e.le⟩
theorem EP'.seq_tch (e : EP' K cl n BL T md σ H fr x fr' v H') (e2 : EP' K cl n BL T' md' σ H' fr' y fr1 u H1) : ∀ i, i ∉ T ++ T' → fr1[i]? = fr[i]? := fun i h => by
  rw [List.mem_append, not_or] at h
  rw [e2.tch i h.2, e.tch i h.1]
end
end EV

set_option linter.all false
set_option Elab.async false
set_option maxRecDepth 100000
/-! Ev2: the operations on values keep what the evaluator says. -/
namespace EV
open PySem L2

/-! ### data -/
mutual
def toD : PV → PyData
  | .non => .none
  | .bl b => .bool b
  | .int i => .int i
  | .str s => .str (tStr s)
  | .tup xs => .tuple (toDL xs)
  | .lst xs => .list (toDL xs)
  | .dct _ => .dict []
  | .ins _ _ => .dict []
  | .fn _ => .dict []
  | .bm _ _ => .dict []
  | .scr _ => .dict []
def toDL : List PV → List PyData
  | [] => []
  | x :: xs => toD x :: toDL xs
end
theorem toDL_map : ∀ xs, toDL xs = xs.map toD
  | [] => rfl
  | x :: xs => by simp [toDL, toDL_map xs]
theorem tStr_inj {x y : List Nat} : tStr x = tStr y ↔ x = y := by simp [tStr]
theorem tStr_cps (x : List Nat) : (tStr x).cps.toList = x := by simp [tStr]
theorem tStr_len (x : List Nat) : (tStr x).length = x.length := by simp [tStr, Str.length]
theorem tStr_app (x y : List Nat) : tStr x ++ tStr y = tStr (x ++ y) := by
  show (⟨x.toArray ++ y.toArray⟩ : Str) = ⟨(x ++ y).toArray⟩
  simp
mutual
theorem pyEq_eqv : ∀ x y : PV, datOk x = true → datOk y = true → pyEq x y = PyData.eqv (toD x) (toD y) := by
  intro x y hx hy
  match x, y with
  | .non, y => cases y <;> simp_all [pyEq, toD, PyData.eqv, datOk]
  | .bl a, y => cases y <;> simp_all [pyEq, toD, PyData.eqv, datOk]
  | .int a, y =>
    cases y <;> simp_all [pyEq, toD, PyData.eqv, datOk]
    rename_i b
    exact (Bool.beq_eq_decide_eq a b).symm
  | .str a, y =>
    cases y <;> simp_all [pyEq, toD, PyData.eqv, datOk]
    rename_i b
    rw [Bool.beq_eq_decide_eq]
    exact decide_eq_decide.mpr tStr_inj.symm
  | .tup a, y =>
    cases y <;> simp_all [pyEq, toD, PyData.eqv, datOk]
    rename_i b
    exact pyEqL_eqv a b hx hy
  | .lst a, y =>
    cases y <;> simp_all [pyEq, toD, PyData.eqv, datOk]
    rename_i b
    exact pyEqL_eqv a b hx hy
  | .dct _, _ => simp [datOk] at hx
  | .ins _ _, _ => simp [datOk] at hx
  | .fn _, _ => simp [datOk] at hx
  | .bm _ _, _ => simp [datOk] at hx
  | .scr _, _ => simp [datOk] at hx
theorem pyEqL_eqv : ∀ x y : List PV, datOkL x = true → datOkL y = true → pyEqL x y = PyData.eqvAll (toDL x) (toDL y) := by
  intro x y hx hy
  match x, y with
  | [], [] => simp [pyEqL, toDL, PyData.eqvAll]
  | [], _ :: _ => simp [pyEqL, toDL, PyData.eqvAll]
  | _ :: _, [] => simp [pyEqL, toDL, PyData.eqvAll]
  | x :: xs, y :: ys =>
    simp only [datOkL, Bool.and_eq_true] at hx hy
    simp only [pyEqL, toDL, PyData.eqvAll, pyEq_eqv x y hx.1 hy.1, pyEqL_eqv xs ys hx.2 hy.2]
end
mutual
theorem depth_toD : ∀ x : PV, datOk x = true → (toD x).depth = depth x
  | .non, _ => rfl
  | .bl _, _ => rfl
  | .int _, _ => rfl
  | .str _, _ => rfl
  | .tup xs, h => by simp only [toD, PyData.depth, depth, depthL_toD xs (by simpa [datOk] using h)]
  | .lst xs, h => by simp only [toD, PyData.depth, depth, depthL_toD xs (by simpa [datOk] using h)]
  | .dct _, h => by simp [datOk] at h
  | .ins _ _, h => by simp [datOk] at h
  | .fn _, h => by simp [datOk] at h
  | .bm _ _, h => by simp [datOk] at h
  | .scr _, h => by simp [datOk] at h
theorem depthL_toD : ∀ xs : List PV, datOkL xs = true → PyData.depthAll (toDL xs) = depthL xs
  | [], _ => rfl
  | x :: xs, h => by
    simp only [datOkL, Bool.and_eq_true] at h
    simp only [toDL, PyData.depthAll, depthL, depth_toD x h.1, depthL_toD xs h.2]
end
mutual
theorem lay_toD : ∀ x : PV, datOk x = true → (toD x).canLay0 = true
  | .non, _ => rfl
  | .bl _, _ => rfl
  | .int _, _ => rfl
  | .str s, h => by
    simp only [toD, PyData.canLay0]
    show (tStr s).cps.all (· < 1114112) = true
    simpa [tStr, datOk] using h
  | .tup xs, h => by simp only [toD, PyData.canLay0]; exact layL_toD xs (by simpa [datOk] using h)
  | .lst xs, h => by simp only [toD, PyData.canLay0]; exact layL_toD xs (by simpa [datOk] using h)
  | .dct _, h => by simp [datOk] at h
  | .ins _ _, h => by simp [datOk] at h
  | .fn _, h => by simp [datOk] at h
  | .bm _ _, h => by simp [datOk] at h
  | .scr _, h => by simp [datOk] at h
theorem layL_toD : ∀ xs : List PV, datOkL xs = true → PyData.canLayAll0 (toDL xs) = true
  | [], _ => rfl
  | x :: xs, h => by
    simp only [datOkL, Bool.and_eq_true] at h
    simp only [toDL, PyData.canLayAll0, lay_toD x h.1, layL_toD xs h.2, Bool.and_self]
end
section
variable {K : PySem.W.Frag} {H : Hp} {B : Addr → Prop}
mutual
theorem Rep.dp : ∀ {x : PV} {v : V}, Rep K H B x v → datOk x = true → Dp K H v (toD x)
  | _, _, .non, _ => .non
  | _, _, .bl b, _ => .bl b
  | _, _, .int i, _ => .int i
  | _, _, .str s, _ => .str _
  | _, _, .tup h z r, d => by
    simp only [toD]
    exact .tup h (RepL.dp r (by simpa [datOk] using d))
  | _, _, .lst n h z r, d => by
    simp only [toD]
    exact .lst (.of h) (RepL.dp r (by simpa [datOk] using d))
  | _, _, .dct n h z r, d => by simp [datOk] at d
  | _, _, .scr h z, d => by simp [datOk] at d
theorem RepL.dp : ∀ {x : List PV} {v : List V}, RepL K H B x v → datOkL x = true → DpAll K H v (toDL x)
  | _, _, .nil, _ => .nil
  | _, _, .cons h t, d => by
    simp only [datOkL, Bool.and_eq_true] at d
    simp only [toDL]
    exact .cons (Rep.dp h d.1) (RepL.dp t d.2)
end
theorem RepT.dp {x : PV} {v : V} (h : RepT K H B x v) (d : datOk x = true) : Dp K H v (toD x) := by
  cases x with
  | lst xs =>
    obtain ⟨a, ys, rfl, h1, h2, h3⟩ := h
    simp only [toD]
    exact .lst (.of h1) (h3.dp (by simpa [datOk] using d))
  | dct kvs => simp [datOk] at d
  | _ => exact Rep.dp (show Rep K H B _ v from h) d
end

/-! ### what an operation leaves -/
structure OR' (K : PySem.W.Frag) (H H' : Hp) (B : Addr → Prop) (x : PV) (v : V) : Prop where
  kp : Kp H H' fun _ => False
  res : (isMut x = false ∧ Rep K H' B x v) ∨ ∃ p, v = .ref p ∧ H p = none ∧ Top K H' (fun a => B a ∨ a = p) p x
section
variable {K : PySem.W.Frag} {H H' : Hp} {B : Addr → Prop} {x : PV} {v : V}
theorem or_im (h : Rep K H B x v) (m : isMut x = false) : OR' K H H B x v := ⟨.refl, .inl ⟨m, h⟩⟩
theorem kp_upd {p : Addr} {o : HO} (hp : H p = none) : Kp H (upd H p o) fun _ => False := by
  refine ⟨fun a q e _ => ?_, fun a ys r => ?_, fun a q ys e => ?_, fun a e => ?_⟩
  · rw [upd_ne (ne_of_none e hp)]; exact e
  · rcases r with r | ⟨q, r⟩
    · exact .inl (by rw [upd_ne (ne_of_none r hp)]; exact r)
    · exact .inr ⟨q, by rw [upd_ne (ne_of_none r hp)]; exact r⟩
  · rw [upd_ne (ne_of_none e hp)]; exact e
  · unfold upd at e
    split at e
    · cases e
    · exact e
theorem RepL.grow {p : Addr} {o : HO} {xs : List PV} {ys : List V} (hp : H p = none) (h : RepL K H B xs ys) : RepL K (upd H p o) (fun a => B a ∨ a = p) xs ys :=
  RepL.move (kp_upd hp) (fun _ z => z.elim) (fun a z => z.imp id fun e => by rw [e]; exact hp) h
theorem RepL.grow' {p : Addr} {o : HO} {xs : List PV} {ys : List V} (hp : H p = none) (h : RepL K H B xs ys) : RepL K (upd H p o) B xs ys :=
  RepL.move (kp_upd hp) (fun _ z => z.elim) (fun a z => .inl z) h
theorem or_lst {p : Addr} {xs : List PV} {ys : List V} (hp : H p = none) (z : ys.length ≤ sizeLine) (h : RepL K H B xs ys) : OR' K H (upd H p (.lst ys)) B (.lst xs) (.ref p) :=
  ⟨kp_upd hp, .inr ⟨p, rfl, hp, ys, upd_same, z, h.grow hp⟩⟩
theorem or_tup {p : Addr} {xs : List PV} {ys : List V} (hp : H p = none) (z : ys.length ≤ sizeLine) (h : RepL K H B xs ys) : OR' K H (upd H p (.tup ys)) B (.tup xs) (.ref p) :=
  ⟨kp_upd hp, .inl ⟨rfl, .tup (.of upd_same) z (h.grow' hp)⟩⟩
end

/-- a two-place operation -/
def BinS (X : Cx) (f : Value → Value → Sem Value) (g : PV → PV → Option PV) : Prop :=
  OpR X f fun x y H Q => ∃ B px py pz, (∀ a, B a → H a ≠ none) ∧ RepT X.K H B px x ∧ RepT X.K H B py y ∧ g px py = some pz ∧ ∀ v H', OR' X.K H H' B pz v → Q v H'

theorem line_eq : sizeLine = line := sizeLine_eq
section
variable {X : Cx}
theorem OpR.of {f : Value → Value → Sem Value} {r r' : R2} (h : OpR X f r) (w : ∀ x y H Q, r' x y H Q → r x y H Q) : OpR X f r' := fun pins s σ H x y v u Q I rx ry q => h pins s σ H x y v u Q I rx ry (w x y H Q q)
theorem OpR.cases {f : Value → Value → Sem Value} {r' : R2} (h : ∀ x y H Q, r' x y H Q → ∃ r, OpR X f r ∧ r x y H Q) : OpR X f r' := fun pins s σ H x y v u Q I rx ry q =>
  let ⟨r, h1, h2⟩ := h x y H Q q
  h1 pins s σ H x y v u Q I rx ry h2

theorem RepL.rep {K : PySem.W.Frag} {H : Hp} {B : Addr → Prop} {xs : List PV} {ys : List V} (h : RepL K H B xs ys) : ∀ k, RepL K H B (List.replicate k xs).flatten (List.replicate k ys).flatten
  | 0 => .nil
  | k + 1 => by
    rw [List.replicate_succ, List.replicate_succ, List.flatten_cons, List.flatten_cons]
    exact h.append (RepL.rep h k)
theorem okMul_C {i j : Int} (h : okMul i j = true) : CMul i j := by
  unfold okMul at h
  exact (of_decide_eq_true h : _ ∨ _)

theorem bin_add : BinS X (binaryOp .Add) (binop .add) := by
  refine OpR.cases fun x y H Q ⟨B, px, py, pz, hB, h1, h2, hg, k⟩ => ?_
  cases px <;> cases py <;> first | (simp [binop] at hg; done) | skip
  · cases (show Rep X.K H B _ x from h1)
    cases (show Rep X.K H B _ y from h2)
    simp only [binop, Option.some.injEq] at hg
    subst hg
    exact ⟨_, op_add, _, _, rfl, rfl, k _ _ (or_im (.int _) rfl)⟩
  · cases (show Rep X.K H B _ x from h1)
    cases (show Rep X.K H B _ y from h2)
    simp only [binop] at hg
    split at hg <;> cases hg
    rename_i hz
    refine ⟨_, op_add_str, _, _, rfl, rfl, by rw [tStr_len, tStr_len, line_eq]; exact hz, ?_⟩
    rw [tStr_app]
    exact k _ _ (or_im (.str _) rfl)
  · cases (show Rep X.K H B _ x from h1) with
    | tup ha za ra =>
    cases (show Rep X.K H B _ y from h2) with
    | tup hb zb rb =>
    simp only [binop] at hg
    split at hg <;> cases hg
    rename_i hz
    have hz' := hz
    rw [ra.length, rb.length, ← line_eq] at hz'
    refine ⟨_, op_catA, _, _, _, _, rfl, rfl, ha, hb, hz', fun e => ?_, fun _ e => ?_, fun _ _ p hp => ?_⟩
    · subst e; cases ra; exact k _ _ (or_im (.tup hb zb rb) rfl)
    · subst e; cases rb; rw [List.append_nil] at k; exact k _ _ (or_im (.tup ha za ra) rfl)
    · exact k _ _ (or_tup hp (by rw [List.length_append]; exact hz') (ra.append rb))
  · obtain ⟨a, xs, rfl, ha, za, ra⟩ := h1
    obtain ⟨b, ys, rfl, hb, zb, rb⟩ := h2
    simp only [binop] at hg
    split at hg <;> cases hg
    rename_i hz
    rw [ra.length, rb.length, ← line_eq] at hz
    exact ⟨_, op_cat, _, _, _, _, rfl, rfl, ha, hb, hz, fun p hp => k _ _ (or_lst hp (by rw [List.length_append]; exact hz) (ra.append rb))⟩
theorem bin_sub : BinS X (binaryOp .Sub) (binop .sub) := by
  refine OpR.cases fun x y H Q ⟨B, px, py, pz, hB, h1, h2, hg, k⟩ => ?_
  cases px <;> cases py <;> first | (simp [binop] at hg; done) | skip
  cases (show Rep X.K H B _ x from h1)
  cases (show Rep X.K H B _ y from h2)
  simp only [binop, Option.some.injEq] at hg
  subst hg
  exact ⟨_, op_sub, _, _, rfl, rfl, k _ _ (or_im (.int _) rfl)⟩
theorem bin_fdiv : BinS X (binaryOp .FloorDiv) (binop .fdiv) := by
  refine OpR.cases fun x y H Q ⟨B, px, py, pz, hB, h1, h2, hg, k⟩ => ?_
  cases px <;> cases py <;> first | (simp [binop] at hg; done) | skip
  cases (show Rep X.K H B _ x from h1)
  cases (show Rep X.K H B _ y from h2)
  simp only [binop] at hg
  split at hg <;> cases hg
  rename_i hz
  exact ⟨_, op_fdiv, _, _, rfl, rfl, hz, k _ _ (or_im (.int _) rfl)⟩
theorem bin_mod : BinS X (binaryOp .Mod) (binop .mod) := by
  refine OpR.cases fun x y H Q ⟨B, px, py, pz, hB, h1, h2, hg, k⟩ => ?_
  cases px <;> cases py <;> first | (simp [binop] at hg; done) | skip
  cases (show Rep X.K H B _ x from h1)
  cases (show Rep X.K H B _ y from h2)
  simp only [binop] at hg
  split at hg <;> cases hg
  rename_i hz
  exact ⟨_, op_mod, _, _, rfl, rfl, hz, k _ _ (or_im (.int _) rfl)⟩
theorem bin_pow : BinS X (binaryOp .Pow) (binop .pow) := by
  refine OpR.cases fun x y H Q ⟨B, px, py, pz, hB, h1, h2, hg, k⟩ => ?_
  cases px <;> cases py <;> first | (simp [binop] at hg; done) | skip
  cases (show Rep X.K H B _ x from h1)
  cases (show Rep X.K H B _ y from h2)
  simp only [binop] at hg
  split at hg <;> cases hg
  rename_i hz
  exact ⟨_, op_pow, _, _, rfl, rfl, hz, k _ _ (or_im (.int _) rfl)⟩
theorem bin_mul : BinS X (binaryOp .Mult) (binop .mul) := by
  refine OpR.cases fun x y H Q ⟨B, px, py, pz, hB, h1, h2, hg, k⟩ => ?_
  cases px <;> cases py <;> first | (simp [binop] at hg; done) | skip
  · cases (show Rep X.K H B _ x from h1)
    cases (show Rep X.K H B _ y from h2)
    simp only [binop] at hg
    split at hg <;> cases hg
    rename_i hz
    exact ⟨_, op_mul, _, _, rfl, rfl, okMul_C hz, k _ _ (or_im (.int _) rfl)⟩
  · cases (show Rep X.K H B _ x from h1) with
    | tup ha za ra =>
    cases (show Rep X.K H B _ y from h2)
    simp only [binop] at hg
    split at hg <;> cases hg
    rename_i hz
    obtain ⟨h0, h2, h3, h4⟩ := hz
    rw [ra.length] at h4
    refine ⟨_, op_repT, _, _, _, rfl, rfl, ha, ?_, h2, h3, h4, fun p hp => k _ _ (or_tup hp ?_ (ra.rep _))⟩
    · intro e; subst e; cases ra; simp at h0
    · rw [PyProof.Rows.lm_len_rep_flat, sizeLine_eq]
      exact Nat.le_trans (Nat.mul_le_mul (show Int.toNat _ ≤ 1000 from Int.toNat_le.mpr (by omega)) h4) (by decide)
  · obtain ⟨a, xs, rfl, ha, za, ra⟩ := h1
    cases (show Rep X.K H B _ y from h2)
    simp only [binop] at hg
    split at hg <;> cases hg
    rename_i hz
    obtain ⟨h0, h2, h3⟩ := hz
    rw [ra.length, ← line_eq] at h3
    exact ⟨_, op_rep, _, _, _, rfl, rfl, ha, by omega, by omega, h3, fun p hp => k _ _ (or_lst hp (by rw [PyProof.Rows.lm_len_rep_flat, Nat.mul_comm]; exact h3) (ra.rep _))⟩
theorem bin_shl : BinS X (binaryOp .LShift) (binop .shl) := by
  refine OpR.cases fun x y H Q ⟨B, px, py, pz, hB, h1, h2, hg, k⟩ => ?_
  cases px <;> cases py <;> first | (simp [binop] at hg; done) | skip
  cases (show Rep X.K H B _ x from h1)
  cases (show Rep X.K H B _ y from h2)
  simp only [binop] at hg
  split at hg <;> cases hg
  rename_i hz
  exact ⟨_, op_shl, _, _, rfl, rfl, hz, k _ _ (or_im (.int _) rfl)⟩
theorem room_eq {x y : PV} {u : Nat} (h : eqOk x y = true) (hu : u + 64 < cLine) : datOk x = true ∧ datOk y = true ∧ u + min (toD x).depth (toD y).depth < cLine := by
  simp only [eqOk, Bool.and_eq_true, decide_eq_true_eq] at h
  obtain ⟨⟨h1, h2⟩, h3⟩ := h
  refine ⟨h1, h2, ?_⟩
  rw [depth_toD x h1, depth_toD y h2]
  omega
theorem room_in {x : PV} {ys : List PV} {u : Nat} (h : inOk x ys = true) (hu : u + 64 < cLine) : datOk x = true ∧ datOkL ys = true ∧ u + 1 + min (PyData.depthAll (toDL ys)) (toD x).depth < cLine := by
  simp only [inOk, Bool.and_eq_true, decide_eq_true_eq] at h
  obtain ⟨⟨h1, h2⟩, h3⟩ := h
  refine ⟨h1, h2, ?_⟩
  rw [depth_toD x h1, depthL_toD ys h2]
  omega
theorem any_eqv {x : PV} : ∀ {ys : List PV}, datOk x = true → datOkL ys = true → ((toDL ys).any fun y => PyData.eqv y (toD x)) = isInL x ys
  | [], _, _ => rfl
  | y :: ys, h, h2 => by
    simp only [datOkL, Bool.and_eq_true] at h2
    have ih := any_eqv (ys := ys) h h2.2
    simp only [toDL, List.any_cons, isInL, pyEq_eqv y x h2.1 h] at ih ⊢
    rw [ih]
theorem cmp_eq (hu : X.A.units + 64 < cLine) : BinS X (compareOp .Eq) (cmpop .eq) := by
  intro pins s σ H x y v u Q I rx ry ⟨B, px, py, pz, hB, h1, h2, hg, k⟩
  have hg : (eqOp px py).map PV.bl = some pz := hg
  unfold eqOp at hg
  split at hg <;> cases hg
  rename_i hz
  obtain ⟨d1, d2, hr⟩ := room_eq hz hu
  obtain ⟨as, r1⟩ := Dp.reads I _ x v (h1.dp d1) rx
  obtain ⟨bs, r2⟩ := Dp.reads I _ y u (h2.dp d2) ry
  refine SeqAt.compareEq_reads r1 r2 (lay_toD _ d1) (lay_toD _ d2) hr ?_
  rw [← pyEq_eqv _ _ d1 d2]
  exact ⟨.bl _, H, I, rfl, k _ _ (or_im (.bl _) rfl)⟩
theorem cmp_ne (hu : X.A.units + 64 < cLine) : BinS X (compareOp .NotEq) (cmpop .ne) := by
  intro pins s σ H x y v u Q I rx ry ⟨B, px, py, pz, hB, h1, h2, hg, k⟩
  have hg : (eqOp px py).map (fun b => PV.bl !b) = some pz := hg
  unfold eqOp at hg
  split at hg <;> cases hg
  rename_i hz
  obtain ⟨d1, d2, hr⟩ := room_eq hz hu
  obtain ⟨as, r1⟩ := Dp.reads I _ x v (h1.dp d1) rx
  obtain ⟨bs, r2⟩ := Dp.reads I _ y u (h2.dp d2) ry
  refine SeqAt.compareNe_reads r1 r2 (lay_toD _ d1) (lay_toD _ d2) hr ?_
  rw [← pyEq_eqv _ _ d1 d2]
  exact ⟨.bl _, H, I, rfl, k _ _ (or_im (.bl _) rfl)⟩
theorem cmp_lt : BinS X (compareOp .Lt) (cmpop .lt) := by
  refine OpR.cases fun x y H Q ⟨B, px, py, pz, hB, h1, h2, hg, k⟩ => ?_
  cases px <;> cases py <;> first | (simp [cmpop] at hg; done) | skip
  · cases (show Rep X.K H B _ x from h1)
    cases (show Rep X.K H B _ y from h2)
    cases hg
    exact ⟨_, op_lt, _, _, rfl, rfl, k _ _ (or_im (.bl _) rfl)⟩
  · cases (show Rep X.K H B _ x from h1)
    cases (show Rep X.K H B _ y from h2)
    cases hg
    exact ⟨_, op_lt_str, _, _, rfl, rfl, k _ _ (or_im (.bl _) rfl)⟩
theorem cmp_le : BinS X (compareOp .LtE) (cmpop .le) := by
  refine OpR.cases fun x y H Q ⟨B, px, py, pz, hB, h1, h2, hg, k⟩ => ?_
  cases px <;> cases py <;> first | (simp [cmpop] at hg; done) | skip
  · cases (show Rep X.K H B _ x from h1)
    cases (show Rep X.K H B _ y from h2)
    cases hg
    exact ⟨_, op_le, _, _, rfl, rfl, k _ _ (or_im (.bl _) rfl)⟩
  · cases (show Rep X.K H B _ x from h1)
    cases (show Rep X.K H B _ y from h2)
    cases hg
    exact ⟨_, op_le_str, _, _, rfl, rfl, k _ _ (or_im (.bl _) rfl)⟩
theorem cmp_gt : BinS X (compareOp .Gt) (cmpop .gt) := by
  refine OpR.cases fun x y H Q ⟨B, px, py, pz, hB, h1, h2, hg, k⟩ => ?_
  cases px <;> cases py <;> first | (simp [cmpop] at hg; done) | skip
  cases (show Rep X.K H B _ x from h1)
  cases (show Rep X.K H B _ y from h2)
  cases hg
  exact ⟨_, op_gt, _, _, rfl, rfl, k _ _ (or_im (.bl _) rfl)⟩
theorem cmp_ge : BinS X (compareOp .GtE) (cmpop .ge) := by
  refine OpR.cases fun x y H Q ⟨B, px, py, pz, hB, h1, h2, hg, k⟩ => ?_
  cases px <;> cases py <;> first | (simp [cmpop] at hg; done) | skip
  cases (show Rep X.K H B _ x from h1)
  cases (show Rep X.K H B _ y from h2)
  cases hg
  exact ⟨_, op_ge, _, _, rfl, rfl, k _ _ (or_im (.bl _) rfl)⟩
theorem is_bool_gen {M : Model} {A : Around} {E : Value → Shared → Prop} {s : Shared} {b : Bool} {x : V} {v : Value} {Q : Value → Shared → Prop} (r : RelV x v) (h : Q (.bool (decide (x = .bl b))) s) : wpAny M A (compareOp .Is v (.bool b)) Q E s := by
  cases x with
  | non => cases r; exact wpAny_pure h
  | bl a =>
    cases r
    have e : decide (V.bl a = V.bl b) = (a == b) := by rw [Bool.eq_iff_iff]; simp
    rw [e] at h
    exact PyProof.Rows.is_bool h
  | int i => obtain ⟨t, rfl⟩ := r; exact wpAny_pure h
  | str i => obtain ⟨t, rfl⟩ := r; exact wpAny_pure h
  | byt i => obtain ⟨t, rfl⟩ := r; exact wpAny_pure h
  | flt i => obtain ⟨t, rfl⟩ := r; exact wpAny_pure h
  | ref i => cases r; exact wpAny_pure h
  | ty i => cases r; exact wpAny_pure h
theorem isnot_bool_gen {M : Model} {A : Around} {E : Value → Shared → Prop} {s : Shared} {b : Bool} {x : V} {v : Value} {Q : Value → Shared → Prop} (r : RelV x v) (h : Q (.bool (!decide (x = .bl b))) s) : wpAny M A (compareOp .IsNot v (.bool b)) Q E s := by
  cases x with
  | non => cases r; exact wpAny_pure h
  | bl a =>
    cases r
    have e : decide (V.bl a = V.bl b) = (a == b) := by rw [Bool.eq_iff_iff]; simp
    rw [e] at h
    cases a <;> cases b <;> exact wpAny_pure h
  | int i => obtain ⟨t, rfl⟩ := r; exact wpAny_pure h
  | str i => obtain ⟨t, rfl⟩ := r; exact wpAny_pure h
  | byt i => obtain ⟨t, rfl⟩ := r; exact wpAny_pure h
  | flt i => obtain ⟨t, rfl⟩ := r; exact wpAny_pure h
  | ref i => cases r; exact wpAny_pure h
  | ty i => cases r; exact wpAny_pure h
theorem repT_bl {K : PySem.W.Frag} {H : Hp} {B : Addr → Prop} {px : PV} {x : V} (h : RepT K H B px x) (b : Bool) : decide (x = .bl b) = isBl px b := by
  cases px with
  | lst _ => obtain ⟨a, _, rfl, _⟩ := h; rfl
  | dct _ => obtain ⟨a, _, rfl, _⟩ := h; rfl
  | bl a => cases (show Rep K H B _ x from h); cases a <;> cases b <;> rfl
  | _ => cases (show Rep K H B _ x from h) <;> rfl
theorem repT_non {K : PySem.W.Frag} {H : Hp} {B : Addr → Prop} {px : PV} {x : V} (h : RepT K H B px x) : decide (x = .non) = isNon px := by
  cases px with
  | lst _ => obtain ⟨a, _, rfl, _⟩ := h; rfl
  | dct _ => obtain ⟨a, _, rfl, _⟩ := h; rfl
  | _ => cases (show Rep K H B _ x from h) <;> rfl
theorem cmp_is : BinS X (compareOp .Is) (cmpop .is) := by
  intro pins s σ H x y v u Q I rx ry ⟨B, px, py, pz, hB, h1, h2, hg, k⟩
  cases py <;> first | (simp [cmpop] at hg; done) | skip
  · cases (show Rep X.K H B _ y from h2)
    cases hg
    exact op_isN pins s σ H x _ v u Q I rx ry ⟨rfl, by rw [repT_non h1]; exact k _ _ (or_im (.bl _) rfl)⟩
  · cases (show Rep X.K H B _ y from h2)
    cases hg
    cases ry
    refine is_bool_gen rx ?_
    rw [repT_bl h1]
    exact ⟨.bl _, H, I, rfl, k _ _ (or_im (.bl _) rfl)⟩
theorem cmp_isnt : BinS X (compareOp .IsNot) (cmpop .isnt) := by
  intro pins s σ H x y v u Q I rx ry ⟨B, px, py, pz, hB, h1, h2, hg, k⟩
  cases py <;> first | (simp [cmpop] at hg; done) | skip
  · cases (show Rep X.K H B _ y from h2)
    cases hg
    exact op_notN pins s σ H x _ v u Q I rx ry ⟨rfl, by rw [repT_non h1]; exact k _ _ (or_im (.bl _) rfl)⟩
  · cases (show Rep X.K H B _ y from h2)
    cases hg
    cases ry
    refine isnot_bool_gen rx ?_
    rw [repT_bl h1]
    exact ⟨.bl _, H, I, rfl, k _ _ (or_im (.bl _) rfl)⟩
/-- a key and a dict -/
theorem ky_key {K : PySem.W.Frag} {H : Hp} {B : Addr → Prop} {p : PV} {v : V} {k : Ky} (h : RepT K H B p v) (e : toKy p = some k) : v = kV (kyOf k) := by
  cases p <;> first | (simp [toKy] at e; done) | skip
  · cases (show Rep K H B _ v from h); cases e; rfl
  · cases (show Rep K H B _ v from h); cases e; rfl
theorem kyOf_inj {a b : Ky} : kyOf a = kyOf b ↔ a = b := by
  cases a <;> cases b <;> simp [kyOf, tStr_inj]
theorem RepD.val {K : PySem.W.Frag} {H : Hp} {B : Addr → Prop} {k : Ky} : ∀ {kvs : List (PV × PV)} {ws : List (Key × V)}, RepD K H B kvs ws →
    (∀ x, dfind k kvs = some x → ∃ v, valV ws (kyOf k) = some v ∧ Rep K H B x v) ∧ (dfind k kvs = none → valV ws (kyOf k) = none)
  | _, _, .nil => ⟨fun _ e => by simp [dfind] at e, fun _ => rfl⟩
  | _, _, .cons (j := j) e h t => by
    by_cases q : j = k
    · subst q
      simp only [dfind, e, if_true]
      refine ⟨fun x e' => ?_, fun e' => by cases e'⟩
      cases e'
      exact ⟨_, valV_pos rfl, h⟩
    · have q' : ¬ (some j = some k) := fun z => q (Option.some.inj z)
      simp only [dfind, e, if_neg q']
      rw [valV_neg (fun z => q (kyOf_inj.mp z))]
      exact RepD.val t
theorem RepD.isSome {K : PySem.W.Frag} {H : Hp} {B : Addr → Prop} {k : Ky} {kvs : List (PV × PV)} {ws : List (Key × V)} (r : RepD K H B kvs ws) : (valV ws (kyOf k)).isSome = (dfind k kvs).isSome := by
  obtain ⟨h1, h2⟩ := r.val (k := k)
  cases e : dfind k kvs with
  | none => rw [h2 e]; rfl
  | some x => obtain ⟨v, e', _⟩ := h1 x e; rw [e']; rfl
theorem dget_of {K : PySem.W.Frag} {H : Hp} {B : Addr → Prop} {kvs : List (PV × PV)} {v : V} {k : Ky} (h : RepT K H B (.dct kvs) v) : ∃ a ws, v = .ref a ∧ RepD K H B kvs ws ∧ DGet H a (kV (kyOf k)) (valV ws (kyOf k)) := by
  obtain ⟨a, ws, rfl, h1, h2, h3⟩ := h
  exact ⟨a, ws, rfl, h3, .inl ⟨ws, kyOf k, h1, rfl, rfl⟩⟩
theorem cmp_in (hu : X.A.units + 64 < cLine) : BinS X (compareOp .In) (cmpop .isin) := by
  intro pins s σ H x y v u Q I rx ry ⟨B, px, py, pz, hB, h1, h2, hg, k⟩
  cases py with
  | tup ys =>
    simp only [cmpop] at hg
    split at hg <;> cases hg
    rename_i hz
    obtain ⟨d1, d2, hr⟩ := room_in hz hu
    obtain ⟨as, r1⟩ := Dp.reads I _ x v (h1.dp d1) rx
    obtain ⟨bs, r2⟩ := Dp.reads I _ y u (RepT.dp (x := .tup ys) h2 (by simpa [datOk] using d2)) ry
    simp only [toD] at r2
    refine SeqAt.in_tuple_reads r2 r1 (layL_toD _ d2) (lay_toD _ d1) hr ?_
    rw [any_eqv d1 d2]
    exact ⟨.bl _, H, I, rfl, k _ _ (or_im (.bl _) rfl)⟩
  | lst ys =>
    simp only [cmpop] at hg
    split at hg <;> cases hg
    rename_i hz
    obtain ⟨d1, d2, hr⟩ := room_in hz hu
    obtain ⟨as, r1⟩ := Dp.reads I _ x v (h1.dp d1) rx
    obtain ⟨bs, r2⟩ := Dp.reads I _ y u (RepT.dp (x := .lst ys) h2 (by simpa [datOk] using d2)) ry
    simp only [toD] at r2
    refine SeqAt.in_list_reads r2 r1 (layL_toD _ d2) (lay_toD _ d1) hr ?_
    rw [any_eqv d1 d2]
    exact ⟨.bl _, H, I, rfl, k _ _ (or_im (.bl _) rfl)⟩
  | dct kvs =>
    simp only [cmpop] at hg
    obtain ⟨j, hj, hg⟩ := Option.map_eq_some_iff.mp hg
    subst hg
    obtain rfl := ky_key h1 hj
    obtain ⟨a, ws, rfl, hd, g⟩ := dget_of (k := j) h2
    cases ry
    refine d_in (by omega) I g rx fun s' I' => ?_
    rw [hd.isSome]
    exact ⟨.bl _, H, I', rfl, k _ _ (or_im (.bl _) rfl)⟩
  | str z =>
    cases px with
    | str c =>
      match c, hg with
      | [c], hg =>
        cases (show Rep X.K H B _ x from h1)
        cases (show Rep X.K H B _ y from h2)
        cases hg
        exact op_in_sign pins s σ H _ _ v u Q I rx ry ⟨c, _, rfl, rfl, by rw [tStr_cps]; exact k _ _ (or_im (.bl _) rfl)⟩
      | [], hg => simp [cmpop] at hg
      | _ :: _ :: _, hg => simp [cmpop] at hg
    | _ => simp [cmpop] at hg
  | _ => cases px <;> simp [cmpop] at hg
theorem cmp_notin (hu : X.A.units + 64 < cLine) : BinS X (compareOp .NotIn) (cmpop .notin) := by
  intro pins s σ H x y v u Q I rx ry ⟨B, px, py, pz, hB, h1, h2, hg, k⟩
  cases py with
  | tup ys =>
    simp only [cmpop] at hg
    split at hg <;> cases hg
    rename_i hz
    obtain ⟨d1, d2, hr⟩ := room_in hz hu
    obtain ⟨as, r1⟩ := Dp.reads I _ x v (h1.dp d1) rx
    obtain ⟨bs, r2⟩ := Dp.reads I _ y u (RepT.dp (x := .tup ys) h2 (by simpa [datOk] using d2)) ry
    simp only [toD] at r2
    refine SeqAt.notIn_tuple_reads r2 r1 (layL_toD _ d2) (lay_toD _ d1) hr ?_
    rw [any_eqv d1 d2]
    exact ⟨.bl _, H, I, rfl, k _ _ (or_im (.bl _) rfl)⟩
  | lst ys =>
    simp only [cmpop] at hg
    split at hg <;> cases hg
    rename_i hz
    obtain ⟨d1, d2, hr⟩ := room_in hz hu
    obtain ⟨as, r1⟩ := Dp.reads I _ x v (h1.dp d1) rx
    obtain ⟨bs, r2⟩ := Dp.reads I _ y u (RepT.dp (x := .lst ys) h2 (by simpa [datOk] using d2)) ry
    simp only [toD] at r2
    refine SeqAt.notIn_list_reads r2 r1 (layL_toD _ d2) (lay_toD _ d1) hr ?_
    rw [any_eqv d1 d2]
    exact ⟨.bl _, H, I, rfl, k _ _ (or_im (.bl _) rfl)⟩
  | dct kvs =>
    simp only [cmpop] at hg
    obtain ⟨j, hj, hg⟩ := Option.map_eq_some_iff.mp hg
    subst hg
    obtain rfl := ky_key h1 hj
    obtain ⟨a, ws, rfl, hd, g⟩ := dget_of (k := j) h2
    cases ry
    refine d_notIn (by omega) I g rx fun s' I' => ?_
    rw [hd.isSome]
    exact ⟨.bl _, H, I', rfl, k _ _ (or_im (.bl _) rfl)⟩
  | str z =>
    cases px with
    | str c =>
      match c, hg with
      | [c], hg =>
        cases (show Rep X.K H B _ x from h1)
        cases (show Rep X.K H B _ y from h2)
        cases hg
        exact op_notIn_sign pins s σ H _ _ v u Q I rx ry ⟨c, _, rfl, rfl, by rw [tStr_cps]; exact k _ _ (or_im (.bl _) rfl)⟩
      | [], hg => simp [cmpop] at hg
      | _ :: _ :: _, hg => simp [cmpop] at hg
    | _ => simp [cmpop] at hg
  | _ => cases px <;> simp [cmpop] at hg
end
end EV

set_option linter.all false
set_option Elab.async false
set_option maxRecDepth 100000
/-! Ev3: places of lists, tuples, texts, dicts; slices; built-in functions. -/
namespace EV
open PySem L2

theorem ixOf_ixN (i : Int) (n : Nat) : ixOf i n = ixN n i := by
  unfold ixOf ixN
  split
  · rfl
  · split <;> first | rfl | (split <;> first | rfl | omega)
section
variable {X : Cx}
/-- a place's value is a value of the frame -/
def rIxE (K : PySem.W.Frag) (g : PV → PV → Option PV) : R2 := fun x y H Q => ∃ B px py pz, (∀ a, B a → H a ≠ none) ∧ RepT K H B px x ∧ RepT K H B py y ∧ g px py = some pz ∧ ∀ v, Rep K H B pz v → Q v H
theorem at_rep {K : PySem.W.Frag} {H : Hp} {B : Addr → Prop} {xs : List PV} {ys : List V} {i : Int} {pz : PV} (r : RepL K H B xs ys) (e : ((ixOf i xs.length).bind fun k => xs[k]?) = some pz) : ∃ v, atI ys i = some v ∧ Rep K H B pz v := by
  rw [ixOf_ixN, r.length] at e
  obtain ⟨j, h1, h2⟩ := Option.bind_eq_some_iff.mp e
  obtain ⟨v, h3, h4⟩ := r.get h2
  exact ⟨v, by unfold atI; rw [h1]; exact h3, h4⟩
theorem ix_all (hu : X.A.units + 64 < cLine) : IxR X (rIxE X.K subop) := by
  intro value slice pins s σ H x y v u Q I rx ry ⟨B, px, py, pz, hB, h1, h2, hg, k⟩ hs
  cases px with
  | tup xs =>
    cases py <;> first | (simp [subop] at hg; done) | skip
    cases (show Rep X.K H B _ y from h2)
    cases (show Rep X.K H B _ x from h1) with
    | tup ha za ra =>
    obtain ⟨w, e1, e2⟩ := at_rep ra hg
    exact ix_tup value slice pins s σ H _ _ v u Q I rx ry ⟨_, _, _, _, rfl, rfl, ha, e1, k _ e2⟩ hs
  | lst xs =>
    cases py <;> first | (simp [subop] at hg; done) | skip
    cases (show Rep X.K H B _ y from h2)
    obtain ⟨a, ys, rfl, ha, za, ra⟩ := h1
    obtain ⟨w, e1, e2⟩ := at_rep ra hg
    exact ix_list value slice pins s σ H _ _ v u Q I rx ry ⟨_, _, _, _, rfl, rfl, .of ha, e1, k _ e2⟩ hs
  | scr ns =>
    cases py <;> first | (simp [subop] at hg; done) | skip
    cases (show Rep X.K H B _ y from h2)
    cases (show Rep X.K H B _ x from h1) with
    | scr ha za =>
    simp only [subop] at hg
    obtain ⟨j, h3, h4⟩ := Option.bind_eq_some_iff.mp hg
    obtain ⟨c, h5, rfl⟩ := Option.map_eq_some_iff.mp h4
    rw [ixOf_ixN] at h3
    refine ix_list value slice pins s σ H _ _ v u Q I rx ry ⟨_, _, _, .int c, rfl, rfl, ha.sq, ?_, k _ (.int c)⟩ hs
    unfold atI
    rw [List.length_map, h3]
    simp [h5]
  | str z =>
    cases py <;> first | (simp [subop] at hg; done) | skip
    cases (show Rep X.K H B _ y from h2)
    cases (show Rep X.K H B _ x from h1)
    simp only [subop] at hg
    by_cases hz : z.length ≤ line
    · rw [if_pos hz] at hg
      obtain ⟨j, h3, h4⟩ := Option.bind_eq_some_iff.mp hg
      obtain ⟨c, h5, rfl⟩ := Option.map_eq_some_iff.mp h4
      rw [ixOf_ixN] at h3
      refine ix_str value slice pins s σ H _ _ v u Q I rx ry ⟨_, _, c, rfl, rfl, by rw [tStr_len, line_eq]; exact hz, ?_, k _ (.str [c])⟩ hs
      unfold atI
      rw [tStr_cps, h3]
      exact h5
    · rw [if_neg hz] at hg; cases hg
  | dct kvs =>
    simp only [subop] at hg
    obtain ⟨j, h3, h4⟩ := Option.bind_eq_some_iff.mp hg
    obtain rfl := ky_key h2 h3
    obtain ⟨a, ws, rfl, hd, g⟩ := dget_of (k := j) h1
    obtain ⟨w, e1, e2⟩ := hd.val.1 _ h4
    rw [e1] at g
    cases rx
    exact PyProof.Rows.tail_any (dict_typeIs I g) PySem.F.slot_dict_getitem.lookup (d_getItem (by omega) I g ry fun w' s3 I3 rw' => ⟨w, H, I3, rw', k _ e2⟩) hs
  | _ => simp [subop] at hg
end
end EV
namespace EV
open PySem L2 HT PySem.Spec PyProof.Rows

theorem cutIx_sIx (n d : Nat) (o : Option Int) : cutIx n d o = sIx n d o := by cases o <;> rfl
theorem cut_cutV {K : PySem.W.Frag} {H : Hp} {B : Addr → Prop} {xs : List PV} {ys : List V} (r : RepL K H B xs ys) (lo hi : Option Int) : RepL K H B (cut xs lo hi) (cutV ys lo hi) := by
  unfold cut cutV
  rw [cutIx_sIx, cutIx_sIx, r.length]
  exact (r.drop _).take _
section
variable {prog : Program} {w : World} {A : Around} {E : Value → Shared → Prop} {s : Shared}
theorem pick_rev (xs : Array Value) : ((List.range xs.size).filterMap fun (m : Nat) => xs[(((xs.size : Int) - 1) + (m : Int) * (-1)).toNat]?).toArray = xs.toList.reverse.toArray := by
  congr 1
  refine List.ext_getElem? fun i => ?_
  have key : ∀ (k : Nat), k ≤ xs.size → ((List.range k).filterMap fun (m : Nat) => xs[(((xs.size : Int) - 1) + (m : Int) * (-1)).toNat]?) = (List.range k).map fun m => xs.toList.getD (xs.size - 1 - m) .none := by
    intro k hk
    induction k with
    | zero => rfl
    | succ k ih =>
      rw [List.range_succ, List.filterMap_append, List.map_append, ih (by omega)]
      congr 1
      have e : (((xs.size : Int) - 1) + (k : Int) * (-1)).toNat = xs.size - 1 - k := by omega
      have hlt : xs.size - 1 - k < xs.size := by omega
      simp only [List.filterMap_cons, List.filterMap_nil, List.map_cons, List.map_nil, e]
      simp [hlt]
  rw [key xs.size (Nat.le_refl _)]
  by_cases hi : i < xs.size
  · have h2 : xs.size - 1 - i < xs.size := by omega
    rw [List.getElem?_map, List.getElem?_range hi, List.getElem?_reverse (by simpa using hi)]
    simp [h2]
  · rw [List.getElem?_eq_none (by simpa using hi), List.getElem?_eq_none (by simpa using hi)]
theorem sliceApplied_rev {sl : Addr} {u : Tok} {n : Nat} {Q : Int × Int × Nat → Shared → Prop} (hs : s.heap.IsSliceOf sl .none .none (.int (-1) u)) (h : Q ((n : Int) - 1, -1, n) s) : wpAny (model prog w) A (Builtin.Slice.sliceApplied (.ref sl) (pure (n : Int))) Q E s := by
  obtain ⟨os, hos, hcs, hds⟩ := id hs
  unfold Builtin.Slice.sliceApplied Builtin.Slice.sliceFields
  refine wpAny_bind (wpAny_bind (wpAny_field hos hds (x := .none) rfl (wpAny_bind (wpAny_field hos hds (x := .none) rfl (wpAny_bind (wpAny_field hos hds (x := .int (-1) u) rfl (wpAny_pure ?_)))))))
  refine wpAny_bind (slicePart_int ?_)
  show wpAny _ _ (if ((-1 : Int) == 0) = true then _ else _) _ _ s
  rw [if_neg (by decide)]
  refine wpAny_bind (slicePart_none (wpAny_bind (slicePart_none (wpAny_bind (wpAny_pure ?_)))))
  show wpAny _ _ (match Builtin.Slice.sliceAdjust none none (-1) (n : Int) with | (lo, hi) => pure (lo, (-1 : Int), Builtin.Slice.slicePlaces lo hi (-1))) _ _ s
  have e1 : Builtin.Slice.sliceAdjust none none (-1) (n : Int) = ((n : Int) - 1, -1) := by
    unfold Builtin.Slice.sliceAdjust
    simp
  rw [e1]
  have e2 : Builtin.Slice.slicePlaces ((n : Int) - 1) (-1) (-1) = n := by
    unfold Builtin.Slice.slicePlaces
    have h1 : ¬ ((-1 : Int) > 0) := by omega
    simp only [h1, if_false, Int.neg_neg, Int.ediv_one]
    split <;> omega
  show wpAny _ _ (pure (((n : Int) - 1), (-1 : Int), Builtin.Slice.slicePlaces ((n : Int) - 1) (-1) (-1))) _ _ s
  rw [e2]
  exact wpAny_pure h
theorem getItem_tuple_rev {t sl : Addr} {items : Array Value} {u : Tok} {Q : Value → Shared → Prop} (ht : IsTup s.heap t items) (hs : s.heap.IsSliceOf sl .none .none (.int (-1) u))
    (h : Q (.ref s.heap.objs.size) { s with heap := s.heap.push { cls := .type "tuple", data := .seq items.toList.reverse.toArray } })
    (hsz : items.size ≤ sizeLine) : wpAny (model prog w) A (getItem (.ref t) (.ref sl)) Q E s := by
  have htake : sizeOk (.seq items.toList.reverse.toArray) := by
    show items.toList.reverse.toArray.size ≤ sizeLine
    simpa using hsz
  obtain ⟨os, hos, hcs, hds⟩ := id hs
  have hTs : s.TypeIs (.ref sl) "slice" := ⟨os, hos, hcs⟩
  unfold getItem
  try with_reducible refine wpAny_holding ?_
  first | refine wpAny_bind (wpAny_pure ?_) | skip
  refine wpAny_bind (wpAny_sequenceKey ht.typeIs (by decide) ?_)
  refine wpAny_bind (wpAny_callSpecial?_slot (name := Str.ofString "__getitem__") ht.typeIs PyProof.Rows.slot_tuple_getitem
    (wpAny_call_entry PyProof.Rows.slot_tuple_getitem ht.typeIs entry_tuple_getitem ?_ (args_tuple_getitem _ _)))
  show wpAny _ _ (Builtin.Tuple.tupleItemsOf (.ref t) >>= _) _ _ s
  refine wpAny_bind (tupleItemsOf_ ht ?_)
  refine wpAny_bind (wpAny_typeOf hTs ?_)
  rw [if_pos (by decide)]
  refine wpAny_bind (sliceApplied_rev hs ?_)
  have hno : ¬ ((((items.size : Int) - 1) == 0 && (-1 : Int) == 1 && (items.size) == items.size) = true) := by
    intro q
    rw [Bool.and_eq_true, Bool.and_eq_true] at q
    exact absurd q.1.2 (by decide)
  show wpAny _ _ (if (((items.size : Int) - 1) == 0 && (-1 : Int) == 1 && (items.size) == items.size) = true then _ else _) _ _ s
  rw [if_neg hno, pick_rev]
  first
    | exact wpAny_bind (m := Builtin.Tuple.tupleExact _) (wpAny_newObj_type (wpAny_pure ⟨_, rfl, wpAny_pure h⟩) htake)
    | exact wpAny_bind (m := Builtin.Tuple.tupleExact _) (wpAny_newObj_type (wpAny_bind (wpAny_pure (wpAny_pure ⟨_, rfl, wpAny_pure h⟩))) htake)
    | exact wpAny_bind (wpAny_bind (m := Builtin.Tuple.tupleExact _) (wpAny_newObj_type (wpAny_pure (wpAny_pure ⟨_, rfl, wpAny_pure h⟩)) htake))
    | exact wpAny_bind (wpAny_bind (m := Builtin.Tuple.tupleExact _) (wpAny_newObj_type (wpAny_pure ⟨_, rfl, wpAny_pure h⟩) htake))
end
end EV

set_option linter.all false
set_option Elab.async false
set_option maxRecDepth 100000
/-! Ev4: expressions, one by one. -/
namespace EV
open PySem L2 PySem.Spec PyProof.Rows

section
variable {K : PySem.W.Frag} {cl : Nat → Cls} {n : Nat} {BL : Addr → Prop} {σ : L2.St} {H H' H1 H2 : Hp} {fr fr' fr1 : Fr} {T T' : List Nat} {md md' : Md} {x y z : PV} {v u w : V}
theorem bar_more {p a : Addr} (h : bar cl (fun a => BL a ∨ a = p) σ fr a) : bar cl BL σ fr a ∨ a = p := by
  rcases h with (h | h) | h
  · exact .inl (.inl h)
  · exact .inr h
  · exact .inl (.inr h)
theorem more_bar {p a : Addr} (h : bar cl BL σ fr a ∨ a = p) : bar cl (fun a => BL a ∨ a = p) σ fr a := by
  rcases h with (h | h) | h
  · exact .inl (.inl h)
  · exact .inr h
  · exact .inl (.inr h)
/-- nothing but an operation that makes: its result, at the end of an expression that began at H -/
theorem res_op (f : FS K cl n BL σ H1 fr1) (tr : ∀ a, H1 a = none → H a = none) (o : OR' K H1 H2 (bar cl BL σ fr1) z w) : FS K cl n BL σ H2 fr1 ∧ Res K cl n BL .fresh σ H H2 fr1 z w := by
  refine ⟨f.move o.kp, ?_⟩
  rcases o.res with h | ⟨p, rfl, hp, t⟩
  · exact .inl h
  · refine .inr ⟨p, rfl, tr p hp, f.more o.kp hp t.ne_none, ?_⟩
    exact t.move (O := fun _ => False) .refl (fun _ z => z.elim) (fun a z => .inl (bar_more z)) fun z => z
theorem ep_self (f : FS K cl n BL σ H fr) (h : Rep K H (bar cl BL σ fr) x v) : EP' K cl n BL [] .val σ H fr x fr v H :=
  ⟨f, .refl, fun i y h => ⟨y, h⟩, fun _ _ => rfl, h⟩
theorem ep_op0 (f : FS K cl n BL σ H fr) (o : OR' K H H2 (bar cl BL σ fr) z w) : EP' K cl n BL [] .fresh σ H fr z fr w H2 :=
  let r := res_op f (fun _ h => h) o
  ⟨r.1, o.kp.mono fun _ z => z.elim, fun i y h => ⟨y, h⟩, fun _ _ => rfl, r.2⟩
theorem ep_op1 (f : FS K cl n BL σ H fr) (e : EP' K cl n BL T md σ H fr x fr' v H') (o : OR' K H' H2 (bar cl BL σ fr') z w) : EP' K cl n BL T .fresh σ H fr z fr' w H2 :=
  let r := res_op e.fs e.kp.tr o
  ⟨r.1, e.kp.trans o.kp fun _ z => z.elim, e.le, e.tch, r.2⟩
theorem ep_op2 (f : FS K cl n BL σ H fr) (e : EP' K cl n BL T md σ H fr x fr' v H') (e2 : EP' K cl n BL T' md' σ H' fr' y fr1 u H1) (o : OR' K H1 H2 (bar cl BL σ fr1) z w) :
    EP' K cl n BL (T ++ T') .fresh σ H fr z fr1 w H2 :=
  let r := res_op e2.fs (fun a h => e.kp.tr a (e2.kp.tr a h)) o
  ⟨r.1, (e.seq_kp e2).trans o.kp fun _ z => z.elim, e.seq_le e2, e.seq_tch e2, r.2⟩
/-- a value of the frame, the heap as it is -/
theorem ep_val2 (f : FS K cl n BL σ H fr) (e : EP' K cl n BL T md σ H fr x fr' v H') (e2 : EP' K cl n BL T' md' σ H' fr' y fr1 u H1) (h : Rep K H1 (bar cl BL σ fr1) z w) :
    EP' K cl n BL (T ++ T') .val σ H fr z fr1 w H1 := ⟨e2.fs, e.seq_kp e2, e.seq_le e2, e.seq_tch e2, h⟩
theorem ep_val1 (e : EP' K cl n BL T md σ H fr x fr' v H') (h : Rep K H' (bar cl BL σ fr') z w) : EP' K cl n BL T .val σ H fr z fr' w H' := ⟨e.fs, e.kp, e.le, e.tch, h⟩
theorem EP'.more (e : EP' K cl n BL T md σ H fr x fr' v H') (h : ∀ i, i ∈ T → i ∈ T') : EP' K cl n BL T' md σ H fr x fr' v H' :=
  ⟨e.fs, e.kp.mono fun _ ⟨i, h1, h2⟩ => ⟨i, h i h1, h2⟩, e.le, fun i hi => e.tch i fun z => hi (h i z), e.res⟩
/-- weaker modes -/
def Md.le : Md → Md → Bool
  | .val, .val => true
  | .fresh, .val => true
  | .fresh, .fresh => true
  | .pl i, .pl j => i == j
  | _, _ => false
theorem EP'.weak (f : FS K cl n BL σ H fr) (e : EP' K cl n BL T md σ H fr x fr' v H') (h : md.le md' = true) : EP' K cl n BL T md' σ H fr x fr' v H' := by
  refine ⟨e.fs, e.kp, e.le, e.tch, ?_⟩
  cases md <;> cases md' <;> first | (simp [Md.le] at h; done) | skip
  · exact e.res
  · simp only [Md.le, beq_iff_eq] at h
    subst h; exact e.res
  · exact e.res.val e.fs f.blt
  · exact e.res
/-- an expression behind another, its value that of the second -/
theorem EP'.then' (f : FS K cl n BL σ H fr) (e : EP' K cl n BL T md σ H fr x fr' v H') (e2 : EP' K cl n BL T' md' σ H' fr' y fr1 u H1) : EP' K cl n BL (T ++ T') md' σ H fr y fr1 u H1 := by
  refine ⟨e2.fs, e.seq_kp e2, e.seq_le e2, e.seq_tch e2, ?_⟩
  cases md' with
  | val => exact e2.res
  | pl i => exact e2.res
  | fresh =>
    rcases e2.res with h | ⟨p, h1, h2, h3⟩
    · exact .inl h
    · exact .inr ⟨p, h1, e.kp.tr p h2, h3⟩
theorem Md.le_refl (m : Md) : m.le m = true := by cases m <;> simp [Md.le]
end

section
variable {X : Cx} {cl : Nat → Cls} {n : Nat} {T T' T1 T2 : List Nat} {md md' md1 md2 : Md} {a b c : Expr} {ma mb mc m : Fr → Option (PV × Fr)} {pos : Pos}

theorem se_weak (h : SE X cl n T md a m) (ht : ∀ i, i ∈ T → i ∈ T') (hm : md.le md' = true) : SE X cl n T' md' a m := PE.weak h fun σ H Q ⟨BL, fr, x, fr', f, e, k⟩ =>
  ⟨BL, fr, x, fr', f, e, fun v H' p => k v H' ((p.weak f hm).more ht)⟩
/-- a constant -/
theorem se_con {e : Expr} {w : V} {x : PV} (h : PE X e (tC w)) (r : ∀ {K H B}, Rep K H B x w) : SE X cl n [] .val e (fun fr => some (x, fr)) := PE.weak h fun σ H Q ⟨BL, fr, y, fr', f, e, k⟩ => by
  cases e
  exact k w H (ep_self f r)
/-- a slot -/
theorem se_sl {i : Nat} {e : Expr} (h : PE X e (tVar i)) : SE X cl n [] (.pl i) e (fun fr => (getS fr i).map fun v => (v, fr)) := PE.weak h fun σ H Q ⟨BL, fr, y, fr', f, e, k⟩ => by
  obtain ⟨x, hx, q⟩ := Option.map_eq_some_iff.mp e
  cases q
  have hi : fr[i]? = some (some y) := by
    unfold getS at hx
    cases q : fr[i]? with
    | none => rw [q] at hx; cases hx
    | some o => rw [q] at hx; cases o with
      | none => cases hx
      | some z => cases hx; rfl
  obtain ⟨v, h1, h2⟩ := f.repT hi
  exact ⟨v, h1, k v H ⟨f, .refl, fun i y h => ⟨y, h⟩, fun _ _ => rfl, hi, h1⟩⟩
theorem getS_some {fr : Fr} {i : Nat} {x : PV} : getS fr i = some x ↔ fr[i]? = some (some x) := by
  unfold getS
  cases q : fr[i]? with
  | none => simp
  | some o => cases o <;> simp
/-- a slot that holds plainly -/
theorem se_slP {i : Nat} {e : Expr} (h : PE X e (tVar i)) (hc : cl i = .P) : SE X cl n [] .val e (fun fr => (getS fr i).map fun v => (v, fr)) := PE.weak h fun σ H Q ⟨BL, fr, y, fr', f, e, k⟩ => by
  obtain ⟨x, hx, q⟩ := Option.map_eq_some_iff.mp e
  cases q
  have hi := getS_some.mp hx
  obtain ⟨v, h1, h2⟩ := f.slot i y hi
  rw [hc] at h2
  exact ⟨v, h1, k v H (ep_self f h2)⟩
theorem set_get {α : Type} {l : List α} {i j : Nat} {x : α} : (l.set i x)[j]? = if i = j then (if i < l.length then some x else none) else l[j]? := by
  by_cases h : i = j
  · subst h
    simp only [if_true]
    by_cases hi : i < l.length
    · rw [List.getElem?_set_self hi, if_pos hi]
    · rw [List.getElem?_eq_none (by simpa using hi), if_neg hi]
  · rw [List.getElem?_set_ne h, if_neg h]
/-- a slot read for good -/
theorem fs_mv {K : PySem.W.Frag} {BL : Addr → Prop} {σ : L2.St} {H : Hp} {fr : Fr} {i : Nat} (f : FS K cl n BL σ H fr) : FS K cl n BL σ H (fr.set i none) := by
  have le : ∀ (j : Nat) y, (fr.set i none)[j]? = some (some y) → ∃ y', fr[j]? = some (some y') := fun j y h => by
    rw [set_get] at h
    split at h
    · split at h <;> cases h
    · exact ⟨y, h⟩
  have le' : ∀ (j : Nat) y, (fr.set i none)[j]? = some (some y) → fr[j]? = some (some y) := fun j y h => by
    rw [set_get] at h
    split at h
    · split at h <;> cases h
    · exact h
  refine ⟨f.lσ, by rw [List.length_set]; exact f.lf, fun j x hj => ?_, fun j k a h1 h2 => f.inj j k a (h1.of le) (h2.of le), fun j a h => f.sep j a (h.of le), fun j k a ⟨z1, ⟨x, z2, z3⟩, z4⟩ h => f.lsp j k a ⟨z1, ⟨x, le' j x z2, z3⟩, z4⟩ (h.of le), f.blt⟩
  have hj' : fr[j]? = some (some x) := by
    rw [set_get] at hj
    split at hj
    · split at hj <;> cases hj
    · exact hj
  obtain ⟨v, h1, h2⟩ := f.slot j x hj'
  refine ⟨v, h1, ?_⟩
  have hb : ∀ a, bar cl BL σ (fr.set i none) a → bar cl BL σ fr a ∨ H a = none := fun a z => .inl (z.of le)
  cases h : cl j with
  | P => rw [h] at h2; exact Rep.move (O := fun _ => False) .refl (fun _ z => z.elim) hb h2
  | L => rw [h] at h2; exact RepT.move (O := fun _ => False) .refl (fun _ z => z.elim) hb (fun _ _ _ z => z) h2
  | M => rw [h] at h2; obtain ⟨a, e, q⟩ := h2; exact ⟨a, e, q.move (O := fun _ => False) .refl (fun _ z => z.elim) hb fun z => z⟩
theorem se_mv {i : Nat} {e : Expr} (h : PE X e (tVar i)) (hc : cl i = .M) : SE X cl n [i] .val e (fun fr => (getS fr i).map fun v => (v, fr.set i none)) := PE.weak h fun σ H Q ⟨BL, fr, y, fr', f, e, k⟩ => by
  obtain ⟨x, hx, q⟩ := Option.map_eq_some_iff.mp e
  cases q
  have hi := getS_some.mp hx
  obtain ⟨a, h1, h2, h3⟩ := f.own_at hi hc
  refine ⟨_, h1, k _ H ⟨fs_mv f, .refl, fun j y h => ?_, fun j hj => ?_, ?_⟩⟩
  · rw [set_get] at h
    split at h
    · split at h <;> cases h
    · exact ⟨y, h⟩
  · rw [List.getElem?_set_ne (by simpa using fun z : i = j => hj (by simp [z]))]
  · have nb : ¬ bar cl BL σ (fr.set i none) a := by
      rintro (z | ⟨j, z1, ⟨y', z2⟩, z3⟩)
      · exact f.sep i a h2 z
      · rw [set_get] at z2
        by_cases hij : i = j
        · rw [if_pos hij] at z2; split at z2 <;> cases z2
        · rw [if_neg hij] at z2
          exact hij (f.inj i j a h2 ⟨z1, ⟨y', z2⟩, z3⟩)
    have t : Top X.K H (bar cl BL σ (fr.set i none)) a y := h3.move (O := fun _ => False) .refl (fun _ z => z.elim) (fun b z => .inl ?_) fun z => z
    · exact t.rep nb
    · refine z.of fun j y h => ?_
      rw [set_get] at h
      split at h
      · split at h <;> cases h
      · exact ⟨y, h⟩

/-- what two operands are -/
theorem two {K : PySem.W.Frag} {BL : Addr → Prop} {σ : L2.St} {H : Hp} {fr fr2 : Fr} {z : PV} {g : PV → PV → Option PV} {Q : V → V → Hp → Prop}
    (f : FS K cl n BL σ H fr) (e : ((ma fr).bind fun p => (mb p.2).bind fun q => (g p.1 q.1).map fun v => (v, q.2)) = some (z, fr2))
    (k : ∀ x y fr1 v H1 u H2, ma fr = some (x, fr1) → EP' K cl n BL T1 md1 σ H fr x fr1 v H1 → EP' K cl n BL T2 md2 σ H1 fr1 y fr2 u H2 → g x y = some z → Q v u H2) :
    tE K cl n T1 md1 ma σ H fun v H1 => tE K cl n T2 md2 mb σ H1 fun u H2 => Q v u H2 := by
  obtain ⟨⟨x, fr1⟩, h1, h2⟩ := Option.bind_eq_some_iff.mp e
  obtain ⟨⟨y, fr3⟩, h3, h4⟩ := Option.bind_eq_some_iff.mp h2
  obtain ⟨z', h5, h6⟩ := Option.map_eq_some_iff.mp h4
  cases h6
  exact ⟨BL, fr, x, fr1, f, h1, fun v H1 p1 => ⟨BL, fr1, y, _, p1.fs, h3, fun u H2 p2 => k x y fr1 v H1 u H2 h1 p1 p2 h5⟩⟩

theorem se_bin {o : Operator} {g : PV → PV → Option PV} (ho : BinS X (binaryOp o) g) (ha : SE X cl n T1 md1 a ma) (hb : SE X cl n T2 md2 b mb) (hoff : md1.off T2 = true) :
    SE X cl n (T1 ++ T2) .fresh (.BinOp a o b pos) (fun fr => (ma fr).bind fun p => (mb p.2).bind fun q => (g p.1 q.1).map fun v => (v, q.2)) :=
  PE.weak (pe_op ho ha hb) fun σ H Q ⟨BL, fr, z, fr2, f, e, k⟩ => two f e fun x y fr1 v H1 u H2 _ p1 p2 hg =>
    ⟨_, x, y, z, p2.fs.bar_tr, p1.repT2 f p2 hoff, p2.repT p1.fs, hg, fun w H3 o => k w H3 (ep_op2 f p1 p2 o)⟩
theorem se_cmp {o : CmpOp} {g : PV → PV → Option PV} (ho : BinS X (compareOp o) g) (ha : SE X cl n T1 md1 a ma) (hb : SE X cl n T2 md2 b mb) (hoff : md1.off T2 = true) (hm : behindInMarks o b = false) :
    SE X cl n (T1 ++ T2) .fresh (.Compare a [o] [b] pos) (fun fr => (ma fr).bind fun p => (mb p.2).bind fun q => (g p.1 q.1).map fun v => (v, q.2)) :=
  PE.weak (pe_cmpR ho ha hb hm) fun σ H Q ⟨BL, fr, z, fr2, f, e, k⟩ => two f e fun x y fr1 v H1 u H2 _ p1 p2 hg =>
    ⟨_, x, y, z, p2.fs.bar_tr, p1.repT2 f p2 hoff, p2.repT p1.fs, hg, fun w H3 o => k w H3 (ep_op2 f p1 p2 o)⟩
theorem se_sub (hu : X.A.units + 64 < cLine) (ha : SE X cl n T1 md1 a ma) (hb : SE X cl n T2 md2 b mb) (hoff : md1.off T2 = true) (hs : PlainIx b) :
    SE X cl n (T1 ++ T2) .val (.Subscript a b pos) (fun fr => (ma fr).bind fun p => (mb p.2).bind fun q => (subop p.1 q.1).map fun v => (v, q.2)) :=
  PE.weak (pe_ix (ix_all hu) ha hb hs) fun σ H Q ⟨BL, fr, z, fr2, f, e, k⟩ => two f e fun x y fr1 v H1 u H2 _ p1 p2 hg =>
    ⟨_, x, y, z, p2.fs.bar_tr, p1.repT2 f p2 hoff, p2.repT p1.fs, hg, fun w r => k w H2 (ep_val2 f p1 p2 r)⟩

/-! ### tests -/
/-- a test's reading -/
def tT (K : PySem.W.Frag) (cl : Nat → Cls) (n : Nat) (T : List Nat) (m : Fr → Option (PV × Fr)) : TT := fun σ H Q =>
  ∃ BL fr b fr', FS K cl n BL σ H fr ∧ m fr = some (.bl b, fr') ∧ ∀ H', EP' K cl n BL T .val σ H fr (.bl b) fr' (.bl b) H' → Q b H'
def ST (X : Cx) (cl : Nat → Cls) (n : Nat) (T : List Nat) (e : Expr) (m : Fr → Option (PV × Fr)) : Prop := PT X e (tT X.K cl n T m)
theorem PT.weak {e : Expr} {t t' : TT} (h : PT X e t) (w : ∀ σ H Q, t' σ H Q → t σ H Q) : PT X e t' := ⟨fun pins s σ H Q I q => h.run pins s σ H Q I (w σ H Q q)⟩
theorem PW.weak {e : Expr} {t t' : TT} (h : PW X e t) (w : ∀ σ H Q, t' σ H Q → t σ H Q) : PW X e t' := ⟨fun wh pins s σ H Q I q => h.run wh pins s σ H Q I (w σ H Q q)⟩
/-- the value of a test -/
theorem ep_bl {K : PySem.W.Frag} {BL : Addr → Prop} {σ : L2.St} {H H' : Hp} {fr fr' : Fr} {b : Bool} {v : V} (f : FS K cl n BL σ H fr) (p : EP' K cl n BL T md σ H fr (.bl b) fr' v H') : v = .bl b ∧ EP' K cl n BL T .val σ H fr (.bl b) fr' (.bl b) H' := by
  have h : RepT K H' (bar cl BL σ fr') (.bl b) v := p.repT f
  cases (show Rep K H' _ (.bl b) v from h)
  exact ⟨rfl, p.fs, p.kp, p.le, p.tch, .bl b⟩
theorem st_val {e : Expr} (h : SE X cl n T md e m) (he : ∀ whole, isTrue e X.env whole = (do let v ← whole; standAt e.pos; holding [v] (truthy v))) : ST X cl n T e m :=
  PT.weak (pt_val h he) fun σ H Q ⟨BL, fr, b, fr', f, e, k⟩ => ⟨BL, fr, _, fr', f, e, fun v H' p => by
    obtain ⟨rfl, p'⟩ := ep_bl f p
    exact ⟨b, rfl, k H' p'⟩⟩
theorem st_cmp {o : CmpOp} {g : PV → PV → Option PV} (ho : BinS X (compareOp o) g) (ha : SE X cl n T1 md1 a ma) (hb : SE X cl n T2 md2 b mb) (hoff : md1.off T2 = true) (hm : behindInMarks o b = false) :
    ST X cl n (T1 ++ T2) (.Compare a [o] [b] pos) (fun fr => (ma fr).bind fun p => (mb p.2).bind fun q => (g p.1 q.1).map fun v => (v, q.2)) :=
  PT.weak (pt_cmpR ho ha hb hm) fun σ H Q ⟨BL, fr, z, fr2, f, e, k⟩ => two f e fun x y fr1 v H1 u H2 _ p1 p2 hg =>
    ⟨_, x, y, _, p2.fs.bar_tr, p1.repT2 f p2 hoff, p2.repT p1.fs, hg, fun w H3 o => by
      obtain ⟨rfl, p'⟩ := ep_bl f (ep_op2 f p1 p2 o)
      exact ⟨z, rfl, k H3 p'⟩⟩
theorem blOf_some {x : PV} {b : Bool} (h : blOf x = some b) : x = .bl b := by
  cases x <;> first | (simp [blOf] at h; done) | (simp only [blOf, Option.some.injEq] at h; rw [h])
theorem EP'.thenT {K : PySem.W.Frag} {BL : Addr → Prop} {σ : L2.St} {H H1 H2 : Hp} {fr fr1 fr2 : Fr} {x : PV} {v : V} {y : PV} {u : V} (p1 : EP' K cl n BL T1 md σ H fr x fr1 v H1) (f : FS K cl n BL σ H fr) (p2 : EP' K cl n BL T2 md' σ H1 fr1 y fr2 u H2) :
    EP' K cl n BL (T1 ++ T2) md' σ H fr y fr2 u H2 := EP'.then' f p1 p2
theorem EP'.left {K : PySem.W.Frag} {BL : Addr → Prop} {σ : L2.St} {H H1 : Hp} {fr fr1 : Fr} {x : PV} {v : V} (p1 : EP' K cl n BL T1 md σ H fr x fr1 v H1) : EP' K cl n BL (T1 ++ T2) md σ H fr x fr1 v H1 :=
  p1.more fun i h => List.mem_append_left _ h
/-- and, or, not as tests; sw: a BoolOp's rest -/
def SW (X : Cx) (cl : Nat → Cls) (n : Nat) (T : List Nat) (e : Expr) (m : Fr → Option (PV × Fr)) : Prop := PW X e (tT X.K cl n T m)
variable {rest : List Expr}
theorem sw_and1 (ha : ST X cl n T a m) : SW X cl n T (.BoolOp .And [a] pos) m := pw_and1 ha
theorem sw_or1 (ha : ST X cl n T a m) : SW X cl n T (.BoolOp .Or [a] pos) m := pw_or1 ha
theorem sw_and (ha : ST X cl n T1 a ma) (hb : SW X cl n T2 (.BoolOp .And (b :: rest) pos) mb) :
    SW X cl n (T1 ++ T2) (.BoolOp .And (a :: b :: rest) pos) (fun fr => (ma fr).bind fun p => (blOf p.1).bind fun t => if t = true then mb p.2 else some (.bl false, p.2)) :=
  PW.weak (pw_and ha hb) fun σ H Q ⟨BL, fr, z, fr2, f, e, k⟩ => by
    obtain ⟨⟨x, fr1⟩, h1, h2⟩ := Option.bind_eq_some_iff.mp e
    obtain ⟨t, h3, h4⟩ := Option.bind_eq_some_iff.mp h2
    obtain rfl := blOf_some h3
    refine ⟨BL, fr, t, fr1, f, h1, fun H1 p1 => ?_⟩
    cases t with
    | true => exact ⟨BL, fr1, z, fr2, p1.fs, h4, fun H2 p2 => k H2 (p1.thenT f p2)⟩
    | false =>
      cases h4
      exact k H1 p1.left
theorem sw_or (ha : ST X cl n T1 a ma) (hb : SW X cl n T2 (.BoolOp .Or (b :: rest) pos) mb) :
    SW X cl n (T1 ++ T2) (.BoolOp .Or (a :: b :: rest) pos) (fun fr => (ma fr).bind fun p => (blOf p.1).bind fun t => if t = true then some (.bl true, p.2) else mb p.2) :=
  PW.weak (pw_or ha hb) fun σ H Q ⟨BL, fr, z, fr2, f, e, k⟩ => by
    obtain ⟨⟨x, fr1⟩, h1, h2⟩ := Option.bind_eq_some_iff.mp e
    obtain ⟨t, h3, h4⟩ := Option.bind_eq_some_iff.mp h2
    obtain rfl := blOf_some h3
    refine ⟨BL, fr, t, fr1, f, h1, fun H1 p1 => ?_⟩
    cases t with
    | false => exact ⟨BL, fr1, z, fr2, p1.fs, h4, fun H2 p2 => k H2 (p1.thenT f p2)⟩
    | true =>
      cases h4
      exact k H1 p1.left
theorem SW.st {e : Expr} (h : SW X cl n T e m) : ST X cl n T e m := PW.pt h
theorem st_not (ha : ST X cl n T a ma) : ST X cl n T (.UnaryOp .Not a pos) (fun fr => (ma fr).bind fun p => (blOf p.1).map fun t => (.bl !t, p.2)) :=
  PT.weak (pt_not ha) fun σ H Q ⟨BL, fr, z, fr2, f, e, k⟩ => by
    obtain ⟨⟨x, fr1⟩, h1, h2⟩ := Option.bind_eq_some_iff.mp e
    obtain ⟨t, h3, h4⟩ := Option.map_eq_some_iff.mp h2
    obtain rfl := blOf_some h3
    cases h4
    exact ⟨BL, fr, t, _, f, h1, fun H1 p1 => k H1 ⟨p1.fs, p1.kp, p1.le, p1.tch, .bl _⟩⟩
/-! .. as values -/
theorem se_one {o : BoolOp} (ha : SE X cl n T md a m) : SE X cl n T md (.BoolOp o [a] pos) m := pe_one ha
theorem se_and (ha : SE X cl n T1 md1 a ma) (hb : SE X cl n T2 md2 (.BoolOp .And (b :: rest) pos) mb) (hm : md2.le .val = true) :
    SE X cl n (T1 ++ T2) .val (.BoolOp .And (a :: b :: rest) pos) (fun fr => (ma fr).bind fun p => (blOf p.1).bind fun t => if t = true then mb p.2 else some (.bl false, p.2)) :=
  PE.weak (pe_and ha hb) fun σ H Q ⟨BL, fr, z, fr2, f, e, k⟩ => by
    obtain ⟨⟨x, fr1⟩, h1, h2⟩ := Option.bind_eq_some_iff.mp e
    obtain ⟨t, h3, h4⟩ := Option.bind_eq_some_iff.mp h2
    obtain rfl := blOf_some h3
    refine ⟨BL, fr, _, fr1, f, h1, fun v H1 p1 => ?_⟩
    obtain ⟨rfl, p1'⟩ := ep_bl f p1
    refine ⟨t, rfl, ?_⟩
    cases t with
    | true => exact ⟨BL, fr1, z, fr2, p1.fs, h4, fun u H2 p2 => k u H2 (p1.thenT f (p2.weak p1.fs hm))⟩
    | false =>
      cases h4
      exact k _ H1 p1'.left
theorem se_or (ha : SE X cl n T1 md1 a ma) (hb : SE X cl n T2 md2 (.BoolOp .Or (b :: rest) pos) mb) (hm : md2.le .val = true) :
    SE X cl n (T1 ++ T2) .val (.BoolOp .Or (a :: b :: rest) pos) (fun fr => (ma fr).bind fun p => (blOf p.1).bind fun t => if t = true then some (.bl true, p.2) else mb p.2) :=
  PE.weak (pe_or ha hb) fun σ H Q ⟨BL, fr, z, fr2, f, e, k⟩ => by
    obtain ⟨⟨x, fr1⟩, h1, h2⟩ := Option.bind_eq_some_iff.mp e
    obtain ⟨t, h3, h4⟩ := Option.bind_eq_some_iff.mp h2
    obtain rfl := blOf_some h3
    refine ⟨BL, fr, _, fr1, f, h1, fun v H1 p1 => ?_⟩
    obtain ⟨rfl, p1'⟩ := ep_bl f p1
    refine ⟨t, rfl, ?_⟩
    cases t with
    | false => exact ⟨BL, fr1, z, fr2, p1.fs, h4, fun u H2 p2 => k u H2 (p1.thenT f (p2.weak p1.fs hm))⟩
    | true =>
      cases h4
      exact k _ H1 p1'.left
theorem se_not (ha : SE X cl n T md a ma) : SE X cl n T .val (.UnaryOp .Not a pos) (fun fr => (ma fr).bind fun p => (blOf p.1).map fun t => (.bl !t, p.2)) :=
  PE.weak (pe_not ha) fun σ H Q ⟨BL, fr, z, fr2, f, e, k⟩ => by
    obtain ⟨⟨x, fr1⟩, h1, h2⟩ := Option.bind_eq_some_iff.mp e
    obtain ⟨t, h3, h4⟩ := Option.map_eq_some_iff.mp h2
    obtain rfl := blOf_some h3
    cases h4
    refine ⟨BL, fr, _, _, f, h1, fun v H1 p1 => ?_⟩
    obtain ⟨rfl, p1'⟩ := ep_bl f p1
    exact ⟨t, rfl, k _ H1 ⟨p1.fs, p1.kp, p1.le, p1.tch, .bl _⟩⟩
theorem se_ife (hc : ST X cl n T c mc) (ha : SE X cl n T1 md1 a ma) (hb : SE X cl n T2 md2 b mb) (h1 : md1.le md = true) (h2 : md2.le md = true) :
    SE X cl n (T ++ (T1 ++ T2)) md (.IfExp c a b pos) (fun fr => (mc fr).bind fun p => (blOf p.1).bind fun t => if t = true then ma p.2 else mb p.2) :=
  PE.weak (pe_ifExp hc ha hb) fun σ H Q ⟨BL, fr, z, fr2, f, e, k⟩ => by
    obtain ⟨⟨x, fr1⟩, e1, e2⟩ := Option.bind_eq_some_iff.mp e
    obtain ⟨t, e3, e4⟩ := Option.bind_eq_some_iff.mp e2
    obtain rfl := blOf_some e3
    refine ⟨BL, fr, t, fr1, f, e1, fun H1 p1 => ?_⟩
    cases t with
    | true => exact ⟨BL, fr1, z, fr2, p1.fs, e4, fun u H2 p2 => k u H2 (p1.thenT f ((p2.weak p1.fs h1).left))⟩
    | false => exact ⟨BL, fr1, z, fr2, p1.fs, e4, fun u H2 p2 => k u H2 (p1.thenT f ((p2.weak p1.fs h2).more fun i h => List.mem_append_right _ h))⟩
theorem se_neg (ha : SE X cl n T md a ma) : SE X cl n T .val (.UnaryOp .USub a pos) (fun fr => (ma fr).bind fun p => (intOf p.1).map fun i => (.int (-i), p.2)) :=
  PE.weak (pe_un un_neg ha) fun σ H Q ⟨BL, fr, z, fr2, f, e, k⟩ => by
    obtain ⟨⟨x, fr1⟩, h1, h2⟩ := Option.bind_eq_some_iff.mp e
    obtain ⟨t, h3, h4⟩ := Option.map_eq_some_iff.mp h2
    cases h4
    refine ⟨BL, fr, _, _, f, h1, fun v H1 p1 => ?_⟩
    cases x <;> first | (simp [intOf] at h3; done) | skip
    cases h3
    have h : RepT X.K H1 _ (.int t) v := p1.repT f
    cases (show Rep X.K H1 _ (.int t) v from h)
    exact ⟨t, rfl, k _ H1 ⟨p1.fs, p1.kp, p1.le, p1.tch, .int _⟩⟩
end
end EV

set_option linter.all false
set_option Elab.async false
set_option maxRecDepth 100000
/-! Ev5: rows of expressions; displays; calls of built-in functions. -/
namespace EV
open PySem L2 PySem.Spec PyProof.Rows

/-- how an argument is handed on: a value; slot i lent; slot i to be changed -/
inductive Am where | v | l (i : Nat) | m (i : Nat)
  deriving DecidableEq
def ArgR (K : PySem.W.Frag) (B : Addr → Prop) (σ : L2.St) (H : Hp) (fr : Fr) : Am → PV → V → Prop
  | .v, x, u => Rep K H B x u
  | .l i, x, u => fr[i]? = some (some x) ∧ σ[i]? = some (some u)
  | .m i, x, u => σ[i]? = some (some u)
inductive ArgsR (K : PySem.W.Frag) (B : Addr → Prop) (σ : L2.St) (H : Hp) (fr : Fr) : List Am → List PV → List V → Prop
  | nil : ArgsR K B σ H fr [] [] []
  | cons {am : Am} {ams : List Am} {x : PV} {xs : List PV} {u : V} {us : List V} : ArgR K B σ H fr am x u → ArgsR K B σ H fr ams xs us → ArgsR K B σ H fr (am :: ams) (x :: xs) (u :: us)
structure AP' (K : PySem.W.Frag) (cl : Nat → Cls) (n : Nat) (BL : Addr → Prop) (T : List Nat) (ams : List Am) (σ : L2.St) (H : Hp) (fr : Fr) (xs : List PV) (fr' : Fr) (vs : List V) (H' : Hp) : Prop where
  fs : FS K cl n BL σ H' fr'
  kp : Kp H H' (ownT cl σ fr T)
  le : ∀ (i : Nat) y, fr'[i]? = some (some y) → ∃ y', fr[i]? = some (some y')
  tch : ∀ i, i ∉ T → fr'[i]? = fr[i]?
  res : ArgsR K (bar cl BL σ fr') σ H' fr' ams xs vs
def tA (K : PySem.W.Frag) (cl : Nat → Cls) (n : Nat) (T : List Nat) (ams : List Am) (m : Fr → Option (List PV × Fr)) : TA := fun σ H Q =>
  ∃ BL fr xs fr', FS K cl n BL σ H fr ∧ m fr = some (xs, fr') ∧ ∀ vs H', AP' K cl n BL T ams σ H fr xs fr' vs H' → Q vs H'
def SA (X : Cx) (cl : Nat → Cls) (n : Nat) (T : List Nat) (ams : List Am) (es : List Expr) (m : Fr → Option (List PV × Fr)) : Prop := PA X es (tA X.K cl n T ams m)
theorem PA.weak {X : Cx} {es : List Expr} {t t' : TA} (h : PA X es t) (w : ∀ σ H Q, t' σ H Q → t σ H Q) : PA X es t' := ⟨fun pos pins s σ H Q I q => h.run pos pins s σ H Q I (w σ H Q q)⟩
/-- an argument of mode md handed on as am, T being touched behind it -/
def amOk : Md → Am → List Nat → Bool
  | .val, .v, _ => true
  | .fresh, .v, _ => true
  | .pl i, .l j, T => i == j && !T.contains i
  | .pl i, .m j, _ => i == j
  | _, _, _ => false

section
variable {X : Cx} {cl : Nat → Cls} {n : Nat} {T T' T1 T2 : List Nat} {md md' md1 md2 : Md} {am : Am} {ams : List Am} {a b c : Expr} {es : List Expr} {ma mb mc m : Fr → Option (PV × Fr)} {ms : Fr → Option (List PV × Fr)} {pos : Pos}
theorem sa_nil : SA X cl n [] [] [] (fun fr => some ([], fr)) := PA.weak pa_nil fun σ H Q ⟨BL, fr, xs, fr', f, e, k⟩ => by
  cases e
  exact k [] H ⟨f, .refl, fun i y h => ⟨y, h⟩, fun _ _ => rfl, .nil⟩
theorem sa_cons (ha : SE X cl n T1 md a ma) (hr : SA X cl n T2 ams es ms) (hm : amOk md am T2 = true) (hs : starEach (a :: es) X.env = (false, eval a X.env) :: starEach es X.env) :
    SA X cl n (T1 ++ T2) (am :: ams) (a :: es) (fun fr => (ma fr).bind fun p => (ms p.2).map fun q => (p.1 :: q.1, q.2)) :=
  PA.weak (pa_cons ha hr hs) fun σ H Q ⟨BL, fr, zs, fr2, f, e, k⟩ => by
    obtain ⟨⟨x, fr1⟩, h1, h2⟩ := Option.bind_eq_some_iff.mp e
    obtain ⟨⟨xs, fr3⟩, h3, h4⟩ := Option.map_eq_some_iff.mp h2
    cases h4
    refine ⟨BL, fr, x, fr1, f, h1, fun v H1 p1 => ⟨BL, fr1, xs, fr3, p1.fs, h3, fun vs H2 p2 => k (v :: vs) H2 ?_⟩⟩
    refine ⟨p2.fs, (p1.kp.mono fun _ h => ownT.app (.inl h)).trans p2.kp fun a ⟨i, h1, h2⟩ => .inl ⟨i, List.mem_append_right _ h1, h2.of p1.le⟩, fun i y h => ?_, fun i h => ?_, .cons ?_ p2.res⟩
    · obtain ⟨y', h'⟩ := p2.le i y h
      exact p1.le i y' h'
    · rw [List.mem_append, not_or] at h
      rw [p2.tch i h.2, p1.tch i h.1]
    · have over : Rep X.K H1 (bar cl BL σ fr1) x v → Rep X.K H2 (bar cl BL σ fr3) x v := fun r =>
        Rep.move p2.kp p1.fs.ownT_bar (fun a z => .inl (z.of p2.le)) r
      cases md <;> cases am <;> first | (simp [amOk] at hm; done) | skip
      · exact over p1.res
      · simp only [amOk, Bool.and_eq_true, beq_iff_eq] at hm
        obtain ⟨rfl, hm⟩ := hm
        obtain ⟨q1, q2⟩ := p1.res
        exact ⟨by rw [p2.tch _ (by simpa using hm)]; exact q1, q2⟩
      · simp only [amOk, beq_iff_eq] at hm
        subst hm
        exact p1.res.2
      · exact over (p1.res.val p1.fs f.blt)
theorem ArgsR.vals {K : PySem.W.Frag} {B : Addr → Prop} {σ : L2.St} {H : Hp} {fr : Fr} : ∀ {ams : List Am} {xs : List PV} {vs : List V}, (∀ a ∈ ams, a = .v) → ArgsR K B σ H fr ams xs vs → RepL K H B xs vs
  | _, _, _, _, .nil => .nil
  | _, _, _, h, .cons r t => by
    obtain rfl := h _ List.mem_cons_self
    exact .cons r (ArgsR.vals (fun a ha => h a (List.mem_cons_of_mem _ ha)) t)
theorem ArgsR.length {K : PySem.W.Frag} {B : Addr → Prop} {σ : L2.St} {H : Hp} {fr : Fr} : ∀ {ams : List Am} {xs : List PV} {vs : List V}, ArgsR K B σ H fr ams xs vs → xs.length = ams.length ∧ vs.length = ams.length
  | _, _, _, .nil => ⟨rfl, rfl⟩
  | _, _, _, .cons _ t => ⟨congrArg (· + 1) t.length.1, congrArg (· + 1) t.length.2⟩
theorem AP'.op {K : PySem.W.Frag} {BL : Addr → Prop} {σ : L2.St} {H H1 H2 : Hp} {fr fr1 : Fr} {xs : List PV} {vs : List V} {z : PV} {w : V} (p : AP' K cl n BL T ams σ H fr xs fr1 vs H1) (o : OR' K H1 H2 (bar cl BL σ fr1) z w) :
    EP' K cl n BL T .fresh σ H fr z fr1 w H2 :=
  let r := res_op p.fs p.kp.tr o
  ⟨r.1, p.kp.trans o.kp fun _ z => z.elim, p.le, p.tch, r.2⟩
theorem AP'.val {K : PySem.W.Frag} {BL : Addr → Prop} {σ : L2.St} {H H1 : Hp} {fr fr1 : Fr} {xs : List PV} {vs : List V} {z : PV} {w : V} (p : AP' K cl n BL T ams σ H fr xs fr1 vs H1) (o : Rep K H1 (bar cl BL σ fr1) z w) :
    EP' K cl n BL T .val σ H fr z fr1 w H1 := ⟨p.fs, p.kp, p.le, p.tch, o⟩
/-- the arguments of a built-in: read as they stand -/
theorem ArgsR.repT {K : PySem.W.Frag} {BL : Addr → Prop} {σ : L2.St} {H : Hp} {fr : Fr} (f : FS K cl n BL σ H fr) {x : PV} {v : V} (h : ArgR K (bar cl BL σ fr) σ H fr am x v) (hm : ∀ i, am ≠ .m i) : RepT K H (bar cl BL σ fr) x v := by
  cases am with
  | v => exact Rep.top h
  | l i =>
    obtain ⟨h1, h2⟩ := h
    obtain ⟨v', h3, h4⟩ := f.repT h1
    rw [h2] at h3; cases h3
    exact h4
  | m i => exact absurd rfl (hm i)
/-- (a, b, ..), [a, b, ..] -/
theorem se_tup {k : Nat} (h : SA X cl n T ams es ms) (ha : ∀ a ∈ ams, a = .v) (hl : ams.length ≤ 1000) : SE X cl n T .fresh (.Tuple es k pos) (fun fr => (ms fr).map fun p => (.tup p.1, p.2)) :=
  PE.weak (pe_tup h) fun σ H Q ⟨BL, fr, z, fr2, f, e, k⟩ => by
    obtain ⟨⟨xs, fr1⟩, h1, h2⟩ := Option.map_eq_some_iff.mp e
    cases h2
    refine ⟨BL, fr, xs, fr1, f, h1, fun vs H1 p => ?_⟩
    have hz : vs.length ≤ sizeLine := by rw [p.res.length.2, sizeLine_eq]; omega
    exact ⟨hz, fun q hq => k _ _ (p.op (or_tup hq hz (p.res.vals ha)))⟩
theorem se_lst (h : SA X cl n T ams es ms) (ha : ∀ a ∈ ams, a = .v) (hl : ams.length ≤ 1000) : SE X cl n T .fresh (.List es pos) (fun fr => (ms fr).map fun p => (.lst p.1, p.2)) :=
  PE.weak (pe_lst h) fun σ H Q ⟨BL, fr, z, fr2, f, e, k⟩ => by
    obtain ⟨⟨xs, fr1⟩, h1, h2⟩ := Option.map_eq_some_iff.mp e
    cases h2
    refine ⟨BL, fr, xs, fr1, f, h1, fun vs H1 p => ?_⟩
    have hz : vs.length ≤ sizeLine := by rw [p.res.length.2, sizeLine_eq]; omega
    exact ⟨hz, fun q hq => k _ _ (p.op (or_lst hq hz (p.res.vals ha)))⟩

/-! ### built-in functions, by values -/
inductive RepTL (K : PySem.W.Frag) (H : Hp) (B : Addr → Prop) : List PV → List V → Prop
  | nil : RepTL K H B [] []
  | cons {x : PV} {xs : List PV} {y : V} {ys : List V} : RepT K H B x y → RepTL K H B xs ys → RepTL K H B (x :: xs) (y :: ys)
def rB (K : PySem.W.Frag) (g : List PV → Option PV) : List V → Hp → VK → Prop := fun vs H Q =>
  ∃ B xs z, (∀ a, B a → H a ≠ none) ∧ RepTL K H B xs vs ∧ g xs = some z ∧ ∀ v H', OR' K H H' B z v → Q v H'
def BiS (X : Cx) (f : Value) (g : List PV → Option PV) : Prop := CallR X f (rB X.K g)
theorem ArgsR.tops {K : PySem.W.Frag} {BL : Addr → Prop} {σ : L2.St} {H : Hp} {fr : Fr} (f : FS K cl n BL σ H fr) : ∀ {ams : List Am} {xs : List PV} {vs : List V}, (∀ a ∈ ams, ∀ i, a ≠ .m i) → ArgsR K (bar cl BL σ fr) σ H fr ams xs vs → RepTL K H (bar cl BL σ fr) xs vs
  | _, _, _, _, .nil => .nil
  | _, _, _, h, .cons r t => .cons (ArgsR.repT f r (h _ List.mem_cons_self)) (ArgsR.tops f (fun a ha => h a (List.mem_cons_of_mem _ ha)) t)
theorem se_bi {x : Str} {id : String} {g : List PV → Option PV} {p : Pos} (hf : BiS X (.builtin id) g) (hg : Gl X x) (hm : X.mg x = none) (hv : bootBuiltins x = some (.builtin id)) (h : SA X cl n T ams (a :: es) ms) (ha : ∀ a ∈ ams, ∀ i, a ≠ .m i)
    (hn : x ≠ "__name__") (hdb : (x == ("__debug__" : Str)) = false) (he : starEach (a :: es) X.env = (false, eval a X.env) :: starEach es X.env) (hpl : (backTo pos (starEach es X.env)).any (·.1) = false) :
    SE X cl n T .fresh (.Call (.Name x p) (a :: es) [] pos) (fun fr => (ms fr).bind fun p => (g p.1).map fun v => (v, p.2)) :=
  PE.weak (pe_callB hf hg hm hv h hn hdb he hpl) fun σ H Q ⟨BL, fr, z, fr2, f, e, k⟩ => by
    obtain ⟨⟨xs, fr1⟩, h1, h2⟩ := Option.bind_eq_some_iff.mp e
    obtain ⟨z', h3, h4⟩ := Option.map_eq_some_iff.mp h2
    cases h4
    exact ⟨BL, fr, xs, fr1, f, h1, fun vs H1 p => ⟨_, xs, _, p.fs.bar_tr, p.res.tops p.fs ha, h3, fun v H' o => k v H' (p.op o)⟩⟩
theorem se_biT {x : Str} {id : String} {g : List PV → Option PV} {p : Pos} (hf : BiS X (.type id) g) (hg : Gl X x) (hm : X.mg x = none) (hv : bootBuiltins x = some (.type id)) (h : SA X cl n T ams (a :: es) ms) (ha : ∀ a ∈ ams, ∀ i, a ≠ .m i)
    (hn : x ≠ "__name__") (hdb : (x == ("__debug__" : Str)) = false) (he : starEach (a :: es) X.env = (false, eval a X.env) :: starEach es X.env) (hpl : (backTo pos (starEach es X.env)).any (·.1) = false) :
    SE X cl n T .fresh (.Call (.Name x p) (a :: es) [] pos) (fun fr => (ms fr).bind fun p => (g p.1).map fun v => (v, p.2)) :=
  PE.weak (pe_callTy hf hg hm hv h hn hdb he hpl) fun σ H Q ⟨BL, fr, z, fr2, f, e, k⟩ => by
    obtain ⟨⟨xs, fr1⟩, h1, h2⟩ := Option.bind_eq_some_iff.mp e
    obtain ⟨z', h3, h4⟩ := Option.map_eq_some_iff.mp h2
    cases h4
    exact ⟨BL, fr, xs, fr1, f, h1, fun vs H1 p => ⟨_, xs, _, p.fs.bar_tr, p.res.tops p.fs ha, h3, fun v H' o => k v H' (p.op o)⟩⟩
end
end EV

set_option linter.all false
set_option Elab.async false
set_option maxRecDepth 100000
/-! Ev6: the built-in functions. -/
namespace EV
open PySem L2 PySem.Spec PyProof.Rows

section
variable {X : Cx} {K : PySem.W.Frag} {H : Hp} {B : Addr → Prop}
theorem tl1 {x : PV} {vs : List V} (h : RepTL K H B [x] vs) : ∃ v, vs = [v] ∧ RepT K H B x v := by
  cases h with
  | cons h t => cases t; exact ⟨_, rfl, h⟩
theorem tl2 {x y : PV} {vs : List V} (h : RepTL K H B [x, y] vs) : ∃ v u, vs = [v, u] ∧ RepT K H B x v ∧ RepT K H B y u := by
  cases h with
  | cons h t =>
    cases t with
    | cons h2 t2 => cases t2; exact ⟨_, _, rfl, h, h2⟩
theorem CallR.cases {f : Value} {r' : List V → Hp → VK → Prop} (h : ∀ xs H Q, r' xs H Q → ∃ r, CallR X f r ∧ r xs H Q) : CallR X f r' := fun pins s σ H xs us Q I rx q =>
  let ⟨r, h1, h2⟩ := h xs H Q q
  h1 pins s σ H xs us Q I rx h2
theorem intsOf_eq : ∀ {xs : List PV} {ns : List Int}, intsOf xs = some ns → xs = ns.map .int
  | [], _, h => by cases h; rfl
  | .int i :: xs, _, h => by
    simp only [intsOf] at h
    obtain ⟨ns, h1, rfl⟩ := Option.map_eq_some_iff.mp h
    rw [intsOf_eq h1]; rfl
  | .non :: _, _, h => by simp [intsOf] at h
  | .bl _ :: _, _, h => by simp [intsOf] at h
  | .str _ :: _, _, h => by simp [intsOf] at h
  | .tup _ :: _, _, h => by simp [intsOf] at h
  | .lst _ :: _, _, h => by simp [intsOf] at h
  | .dct _ :: _, _, h => by simp [intsOf] at h
  | .ins _ _ :: _, _, h => by simp [intsOf] at h
  | .fn _ :: _, _, h => by simp [intsOf] at h
  | .bm _ _ :: _, _, h => by simp [intsOf] at h
  | .scr _ :: _, _, h => by simp [intsOf] at h
theorem blsOf_eq : ∀ {xs : List PV} {ns : List Bool}, blsOf xs = some ns → xs = ns.map .bl
  | [], _, h => by cases h; rfl
  | .bl i :: xs, _, h => by
    simp only [blsOf] at h
    obtain ⟨ns, h1, rfl⟩ := Option.map_eq_some_iff.mp h
    rw [blsOf_eq h1]; rfl
  | .non :: _, _, h => by simp [blsOf] at h
  | .int _ :: _, _, h => by simp [blsOf] at h
  | .str _ :: _, _, h => by simp [blsOf] at h
  | .tup _ :: _, _, h => by simp [blsOf] at h
  | .lst _ :: _, _, h => by simp [blsOf] at h
  | .dct _ :: _, _, h => by simp [blsOf] at h
  | .ins _ _ :: _, _, h => by simp [blsOf] at h
  | .fn _ :: _, _, h => by simp [blsOf] at h
  | .bm _ _ :: _, _, h => by simp [blsOf] at h
  | .scr _ :: _, _, h => by simp [blsOf] at h
theorem repL_ints : ∀ {ns : List Int} {vs : List V}, RepL K H B (ns.map .int) vs → vs = ns.map V.int
  | [], _, h => by cases h; rfl
  | n :: ns, _, h => by
    cases h with
    | cons h t => cases h; rw [repL_ints t]; rfl
theorem repL_bls : ∀ {ns : List Bool} {vs : List V}, RepL K H B (ns.map .bl) vs → vs = ns.map V.bl
  | [], _, h => by cases h; rfl
  | n :: ns, _, h => by
    cases h with
    | cons h t => cases h; rw [repL_bls t]; rfl
theorem bi_abs : BiS X (.builtin "abs") (biop .abs) := CallR.cases fun vs H Q ⟨B, xs, z, hB, hx, hg, k⟩ => by
  match xs, hg with
  | [.int i], hg =>
    obtain ⟨v, rfl, h1⟩ := tl1 hx
    cases (show Rep X.K H B _ v from h1)
    cases hg
    refine ⟨_, call_abs, _, rfl, ?_⟩
    have e : (if i < 0 then -i else i) = (i.natAbs : Int) := by split <;> omega
    rw [e]
    exact k _ _ (or_im (.int _) rfl)
theorem bi_len : BiS X (.builtin "len") (biop .len) := CallR.cases fun vs H Q ⟨B, xs, z, hB, hx, hg, k⟩ => by
  match xs, hg with
  | [.tup xs], hg =>
    obtain ⟨v, rfl, h1⟩ := tl1 hx
    cases (show Rep X.K H B _ v from h1) with
    | tup ha za ra =>
    cases hg
    exact ⟨_, call_len_seq, _, _, rfl, .inr ha, by rw [← ra.length]; exact k _ _ (or_im (.int _) rfl)⟩
  | [.lst xs], hg =>
    obtain ⟨v, rfl, h1⟩ := tl1 hx
    obtain ⟨a, ys, rfl, ha, za, ra⟩ := h1
    cases hg
    exact ⟨_, call_len_seq, _, _, rfl, .inl (.of ha), by rw [← ra.length]; exact k _ _ (or_im (.int _) rfl)⟩
  | [.str s], hg =>
    obtain ⟨v, rfl, h1⟩ := tl1 hx
    cases (show Rep X.K H B _ v from h1)
    simp only [biop] at hg
    split at hg <;> cases hg
    rename_i hz
    exact ⟨_, call_len, _, _, rfl, ⟨by rw [tStr_len, line_eq]; exact hz, rfl⟩, by rw [tStr_len]; exact k _ _ (or_im (.int _) rfl)⟩
  | [.dct kvs], hg =>
    obtain ⟨v, rfl, h1⟩ := tl1 hx
    obtain ⟨a, ws, rfl, ha, za, ra⟩ := h1
    cases hg
    refine ⟨fun xs H Q => ∃ a kvs, xs = [V.ref a] ∧ Rd H a (.dK kvs) ∧ Q (.int kvs.length) H, ?_, a, ws, rfl, ha, by rw [← ra.length]; exact k _ _ (or_im (.int _) rfl)⟩
    intro pins s σ H xs us Q I r ⟨a, kvs, e, ha, q⟩
    subst e
    obtain ⟨u, rfl, ru⟩ := vals1 r
    cases ru
    exact d_len I ha fun t s' I' => ⟨.int kvs.length, H, I', ⟨t, rfl⟩, q⟩
  | [.scr ns], hg =>
    obtain ⟨v, rfl, h1⟩ := tl1 hx
    cases (show Rep X.K H B _ v from h1) with
    | scr ha za =>
    cases hg
    exact ⟨_, call_len_seq, _, _, rfl, .inl ha.sq, by rw [List.length_map]; exact k _ _ (or_im (.int _) rfl)⟩
theorem bi_int : BiS X (.type "int") (biop .int) := CallR.cases fun vs H Q ⟨B, xs, z, hB, hx, hg, k⟩ => by
  match xs, hg with
  | [.int i], hg =>
    obtain ⟨v, rfl, h1⟩ := tl1 hx
    cases (show Rep X.K H B _ v from h1)
    cases hg
    exact ⟨_, call_int1, .inl ⟨_, rfl, k _ _ (or_im (.int _) rfl)⟩⟩
  | [.bl b], hg =>
    obtain ⟨v, rfl, h1⟩ := tl1 hx
    cases (show Rep X.K H B _ v from h1)
    cases hg
    exact ⟨_, call_int1, .inr ⟨_, rfl, k _ _ (or_im (.int _) rfl)⟩⟩
theorem bi_tuple : BiS X (.type "tuple") (biop .tuple) := CallR.cases fun vs H Q ⟨B, xs, z, hB, hx, hg, k⟩ => by
  match xs, hg with
  | [.tup xs], hg =>
    obtain ⟨v, rfl, h1⟩ := tl1 hx
    cases (show Rep X.K H B _ v from h1) with
    | tup ha za ra =>
    cases hg
    exact ⟨_, call_tuple_of, _, _, rfl, .inr ⟨ha, k _ _ (or_im (.tup ha za ra) rfl)⟩⟩
  | [.lst xs], hg =>
    obtain ⟨v, rfl, h1⟩ := tl1 hx
    obtain ⟨a, ys, rfl, ha, za, ra⟩ := h1
    cases hg
    exact ⟨_, call_tuple_of, _, _, rfl, .inl ⟨.of ha, fun l hl => k _ _ (or_tup hl za ra)⟩⟩
theorem bi_list : BiS X (.type "list") (biop .list) := CallR.cases fun vs H Q ⟨B, xs, z, hB, hx, hg, k⟩ => by
  match xs, hg with
  | [.tup xs], hg =>
    obtain ⟨v, rfl, h1⟩ := tl1 hx
    cases (show Rep X.K H B _ v from h1) with
    | tup ha za ra =>
    cases hg
    exact ⟨_, call_list_of, _, _, rfl, .inr ha, fun l hl => k _ _ (or_lst hl za ra)⟩
  | [.lst xs], hg =>
    obtain ⟨v, rfl, h1⟩ := tl1 hx
    obtain ⟨a, ys, rfl, ha, za, ra⟩ := h1
    cases hg
    exact ⟨_, call_list_of, _, _, rfl, .inl (.of ha), fun l hl => k _ _ (or_lst hl za ra)⟩
theorem cr_sumT (hc : X.calm = true) : CallR X (.builtin "sum") (fun vs H Q => ∃ (a : Addr) (ns : List Int), vs = [V.ref a] ∧ SqT X.K H a (ns.map V.int) ∧ Q (.int ns.sum) H) := by
  intro pins s σ H vs us Q I r h
  obtain ⟨a, ns, rfl, hs, q⟩ := h
  obtain ⟨its, rv, hl, _⟩ := I.tuple hs
  rw [Vals.ref1 r]
  have hi := rv.ints
  obtain ⟨xs, e⟩ := hi.allInts.items
  have hn : numsOf (intItems xs).toList = ns := by rw [← e]; exact hi.numsOf
  rw [nums_intItems] at hn
  have hl' : s.heap.IsTuple a its.toArray := hl
  rw [e] at hl'
  refine PySem.W.ktm_sumG (I.ok.hd hc) hl' fun h' tk t' hk => ?_
  have q' : EP X pins σ Q (.int ns.sum t') { s with heap := h', toks := tk } := ⟨.int _, H, I.kept hk, ⟨_, rfl⟩, q⟩
  rw [preSum_eq, List.take_of_length_le (by simp), hn]
  exact q'
theorem bi_sum (hc : X.calm = true) : BiS X (.builtin "sum") (biop .sum) := CallR.cases fun vs H Q ⟨B, xs, z, hB, hx, hg, k⟩ => by
  match xs, hg with
  | [.tup xs], hg =>
    obtain ⟨v, rfl, h1⟩ := tl1 hx
    simp only [biop] at hg
    obtain ⟨ns, hn, rfl⟩ := Option.map_eq_some_iff.mp hg
    obtain rfl := intsOf_eq hn
    cases (show Rep X.K H B _ v from h1) with
    | tup ha za ra =>
    obtain rfl := repL_ints ra
    exact ⟨_, cr_sumT hc, _, _, rfl, ha, k _ _ (or_im (.int _) rfl)⟩
  | [.lst xs], hg =>
    obtain ⟨v, rfl, h1⟩ := tl1 hx
    simp only [biop] at hg
    obtain ⟨ns, hn, rfl⟩ := Option.map_eq_some_iff.mp hg
    obtain rfl := intsOf_eq hn
    obtain ⟨a, ys, rfl, ha, za, ra⟩ := h1
    obtain rfl := repL_ints ra
    exact ⟨_, cr_sum hc, _, _, rfl, .of ha, k _ _ (or_im (.int _) rfl)⟩
theorem bi_all (hc : X.calm = true) : BiS X (.builtin "all") (biop .all) := CallR.cases fun vs H Q ⟨B, xs, z, hB, hx, hg, k⟩ => by
  match xs, hg with
  | [.lst xs], hg =>
    obtain ⟨v, rfl, h1⟩ := tl1 hx
    simp only [biop] at hg
    obtain ⟨ns, hn, rfl⟩ := Option.map_eq_some_iff.mp hg
    obtain rfl := blsOf_eq hn
    obtain ⟨a, ys, rfl, ha, za, ra⟩ := h1
    obtain rfl := repL_bls ra
    exact ⟨_, cr_all hc, _, _, rfl, .of ha, k _ _ (or_im (.bl _) rfl)⟩
theorem bi_any (hc : X.calm = true) : BiS X (.builtin "any") (biop .any) := CallR.cases fun vs H Q ⟨B, xs, z, hB, hx, hg, k⟩ => by
  match xs, hg with
  | [.lst xs], hg =>
    obtain ⟨v, rfl, h1⟩ := tl1 hx
    simp only [biop] at hg
    obtain ⟨ns, hn, rfl⟩ := Option.map_eq_some_iff.mp hg
    obtain rfl := blsOf_eq hn
    obtain ⟨a, ys, rfl, ha, za, ra⟩ := h1
    obtain rfl := repL_bls ra
    exact ⟨_, cr_any hc, _, _, rfl, .of ha, k _ _ (or_im (.bl _) rfl)⟩
theorem bi_max2 (hc : X.calm = true) : BiS X (.builtin "max") (biop .max2) := CallR.cases fun vs H Q ⟨B, xs, z, hB, hx, hg, k⟩ => by
  match xs, hg with
  | [.int i, .int j], hg =>
    obtain ⟨v, u, rfl, h1, h2⟩ := tl2 hx
    cases (show Rep X.K H B _ v from h1)
    cases (show Rep X.K H B _ u from h2)
    cases hg
    exact ⟨_, call_max2 hc, _, _, rfl, k _ _ (or_im (.int _) rfl)⟩
theorem bi_min2 (hc : X.calm = true) : BiS X (.builtin "min") (biop .min2) := CallR.cases fun vs H Q ⟨B, xs, z, hB, hx, hg, k⟩ => by
  match xs, hg with
  | [.int i, .int j], hg =>
    obtain ⟨v, u, rfl, h1, h2⟩ := tl2 hx
    cases (show Rep X.K H B _ v from h1)
    cases (show Rep X.K H B _ u from h2)
    cases hg
    exact ⟨_, call_min2 hc, _, _, rfl, k _ _ (or_im (.int _) rfl)⟩
end

/-! ### order of data -/
open PySem.W in
mutual
theorem alike_toD : ∀ x y : PV, EV.alike x y = true → PySem.W.alike (toD x) (toD y) = true := by
  intro x y h
  cases x <;> cases y <;> first | (simp [EV.alike] at h; done) | skip
  · rfl
  · rfl
  · rfl
  · rfl
  · simp only [toD, PySem.W.alike]; exact alikeL_toD _ _ (by simpa [EV.alike] using h)
  · simp only [toD, PySem.W.alike]; exact alikeL_toD _ _ (by simpa [EV.alike] using h)
theorem alikeL_toD : ∀ x y : List PV, EV.alikeL x y = true → PySem.W.alikeAll (toDL x) (toDL y) = true := by
  intro x y h
  match x, y, h with
  | [], _, _ => simp [toDL, PySem.W.alikeAll]
  | _ :: _, [], _ => simp [toDL, PySem.W.alikeAll]
  | x :: xs, y :: ys, h =>
    simp only [EV.alikeL, Bool.and_eq_true] at h
    simp only [toDL, PySem.W.alikeAll, alike_toD x y h.1, alikeL_toD xs ys h.2, Bool.and_self]
end
mutual
theorem ltV_toD : ∀ x y : PV, EV.alike x y = true → datOk x = true → datOk y = true → isNon x = false → PySem.W.dataLt (toD x) (toD y) = ltV x y := by
  intro x y h dx dy hn
  cases x <;> cases y <;> first | (simp [EV.alike] at h; done) | skip
  · cases hn
  · rename_i a b
    simp only [toD, PySem.W.dataLt_bool, ltV]
    cases a <;> cases b <;> rfl
  · simp only [toD, PySem.W.dataLt_int, ltV]
  · simp only [toD, PySem.W.dataLt_str, ltV, tStr_cps]
  · simp only [toD, PySem.W.dataLt_tuple, ltV]
    exact ltVL_toD _ _ (by simpa [EV.alike] using h) (by simpa [datOk] using dx) (by simpa [datOk] using dy)
  · simp only [toD, PySem.W.dataLt_list, ltV]
    exact ltVL_toD _ _ (by simpa [EV.alike] using h) (by simpa [datOk] using dx) (by simpa [datOk] using dy)
theorem ltVL_toD : ∀ x y : List PV, EV.alikeL x y = true → datOkL x = true → datOkL y = true → PyProof.Rows.lexLt PyProof.Rows.itemOrd (PySem.W.keyToksAll (toDL x)) (PySem.W.keyToksAll (toDL y)) = ltVL x y := by
  intro x y h dx dy
  match x, y, h with
  | [], [], _ => decide +kernel
  | [], y :: ys, _ => simp only [toDL, ltVL, PySem.W.toks_all_cons]; rfl
  | x :: xs, [], _ => simp only [toDL, ltVL, PySem.W.toks_all_cons]; rfl
  | x :: xs, y :: ys, h =>
    simp only [EV.alikeL, Bool.and_eq_true] at h
    simp only [datOkL, Bool.and_eq_true] at dx dy
    simp only [toDL, ltVL]
    rw [PySem.W.dataLt_cons (alike_toD x y h.1), ← pyEq_eqv x y dx.1 dy.1, ltVL_toD xs ys h.2 dx.2 dy.2]
    by_cases e : pyEq x y = true
    · rw [if_pos e, if_pos e]
    · rw [if_neg e, if_neg e]
      by_cases hn : isNon x = true
      · exfalso
        cases x <;> first | (simp [isNon] at hn; done) | skip
        cases y <;> first | (simp [EV.alike] at h; done) | skip
        exact e rfl
      · exact ltV_toD x y h.1 dx.1 dy.1 (by simpa using hn)
end

/-! ### min, max, sorted of data -/
section
variable {X : Cx} {K : PySem.W.Frag} {H : Hp} {B : Addr → Prop}
theorem alike_all {xs : List PV} (h : cmpOk xs = true) : (∀ x ∈ xs, ∀ y ∈ xs, EV.alike x y = true) ∧ datOkL xs = true ∧ depthL xs ≤ 40 ∧ ∀ x ∈ xs, isNon x = false := by
  simp only [cmpOk, Bool.and_eq_true, List.all_eq_true, decide_eq_true_eq, Bool.not_eq_true'] at h
  exact ⟨h.1.1.1, h.1.1.2, h.1.2, fun x hx => (h.2 x hx).1⟩
theorem imm_all {xs : List PV} (h : cmpOk xs = true) : ∀ x ∈ xs, isMut x = false := by
  simp only [cmpOk, Bool.and_eq_true, List.all_eq_true, decide_eq_true_eq, Bool.not_eq_true'] at h
  exact fun x hx => (h.2 x hx).2
theorem datOkL_mem : ∀ {xs : List PV}, datOkL xs = true → ∀ x ∈ xs, datOk x = true
  | [], _, _, h => absurd h (by simp)
  | y :: ys, d, x, h => by
    simp only [datOkL, Bool.and_eq_true] at d
    rcases List.mem_cons.mp h with rfl | h
    · exact d.1
    · exact datOkL_mem d.2 x h
theorem depthL_mem : ∀ {xs : List PV} {x : PV}, x ∈ xs → depth x ≤ depthL xs
  | y :: ys, x, h => by
    simp only [depthL]
    rcases List.mem_cons.mp h with rfl | h
    · exact Nat.le_max_left _ _
    · exact Nat.le_trans (depthL_mem h) (Nat.le_max_right _ _)
theorem toD_non {x : PV} (h : isNon x = false) : toD x ≠ .none := by
  cases x <;> simp [isNon, toD] at h ⊢
theorem alikeAll_of {xs : List PV} (h : cmpOk xs = true) : PySem.W.AlikeAll (toDL xs) := by
  obtain ⟨h1, h2, h3, h4⟩ := alike_all h
  rw [toDL_map]
  refine ⟨fun d hd e he => ?_, fun d hd => ?_⟩
  · obtain ⟨x, hx, rfl⟩ := List.mem_map.mp hd
    obtain ⟨y, hy, rfl⟩ := List.mem_map.mp he
    exact alike_toD x y (h1 x hx y hy)
  · obtain ⟨x, hx, rfl⟩ := List.mem_map.mp hd
    exact toD_non (h4 x hx)
/-- data that read alike are one -/
theorem toD_inj : ∀ {x y : PV}, datOk x = true → datOk y = true → toD x = toD y → x = y := by
  intro x y hx hy h
  have key : ∀ (n : Nat) (x y : PV), sizeOf x ≤ n → datOk x = true → datOk y = true → toD x = toD y → x = y := by
    intro n
    induction n with
    | zero => intro x y hs; cases x <;> simp at hs
    | succ n ih =>
      have ihL : ∀ (xs ys : List PV), sizeOf xs ≤ n → datOkL xs = true → datOkL ys = true → toDL xs = toDL ys → xs = ys := by
        intro xs
        induction xs with
        | nil => intro ys _ _ _ e; cases ys with
          | nil => rfl
          | cons _ _ => simp [toDL] at e
        | cons a as iha =>
          intro ys hs da db e
          cases ys with
          | nil => simp [toDL] at e
          | cons b bs =>
            simp only [toDL, List.cons.injEq] at e
            simp only [datOkL, Bool.and_eq_true] at da db
            have : sizeOf (a :: as) = 1 + sizeOf a + sizeOf as := by simp
            rw [ih a b (by omega) da.1 db.1 e.1, iha bs (by omega) da.2 db.2 e.2]
      intro x y hs dx dy e
      cases x <;> cases y <;> first | (simp [toD] at e; done) | (simp [datOk] at dx; done) | (simp [datOk] at dy; done) | skip
      · rfl
      · simp only [toD, PyData.bool.injEq] at e; rw [e]
      · simp only [toD, PyData.int.injEq] at e; rw [e]
      · simp only [toD, PyData.str.injEq] at e; rw [tStr_inj.mp e]
      · simp only [toD, PyData.tuple.injEq] at e
        rw [ihL _ _ (by simp at hs; omega) (by simpa [datOk] using dx) (by simpa [datOk] using dy) e]
      · simp only [toD, PyData.list.injEq] at e
        rw [ihL _ _ (by simp at hs; omega) (by simpa [datOk] using dx) (by simpa [datOk] using dy) e]
  exact key _ x y (Nat.le_refl _) hx hy h
theorem foldl_mem {f : PV → PV → Bool} : ∀ (xs : List PV) (x : PV), xs.foldl (fun m y => if f y m = true then y else m) x ∈ x :: xs
  | [], x => by simp
  | y :: ys, x => by
    rw [List.foldl_cons]
    have := foldl_mem (f := f) ys (if f y x = true then y else x)
    rcases List.mem_cons.mp this with h | h
    · rw [h]; split <;> simp
    · exact List.mem_cons_of_mem _ (List.mem_cons_of_mem _ h)
theorem minD_toD : ∀ (xs : List PV) (x : PV), (∀ a ∈ x :: xs, ∀ b ∈ x :: xs, PySem.W.dataLt (toD a) (toD b) = ltV a b) →
    PySem.W.minD (toD x) (toDL xs) = toD (xs.foldl (fun m y => if ltV y m = true then y else m) x)
  | [], x, _ => rfl
  | y :: ys, x, h => by
    simp only [toDL, PySem.W.minD, List.foldl_cons]
    have e := h y (by simp) x (by simp)
    have q := minD_toD ys (if ltV y x = true then y else x) (fun a ha b hb => h a ?_ b ?_)
    · simp only [PySem.W.minD] at q
      rw [← q, e]
      by_cases z : ltV y x = true
      · rw [if_pos z, if_pos z]
      · rw [if_neg z, if_neg z]
    · rcases List.mem_cons.mp ha with rfl | ha
      · split <;> simp
      · simp [ha]
    · rcases List.mem_cons.mp hb with rfl | hb
      · split <;> simp
      · simp [hb]
theorem maxD_toD : ∀ (xs : List PV) (x : PV), (∀ a ∈ x :: xs, ∀ b ∈ x :: xs, PySem.W.dataLt (toD a) (toD b) = ltV a b) →
    PySem.W.maxD (toD x) (toDL xs) = toD (xs.foldl (fun m y => if ltV m y = true then y else m) x)
  | [], x, _ => rfl
  | y :: ys, x, h => by
    simp only [toDL, PySem.W.maxD, List.foldl_cons]
    have e := h x (by simp) y (by simp)
    have q := maxD_toD ys (if ltV x y = true then y else x) (fun a ha b hb => h a ?_ b ?_)
    · simp only [PySem.W.maxD] at q
      rw [← q, e]
      by_cases z : ltV x y = true
      · rw [if_pos z, if_pos z]
      · rw [if_neg z, if_neg z]
    · rcases List.mem_cons.mp ha with rfl | ha
      · split <;> simp
      · simp [ha]
    · rcases List.mem_cons.mp hb with rfl | hb
      · split <;> simp
      · simp [hb]
theorem lt_all {xs : List PV} (h : cmpOk xs = true) : ∀ a ∈ xs, ∀ b ∈ xs, PySem.W.dataLt (toD a) (toD b) = ltV a b := by
  obtain ⟨h1, h2, h3, h4⟩ := alike_all h
  exact fun a ha b hb => ltV_toD a b (h1 a ha b hb) (datOkL_mem h2 a ha) (datOkL_mem h2 b hb) (h4 a ha)
theorem RepL.mem {xs : List PV} {ys : List V} (r : RepL K H B xs ys) {i : Nat} {v : V} (h : ys[i]? = some v) : ∃ x, xs[i]? = some x ∧ Rep K H B x v := by
  have hi : i < xs.length := by rw [r.length]; exact (List.getElem?_eq_some_iff.mp h).1
  obtain ⟨w, h1, h2⟩ := r.get (List.getElem?_eq_getElem hi)
  rw [h] at h1; cases h1
  exact ⟨_, List.getElem?_eq_getElem hi, h2⟩
/-- the item that a walk hands out -/
theorem pick_item {X : Cx} {pins : List (Addr × Obj)} {σ : L2.St} {s : Shared} {H : Hp} (I : L2.Inv X pins σ H s) {xs : List PV} {ys : List V} {its : List Value} {p : PV} {v : Value} {i : Nat} {h' : Heap} {bs : List Addr}
    (r : RepL X.K H B xs ys) (rv : Vals ys its) (hd : datOkL xs = true) (hi : its[i]? = some v) (hp : p ∈ xs) (hr : Reads h' v (toD p) bs) (hk : ∀ b o, s.heap.get? b = some o → h'.get? b = some o) :
    ∃ y, RelV y v ∧ Rep X.K H B p y := by
  have hl : i < ys.length := by rw [rv.length]; exact (List.getElem?_eq_some_iff.mp hi).1
  obtain ⟨u, e1, e2⟩ := rv.get (List.getElem?_eq_getElem hl)
  rw [hi] at e1; cases e1
  obtain ⟨x, h3, h4⟩ := r.mem (List.getElem?_eq_getElem hl)
  have dx := datOkL_mem hd x (List.mem_of_getElem? h3)
  obtain ⟨as, h5⟩ := Dp.reads I _ _ _ (h4.top.dp dx) e2
  have h6 := SeqAt.readOf_eq (lay_toD x dx) (PySem.W.reads_keeps hk h5)
  have h7 := SeqAt.readOf_eq (lay_toD p (datOkL_mem hd p hp)) hr
  have e : x = p := toD_inj dx (datOkL_mem hd p hp) (h6.symm.trans h7)
  subst e
  exact ⟨_, e2, h4⟩
theorem cr_minDat (hc : X.calm = true) (hu : X.A.units + 64 < cLine) : CallR X (.builtin "min") (fun vs H Q => ∃ (B : Addr → Prop) (a : Addr) (x : PV) (xs : List PV) (ys : List V), vs = [V.ref a] ∧ H a = some (.lst ys) ∧ RepL X.K H B (x :: xs) ys ∧ cmpOk (x :: xs) = true ∧
    ∀ v, Rep X.K H B (xs.foldl (fun m y => if ltV y m = true then y else m) x) v → Q v H) := by
  intro pins s σ H vs us Q I r ⟨B, a, x, xs, ys, e, ha, hr, hok, q⟩
  subst e
  obtain ⟨its, rv, hl, _⟩ := I.list (.of ha)
  rw [Vals.ref1 r]
  obtain ⟨h1, h2, h3, h4⟩ := alike_all hok
  obtain ⟨as, hre⟩ := Dp.readsAll I _ _ _ (hr.dp h2) rv
  refine PySem.W.min_list_data (I.ok.hd hc) hl.isList (show ReadsAll s.heap its.toArray.toList (toD x :: toDL xs) as from hre) (alikeAll_of hok) ?_ fun i v h' tk bs hi hR hk => ?_
  · have := depthL_toD _ h2
    simp only [toDL] at this
    rw [this]; omega
  · rw [minD_toD xs x (lt_all hok)] at hR
    obtain ⟨y, e1, e2⟩ := pick_item I hr rv h2 (by simpa using hi) (foldl_mem xs x) hR hk
    exact ⟨y, H, I.kept hk, e1, q y e2⟩
theorem cr_maxDat (hc : X.calm = true) (hu : X.A.units + 64 < cLine) : CallR X (.builtin "max") (fun vs H Q => ∃ (B : Addr → Prop) (a : Addr) (x : PV) (xs : List PV) (ys : List V), vs = [V.ref a] ∧ H a = some (.lst ys) ∧ RepL X.K H B (x :: xs) ys ∧ cmpOk (x :: xs) = true ∧
    ∀ v, Rep X.K H B (xs.foldl (fun m y => if ltV m y = true then y else m) x) v → Q v H) := by
  intro pins s σ H vs us Q I r ⟨B, a, x, xs, ys, e, ha, hr, hok, q⟩
  subst e
  obtain ⟨its, rv, hl, _⟩ := I.list (.of ha)
  rw [Vals.ref1 r]
  obtain ⟨h1, h2, h3, h4⟩ := alike_all hok
  obtain ⟨as, hre⟩ := Dp.readsAll I _ _ _ (hr.dp h2) rv
  refine PySem.W.max_list_data (I.ok.hd hc) hl.isList (show ReadsAll s.heap its.toArray.toList (toD x :: toDL xs) as from hre) (alikeAll_of hok) ?_ fun i v h' tk bs hi hR hk => ?_
  · have := depthL_toD _ h2
    simp only [toDL] at this
    rw [this]; omega
  · rw [maxD_toD xs x (lt_all hok)] at hR
    obtain ⟨y, e1, e2⟩ := pick_item I hr rv h2 (by simpa using hi) (foldl_mem (f := fun y m => ltV m y) xs x) hR hk
    exact ⟨y, H, I.kept hk, e1, q y e2⟩

theorem bi_min (hc : X.calm = true) (hu : X.A.units + 64 < cLine) : BiS X (.builtin "min") (biop .min) := CallR.cases fun vs H Q ⟨B, xs, z, hB, hx, hg, k⟩ => by
  match xs, hg with
  | [.lst xs], hg =>
    obtain ⟨v, rfl, h1⟩ := tl1 hx
    obtain ⟨a, ys, rfl, ha, za, ra⟩ := h1
    simp only [biop] at hg
    by_cases hz : cmpOk xs = true
    all_goals first | rw [if_pos hz] at hg | (rw [if_neg hz] at hg; cases hg)
    cases xs with
    | nil => cases hg
    | cons x xs =>
      cases hg
      exact ⟨_, cr_minDat hc hu, B, a, x, xs, ys, rfl, ha, ra, hz, fun v h => k _ _ (or_im h (imm_all hz _ (foldl_mem xs x)))⟩
theorem bi_max (hc : X.calm = true) (hu : X.A.units + 64 < cLine) : BiS X (.builtin "max") (biop .max) := CallR.cases fun vs H Q ⟨B, xs, z, hB, hx, hg, k⟩ => by
  match xs, hg with
  | [.lst xs], hg =>
    obtain ⟨v, rfl, h1⟩ := tl1 hx
    obtain ⟨a, ys, rfl, ha, za, ra⟩ := h1
    simp only [biop] at hg
    by_cases hz : cmpOk xs = true
    all_goals first | rw [if_pos hz] at hg | (rw [if_neg hz] at hg; cases hg)
    cases xs with
    | nil => cases hg
    | cons x xs =>
      cases hg
      exact ⟨_, cr_maxDat hc hu, B, a, x, xs, ys, rfl, ha, ra, hz, fun v h => k _ _ (or_im h (imm_all hz _ (foldl_mem (f := fun y m => ltV m y) xs x)))⟩

/-! sorted -/
section
variable {prog : Program} {w : World} {A : Around} {E : Value → Shared → Prop} {s : Shared}
theorem collect_tuple {l : Addr} {vs : List Value} {Q : List Value → Shared → Prop} (hl : s.heap.IsTuple l vs.toArray)
    (h : Q vs { s with heap := (s.heap.push (seqObj "list" #[] 0)).update s.heap.objs.size (Obj.mapSeq (· ++ vs.toArray)) }) (hsz : vs.length ≤ sizeLine) :
    wpAny (model prog w) A (collect (.ref l)) Q E s := by
  obtain ⟨o, ho, hc, n, hd⟩ := id hl
  unfold collect
  refine wpAny_bind (wpAny_runValue (codeAny_builtin entry_proto_collect' ?_))
  show wpAny _ _ (do again (.builtin "list.__iadd__" ⟨[← newList [], .ref l], []⟩)) _ _ s
  refine wpAny_bind (wpAny_newList (wpAny_pure ⟨Code.quiet_builtin _ (by decide +kernel), codeAny_builtin entry_list_iadd' ?_⟩))
  show wpAny _ _ (Builtin.List.listExtendWith (.ref s.heap.objs.size) (.ref l) (.ref s.heap.objs.size)) _ _ { s with heap := s.heap.push (seqObj "list" #[] 0) }
  unfold Builtin.List.listExtendWith
  have ho' : (s.heap.push (seqObj "list" #[] 0)).get? l = some o := Heap.get?_push_of_some _ ho
  refine wpAny_bind (wpAny_typeOf (T := "tuple") ⟨o, ho', hc⟩ ?_)
  have ht : (Value.type "tuple" == Value.type "tuple") = true := by rfl
  rw [if_pos (by rw [ht]; simp)]
  refine wpAny_bind (listItems_at ho' hd ?_)
  refine wpAny_bind (listItems_at (xs := #[]) (n := 0) (Heap.get?_push_size _ rfl) rfl ?_)
  rw [if_neg (by simp)]
  refine wpAny_bind (listUpdate_at (xs := #[]) (n := 0) (Heap.get?_push_size _ rfl) rfl ?_ (Nat.zero_le _) (by show (#[] ++ vs.toArray).size ≤ sizeLine + 1; simp only [Array.size_append, List.size_toArray, List.length_nil]; omega))
  refine wpAny_pure ?_
  show wpAny (model prog w) A (do
      let o ← load s.heap.objs.size
      match o.data with
      | .seq xs _ => pure xs.toList
      | _ => unsupported "internal:collect") Q E { s with heap := (s.heap.push (seqObj "list" #[] 0)).update s.heap.objs.size (Obj.mapSeq (· ++ vs.toArray)) }
  refine wpAny_bind (wpAny_load (get?_update_seq (Heap.get?_push_size _ rfl) _) ?_)
  show wpAny _ _ (pure ((#[] : Array Value) ++ vs.toArray).toList) Q E _
  rw [show ((#[] : Array Value) ++ vs.toArray).toList = vs by simp]
  exact wpAny_pure h
open PySem.W in
theorem sorted_of_sortT {l : Addr} {vs : List Value} {kw : List (Str × Value)} {Q : Value → Shared → Prop} (hl : s.heap.IsTuple l vs.toArray) (hL : vs.length ≤ sizeLine) (ha1 : argsOk "sorted" ⟨[.ref l], kw⟩) (ha2 : ∀ x, argsOk "list.sort" ⟨[.ref x], kw⟩)
    (body : ∀ E' : Value → Shared → Prop, wpAny (model prog w) A.in1.in1 (Builtin.«list.sort» ⟨[.ref (s.heap.objs.size + 1)], kw⟩) (fun f s' => f = .done (.ret .none) ∧ Q (.ref (s.heap.objs.size + 1)) s') E' { s with heap := copyHeap s.heap vs }) :
    wpAny (model prog w) A (call (.builtin "sorted") [.ref l] kw) Q E s := by
  refine call_function_entry_kw kind_sorted plain_sorted entry_sorted ha1 ?_
  unfold Builtin.«sorted»
  refine wpAny_bind (m := checkCount "sorted" 1 1 _) (wpAny_pure ?_)
  refine wpAny_bind (collect_tuple hl ?_ hL)
  refine wpAny_bind (wpAny_newList ?_ hL)
  have hsz : ((s.heap.push (seqObj "list" #[] 0)).update s.heap.objs.size (Obj.mapSeq (· ++ vs.toArray))).objs.size = s.heap.objs.size + 1 := by
    rw [Heap.size_update, size_push']
  show wpAny _ _ _ _ _ { s with heap := copyHeap s.heap vs }
  rw [hsz]
  refine wpAny_bind (wpAny_holding (wpAny_call_entry_kw slot_list_sort ⟨_, copyHeap_at s.heap vs, rfl⟩ entry_list_sort ?body (ha2 _)))
  case body =>
    show wpAny (model prog w) A.in1.in1 (Builtin.«list.sort» ⟨[.ref (s.heap.objs.size + 1)], kw⟩) _ _ _
    refine wpAny_mono (body _) (fun f s' hf => ?_) fun _ _ e => e
    obtain ⟨rfl, hq⟩ := hf
    exact ⟨_, rfl, wpAny_pure ⟨_, rfl, hq⟩⟩
open PySem.W in
theorem sorted_dataT {β : Type} {vs : List Value} {bs : List β} {enc : β → PyData} {R : Value → β → Prop} {l : Addr} {Q : Value → Shared → Prop} (hl : s.heap.IsTuple l vs.toArray) (e : EachIs R vs bs) (er : EachIs (fun v b => ∃ as, Reads s.heap v (enc b) as) vs bs) (hal : AllAlike (bs.map enc)) (hk : Sortable (bs.map enc)) (hL : bs.length ≤ sizeLine)
    (hu : ∀ b, b ∈ bs → A.units + 2 + (enc b).depth < cLine) (h : ∀ out, out.length = bs.length → EachIs R out (bs.mergeSort (dataLe false enc)) → Q (.ref (s.heap.objs.size + 1)) { s with heap := sortedAll s.heap vs (List.toArray out) }) :
    wpAny (model prog w) A (call (.builtin "sorted") [.ref l]) Q E s := by
  have er' : EachIs (fun v b => ∃ as, Reads (sortingHeap (copyHeap s.heap vs) (s.heap.objs.size + 1) vs) v (enc b) as) vs bs := er.mono fun _ _ ⟨as, r⟩ => ⟨as, PyProof.Rows.Reads.keeps (fun _ _ => sorting_copy_old) r⟩
  have S : SortsAt prog w A.in1.in1 { s with heap := sortingHeap (copyHeap s.heap vs) (s.heap.objs.size + 1) vs } (dataKind (sortingHeap (copyHeap s.heap vs) (s.heap.objs.size + 1) vs) (bs.map enc)) vs :=
    SortsAt.data (s := { s with heap := sortingHeap (copyHeap s.heap vs) (s.heap.objs.size + 1) vs }) (each_map (R := fun v d => ∃ as, Reads (sortingHeap (copyHeap s.heap vs) (s.heap.objs.size + 1) vs) v d as) enc er') hal hk (bound_map hu)
  have hLv : vs.length ≤ sizeLine := by rw [e.length]; exact hL
  refine sorted_of_sortT hl hLv (args_sorted1 _) (fun _ => args_list_sort _) fun _ => list_sort_vals (s := { s with heap := copyHeap s.heap vs }) (copyHeap_at s.heap vs) S hLv ⟨rfl, ?_⟩
  exact h _ (by rw [sortVals_length false rfl]; exact e.length) (sortVals_data false e er' hal)
end

section
variable {X : Cx} {K : PySem.W.Frag} {H : Hp} {B : Addr → Prop}
open PySem.W in
theorem each_zip : ∀ {xs : List PV} {ys : List V} {us : List Value}, xs.length = ys.length → Vals ys us → EachIs (fun (u : Value) (b : PV × V) => RelV b.2 u) us (xs.zip ys)
  | [], [], _, _, .nil => .nil
  | x :: xs, y :: ys, _, e, .cons r t => .cons r (each_zip (by simpa using e) t)
open PySem.W in
theorem each_reads {pins : List (Addr × Obj)} {σ : L2.St} {s : Shared} {H : Hp} (I : L2.Inv X pins σ H s) : ∀ {xs : List PV} {ys : List V} {us : List Value}, RepL X.K H B xs ys → datOkL xs = true → Vals ys us →
    EachIs (fun (u : Value) (b : PV × V) => ∃ as, Reads s.heap u (toD b.1) as) us (xs.zip ys)
  | _, _, _, .nil, _, .nil => .nil
  | _, _, _, .cons h t, d, .cons r q => by
    simp only [datOkL, Bool.and_eq_true] at d
    exact .cons (Dp.reads I _ _ _ (h.top.dp d.1) r) (each_reads I t d.2 q)
open PySem.W in
theorem vals_each : ∀ {bs : List (PV × V)} {us : List Value}, EachIs (fun (u : Value) (b : PV × V) => RelV b.2 u) us bs → Vals (bs.map (·.2)) us
  | [], _, .nil => .nil
  | _ :: _, _, .cons r t => .cons r (vals_each t)
theorem repL_zip : ∀ {xs : List PV} {ys : List V}, RepL K H B xs ys → ∀ p ∈ xs.zip ys, Rep K H B p.1 p.2
  | _, _, .nil, p, h => absurd h (by simp)
  | _, _, .cons h t, p, hp => by
    rw [List.zip_cons_cons] at hp
    rcases List.mem_cons.mp hp with rfl | hp
    · exact h
    · exact repL_zip t p hp
theorem repL_of : ∀ {bs : List (PV × V)}, (∀ p ∈ bs, Rep K H B p.1 p.2) → RepL K H B (bs.map (·.1)) (bs.map (·.2))
  | [], _ => .nil
  | b :: bs, h => .cons (h b List.mem_cons_self) (repL_of fun p hp => h p (List.mem_cons_of_mem _ hp))
theorem sortable_of {xs : List PV} {ys : List V} (h : sortOk xs = true) : PySem.W.Sortable ((xs.zip ys).map fun b => toD b.1) := by
  simp only [sortOk, Bool.and_eq_true, Bool.or_eq_true, List.all_eq_true] at h
  rcases h.2 with h2 | h2
  · refine .inl fun d hd => ?_
    obtain ⟨b, hb, rfl⟩ := List.mem_map.mp hd
    have := h2 b.1 (List.of_mem_zip hb).1
    match hb1 : b.1, this with
    | .tup (x :: r), _ => exact ⟨toD x, toDL r, by simp [toD, toDL]⟩
  · refine .inr fun d hd => ?_
    obtain ⟨b, hb, rfl⟩ := List.mem_map.mp hd
    have := h2 b.1 (List.of_mem_zip hb).1
    match hb1 : b.1, this with
    | .bl _, _ => exact ⟨by simp [toD], by simp [toD]⟩
    | .int _, _ => exact ⟨by simp [toD], by simp [toD]⟩
    | .str _, _ => exact ⟨by simp [toD], by simp [toD]⟩
    | .lst _, _ => exact ⟨by simp [toD], by simp [toD]⟩
/-- what is common to sorted of a list and of a tuple -/
theorem sorted_core {pins : List (Addr × Obj)} {σ : L2.St} {s : Shared} {H : Hp} {Q : VK} {E : Value → Shared → Prop} {f : Value} {us : List Value} {xs : List PV} {ys : List V} {its : List Value} (hu : X.A.units + 64 < cLine) (I : L2.Inv X pins σ H s) (r : RepL X.K H B xs ys) (rv : Vals ys its) (hok : sortOk xs = true) (hz : ys.length ≤ sizeLine)
    (go : ∀ {Q' : Value → Shared → Prop}, PySem.W.EachIs (fun (u : Value) (b : PV × V) => RelV b.2 u) its (xs.zip ys) → PySem.W.EachIs (fun (u : Value) (b : PV × V) => ∃ as, Reads s.heap u (toD b.1) as) its (xs.zip ys) → PySem.W.AllAlike ((xs.zip ys).map fun b => toD b.1) → PySem.W.Sortable ((xs.zip ys).map fun b => toD b.1) → (xs.zip ys).length ≤ sizeLine →
      (∀ b, b ∈ xs.zip ys → X.A.units + 2 + (toD b.1).depth < cLine) → (∀ out, out.length = (xs.zip ys).length → PySem.W.EachIs (fun (u : Value) (b : PV × V) => RelV b.2 u) out ((xs.zip ys).mergeSort (PySem.W.dataLe false fun b => toD b.1)) → Q' (.ref (s.heap.objs.size + 1)) { s with heap := sortedAll s.heap its (List.toArray out) }) →
      wpAny (model X.prog X.w) X.A (call f us) Q' E s)
    (k : ∀ (ys' : List V) (p : Addr), H p = none → ys'.length ≤ sizeLine → RepL X.K H B (xs.mergeSort leV) ys' → Q (.ref p) (upd H p (.lst ys'))) :
    wpAny (model X.prog X.w) X.A (call f us) (EP X pins σ Q) E s := by
  have hok' : cmpOk xs = true := by
    simp only [sortOk, Bool.and_eq_true] at hok
    exact hok.1
  obtain ⟨h1, h2, h3, h4⟩ := alike_all hok'
  have hl := r.length
  have zl : (xs.zip ys).length = ys.length := by rw [List.length_zip, hl]; simp
  refine go (each_zip hl rv) (each_reads I r h2 rv) (fun d hd e he => ?_) (sortable_of hok) (by rw [zl]; exact hz) (fun b hb => ?_) fun out ho he => ?_
  · obtain ⟨b, hb, rfl⟩ := List.mem_map.mp hd
    obtain ⟨b', hb', rfl⟩ := List.mem_map.mp he
    exact alike_toD _ _ (h1 _ (List.of_mem_zip hb).1 _ (List.of_mem_zip hb').1)
  · have hm := (List.of_mem_zip hb).1
    rw [depth_toD _ (datOkL_mem h2 _ hm)]
    have := depthL_mem hm
    omega
  · have hn : H (s.heap.objs.size + 1) = none := I.hok.fresh (Nat.le_succ _)
    obtain ⟨c, hc⟩ := sortedAll_at s.heap its out.toArray
    have hp : ((xs.zip ys).mergeSort (PySem.W.dataLe false fun b => toD b.1)).Perm (xs.zip ys) := List.mergeSort_perm _ _
    have hlen : (((xs.zip ys).mergeSort (PySem.W.dataLe false fun b => toD b.1)).map (·.2)).length ≤ sizeLine := by
      rw [List.length_map, hp.length_eq, zl]; exact hz
    refine ⟨.ref (s.heap.objs.size + 1), _, I.laid (t' := s.toks) (o := .lst (((xs.zip ys).mergeSort (PySem.W.dataLe false fun b => toD b.1)).map (·.2))) (fun b u e => sortedAll_old e) (Nat.le_succ _) ⟨hlen, out, c, vals_each he, hc⟩, rfl, k _ _ hn hlen ?_⟩
    have e1 : xs.mergeSort leV = ((xs.zip ys).mergeSort (PySem.W.dataLe false fun b => toD b.1)).map (·.1) := by
      rw [List.map_mergeSort (s := leV), List.map_fst_zip (by omega)]
      intro a ha b hb
      rw [PySem.W.dataLe_eq]
      show (!PySem.W.dataLt (toD b.1) (toD a.1)) = !ltV b.1 a.1
      rw [lt_all hok' _ (List.of_mem_zip hb).1 _ (List.of_mem_zip ha).1]
    rw [e1]
    exact repL_of fun p hp' => repL_zip r p (hp.mem_iff.mp hp')
theorem bi_sorted (hu : X.A.units + 64 < cLine) : BiS X (.builtin "sorted") (biop .sorted) := by
  intro pins s σ H vs us Q I rr ⟨B, xs, z, hB, hx, hg, k⟩
  match xs, hg with
  | [.lst xs], hg =>
    obtain ⟨v, rfl, h1⟩ := tl1 hx
    obtain ⟨a, ys, rfl, ha, za, ra⟩ := h1
    by_cases hz : sortOk xs = true
    all_goals first | (simp only [biop] at hg; rw [if_pos hz] at hg) | (simp only [biop] at hg; rw [if_neg hz] at hg; cases hg)
    cases hg
    obtain ⟨its, rv, hl, _⟩ := I.list (.of ha)
    rw [Vals.ref1 rr]
    exact sorted_core hu I ra rv hz za (fun e er hal hk hL hu h => PySem.W.sorted_data hl.isList e er hal hk hL hu h) fun ys' p hp hz' r' => k _ _ (or_lst hp hz' r')
  | [.tup xs], hg =>
    obtain ⟨v, rfl, h1⟩ := tl1 hx
    cases (show Rep X.K H B _ v from h1) with
    | tup ha za ra =>
    by_cases hz : sortOk xs = true
    all_goals first | (simp only [biop] at hg; rw [if_pos hz] at hg) | (simp only [biop] at hg; rw [if_neg hz] at hg; cases hg)
    cases hg
    obtain ⟨its, rv, hl, _⟩ := I.tuple ha
    rw [Vals.ref1 rr]
    exact sorted_core hu I ra rv hz za (fun e er hal hk hL hu h => sorted_dataT (show s.heap.IsTuple _ its.toArray from hl) e er hal hk hL hu h) fun ys' p hp hz' r' => k _ _ (or_lst hp hz' r')
end
end
end EV

set_option linter.all false
set_option Elab.async false
set_option maxRecDepth 100000
/-! Ev7: slices, isinstance. -/
namespace EV
open PySem L2 PySem.Spec PyProof.Rows

section
variable {X : Cx} {cl : Nat → Cls} {n : Nat} {T T' T1 T2 T3 : List Nat} {md md' md1 md2 : Md} {a b c : Expr} {ma mb mc m : Fr → Option (PV × Fr)} {pos p2 : Pos}
/-! ### slices -/
def SlS (X : Cx) : Prop := SlR X fun x lo hi H Q => ∃ B px pz, (∀ a, B a → H a ≠ none) ∧ RepT X.K H B px x ∧ cutop px lo hi = some pz ∧ ∀ v H', OR' X.K H H' B pz v → Q v H'
theorem SlR.cases {r' : V → Option Int → Option Int → Hp → VK → Prop} (h : ∀ x lo hi H Q, r' x lo hi H Q → ∃ r, SlR X r ∧ r x lo hi H Q) : SlR X r' := fun pins s σ H x v vl vu lo hi sl Q I rx hs pl pu q =>
  let ⟨r, h1, h2⟩ := h x lo hi H Q q
  h1 pins s σ H x v vl vu lo hi sl Q I rx hs pl pu h2
theorem cutV_whole {xs : List V} {lo hi : Option Int} (h : HT.sIx xs.length 0 lo = 0 ∧ HT.sIx xs.length xs.length hi = xs.length) : cutV xs lo hi = xs := by
  unfold cutV
  rw [h.1, h.2]
  simp
theorem sl_all : SlS X := SlR.cases fun x lo hi H Q ⟨B, px, pz, hB, h1, hg, k⟩ => by
  cases px <;> first | (simp [cutop] at hg; done) | skip
  · cases (show Rep X.K H B _ x from h1)
    simp only [cutop] at hg
    split at hg <;> cases hg
    rename_i hz
    refine ⟨_, sl_str, _, rfl, by rw [tStr_len, line_eq]; exact hz, ?_⟩
    have e : ∀ s : List Nat, cutS (tStr s) lo hi = tStr (cut s lo hi) := fun s => by
      unfold cutS cut
      rw [tStr_cps, tStr_len, cutIx_sIx, cutIx_sIx]
      rfl
    rw [e]
    exact k _ _ (or_im (.str _) rfl)
  · cases (show Rep X.K H B _ x from h1) with
    | tup ha za ra =>
    cases hg
    refine ⟨_, sl_tupA, _, _, rfl, ha, fun hw => ?_, fun _ p hp => ?_⟩
    · have r' := cut_cutV ra lo hi
      rw [cutV_whole hw] at r'
      exact k _ _ (or_im (.tup ha za r') rfl)
    · exact k _ _ (or_tup hp (Nat.le_trans (cutV_length _ _ _) za) (cut_cutV ra lo hi))
  · obtain ⟨a, ys, rfl, ha, za, ra⟩ := h1
    cases hg
    exact ⟨_, sl_list, _, _, rfl, .of ha, fun p hp => k _ _ (or_lst hp (Nat.le_trans (cutV_length _ _ _) za) (cut_cutV ra lo hi))⟩
/-- an end of a slice -/
def tO (K : PySem.W.Frag) (cl : Nat → Cls) (n : Nat) (T : List Nat) (m : Fr → Option (Option Int × Fr)) : TO := fun σ H Q =>
  ∃ BL fr o fr', FS K cl n BL σ H fr ∧ m fr = some (o, fr') ∧ ∀ H', EP' K cl n BL T .val σ H fr .non fr' .non H' → Q o H'
def SO (X : Cx) (cl : Nat → Cls) (n : Nat) (T : List Nat) (e : Option Expr) (m : Fr → Option (Option Int × Fr)) : Prop := PO X e (tO X.K cl n T m)
theorem PO.weak {e : Option Expr} {t t' : TO} (h : PO X e t) (w : ∀ σ H Q, t' σ H Q → t σ H Q) : PO X e t' := ⟨fun pins s σ H Q I q => h.run pins s σ H Q I (w σ H Q q)⟩
theorem so_none : SO X cl n [] none (fun fr => some (none, fr)) := PO.weak po_none fun σ H Q ⟨BL, fr, o, fr', f, e, k⟩ => by
  cases e
  exact k H (ep_self f .non)
theorem so_some (h : SE X cl n T md a ma) : SO X cl n T (some a) (fun fr => (ma fr).bind fun p => (intOf p.1).map fun i => (some i, p.2)) := PO.weak (po_some h) fun σ H Q ⟨BL, fr, o, fr', f, e, k⟩ => by
  obtain ⟨⟨x, fr1⟩, h1, h2⟩ := Option.bind_eq_some_iff.mp e
  obtain ⟨i, h3, h4⟩ := Option.map_eq_some_iff.mp h2
  cases h4
  refine ⟨BL, fr, x, _, f, h1, fun v H1 p1 => ?_⟩
  cases x <;> first | (simp [intOf] at h3; done) | skip
  cases h3
  have h : RepT X.K H1 _ (.int i) v := p1.repT f
  cases (show Rep X.K H1 _ (.int i) v from h)
  exact ⟨i, rfl, k H1 ⟨p1.fs, p1.kp, p1.le, p1.tch, .non⟩⟩
variable {lo hi : Option Expr} {ml mh : Fr → Option (Option Int × Fr)}
theorem se_cut (ha : SE X cl n T1 md1 a ma) (hl : SO X cl n T2 lo ml) (hh : SO X cl n T3 hi mh) (hoff : md1.off (T2 ++ T3) = true) :
    SE X cl n (T1 ++ (T2 ++ T3)) .fresh (.Subscript a (.Slice lo hi none p2) pos) (fun fr => (ma fr).bind fun p => (ml p.2).bind fun q => (mh q.2).bind fun r => (cutop p.1 q.1 r.1).map fun v => (v, r.2)) :=
  PE.weak (pe_slice sl_all ha hl hh) fun σ H Q ⟨BL, fr, z, fr2, f, e, k⟩ => by
    obtain ⟨⟨x, fr1⟩, h1, h2⟩ := Option.bind_eq_some_iff.mp e
    obtain ⟨⟨l, fr2'⟩, h3, h4⟩ := Option.bind_eq_some_iff.mp h2
    obtain ⟨⟨u, fr3⟩, h5, h6⟩ := Option.bind_eq_some_iff.mp h4
    obtain ⟨z', h7, h8⟩ := Option.map_eq_some_iff.mp h6
    cases h8
    refine ⟨BL, fr, x, fr1, f, h1, fun v H1 p1 => ⟨BL, fr1, l, fr2', p1.fs, h3, fun H2 q2 => ⟨BL, fr2', u, fr3, q2.fs, h5, fun H3 q3 => ?_⟩⟩⟩
    have q := EP'.then' p1.fs q2 q3
    exact ⟨_, x, _, q.fs.bar_tr, p1.repT2 f q hoff, h7, fun w H4 o => k w H4 (ep_op2 f p1 q o)⟩
/-- [::-1] -/
theorem pe_revA {e : Expr} {te : TE} {k : Nat} {p1 p2 p3 pos : Pos} (he : PE X e te) : PE X (.Subscript e (.Slice none none (some (.UnaryOp .USub (.Constant (.int 1) k p1) p2)) p3) pos)
    (fun σ H Q => te σ H fun x H1 => ∃ a xs, x = .ref a ∧ ((SqL X.K H1 a xs ∧ ∀ p, H1 p = none → Q (.ref p) (upd H1 p (.lst xs.reverse))) ∨ (SqT X.K H1 a xs ∧ ∀ p, H1 p = none → Q (.ref p) (upd H1 p (.tup xs.reverse))))) := by
  refine ⟨fun pins s σ H Q I h => ?_⟩
  refine Subscript_ (thn (he.run pins s σ H _ I h) fun v s1 ⟨x, H1, I1, r1, q1⟩ => ?_)
  obtain ⟨a, xs, ex, hx⟩ := q1
  subst ex
  cases r1
  have hst : PO X (some (.UnaryOp .USub (.Constant (.int 1) k p1) p2)) (tPart (tUn (rU fun i => .int (-i)) (tC (.int 1)))) := po_some (pe_un un_neg pe_int)
  refine wpAny_Slice (thn (po_none.run pins s1 σ H1 (fun o H2 => o = none ∧ H2 = H1) I1 ⟨rfl, rfl⟩) fun vl s2 ⟨l, H2, I2, pl, el, e2⟩ => ?_)
  subst el e2
  refine thn (po_none.run pins s2 σ H2 (fun o H3 => o = none ∧ H3 = H2) I2 ⟨rfl, rfl⟩) fun vu s3 ⟨u, H3, I3, pu, eu, e3⟩ => ?_
  subst eu e3
  refine thn (hst.run pins s3 σ H3 (fun o H4 => o = some (-1) ∧ H4 = H3) I3 ⟨1, rfl, -1, rfl, rfl, rfl⟩) fun vs s4 ⟨o, H4, I4, ps, eo, e4⟩ => ?_
  subst eo e4
  have I5 : Inv X pins σ H4 { s4 with heap := s4.heap.push { cls := .type "slice", data := .fields #[vl, vu, vs] } } := I4.kept (t' := s4.toks) fun b ob q => Heap.get?_push_of_some _ q
  rcases hx with ⟨hx, q⟩ | ⟨hx, q⟩
  · obtain ⟨its, r, ht, hz⟩ := I5.list hx
    have hlen := r.length
    show wpAny (model X.prog X.w) X.A (subscriptTail e (.Slice none none (some (.UnaryOp .USub (.Constant (.int 1) k p1) p2)) p3) (.ref a) (.ref s4.heap.objs.size)) (EP X pins σ Q) X.xe { s4 with heap := s4.heap.push { cls := .type "slice", data := .fields #[vl, vu, vs] } }
    refine tail_any (ops := [.ref a, .ref s4.heap.objs.size]) ht.isList.typeIs (PySem.slot_list_getitem.lookup) ?_ (by with_unfolding_all rfl)
    refine wpAny_getItem_list_slice ht.isList (Heap.IsSliceOf.new _ vl vu vs) pl pu ps (by decide) ?_ (by rw [List.size_toArray]; omega)
    rw [PySem.W.krv_pick]
    refine ⟨.ref _, _, I5.laid (t' := s4.toks) (o := .lst xs.reverse) (fun b ob q => Heap.get?_push_of_some _ q) (Nat.le_refl _) ?_, rfl, q _ (I5.hok.fresh (Nat.le_refl _))⟩
    exact ⟨by rw [List.length_reverse]; exact hz, _, 0, r.reverse, Heap.get?_push_size _ rfl⟩
  · obtain ⟨its, r, ht, hz⟩ := I5.tuple hx
    have hlen := r.length
    show wpAny (model X.prog X.w) X.A (subscriptTail e (.Slice none none (some (.UnaryOp .USub (.Constant (.int 1) k p1) p2)) p3) (.ref a) (.ref s4.heap.objs.size)) (EP X pins σ Q) X.xe { s4 with heap := s4.heap.push { cls := .type "slice", data := .fields #[vl, vu, vs] } }
    refine tail_any (ops := [.ref a, .ref s4.heap.objs.size]) ht.typeIs PyProof.Rows.slot_tuple_getitem.lookup ?_ (by with_unfolding_all rfl)
    cases pl
    cases pu
    cases ps
    refine getItem_tuple_rev ht (Heap.IsSliceOf.new _ _ _ _) ?_ (by rw [List.size_toArray]; omega)
    refine ⟨.ref _, _, I5.laid (t' := s4.toks) (o := .tup xs.reverse) (fun b ob q => Heap.get?_push_of_some _ q) (Nat.le_refl _) ?_, rfl, q _ (I5.hok.fresh (Nat.le_refl _))⟩
    exact ⟨by rw [List.length_reverse]; exact hz, _, r.reverse, IsTup.new _ _⟩
theorem se_rev {k : Nat} {p1 p2 p3 : Pos} (ha : SE X cl n T md a ma) :
    SE X cl n T .fresh (.Subscript a (.Slice none none (some (.UnaryOp .USub (.Constant (.int 1) k p1) p2)) p3) pos) (fun fr => (ma fr).bind fun p => (revop p.1).map fun v => (v, p.2)) :=
  PE.weak (pe_revA ha) fun σ H Q ⟨BL, fr, z, fr2, f, e, k⟩ => by
    obtain ⟨⟨x, fr1⟩, h1, h2⟩ := Option.bind_eq_some_iff.mp e
    obtain ⟨z', h7, h8⟩ := Option.map_eq_some_iff.mp h2
    cases h8
    refine ⟨BL, fr, x, fr1, f, h1, fun v H1 p1 => ?_⟩
    have h : RepT X.K H1 _ x v := p1.repT f
    cases x <;> first | (simp [revop] at h7; done) | skip
    · cases h7
      cases (show Rep X.K H1 _ _ v from h) with
      | tup hs hz hr => exact ⟨_, _, rfl, .inr ⟨hs, fun p hp => k _ _ (ep_op1 f p1 (or_tup hp (by rw [List.length_reverse]; exact hz) hr.reverse))⟩⟩
    · cases h7
      obtain ⟨a', ys, rfl, hs, hz, hr⟩ := h
      exact ⟨_, _, rfl, .inl ⟨.of hs, fun p hp => k _ _ (ep_op1 f p1 (or_lst hp (by rw [List.length_reverse]; exact hz) hr.reverse))⟩⟩
end

/-! ### isinstance of a built-in type -/
def tyName : Ty → String
  | .int => "int" | .bool => "bool" | .str => "str" | .tuple => "tuple" | .list => "list" | .dict => "dict"
section
variable {X : Cx} {cl : Nat → Cls} {n : Nat} {T : List Nat} {md : Md} {a b : Expr} {ma : Fr → Option (PV × Fr)} {pos p : Pos}
theorem ty_of {K : PySem.W.Frag} {H : Hp} {B : Addr → Prop} {x : PV} {v : V} {t : Ty} {r : Bool} (h : RepT K H B x v) (e : isTy t x = some r) : ∃ u, TyX K H v u ∧ PySem.W.kitOne K u (.type (tyName t)) = some r := by
  cases x with
  | non => cases (show Rep K H B _ v from h); refine ⟨_, .base .non, kit_ty (a := "NoneType") ?_⟩; cases t <;> (cases e; decide +kernel)
  | bl _ => cases (show Rep K H B _ v from h); refine ⟨_, .base (.bl _), kit_ty (a := "bool") ?_⟩; cases t <;> (cases e; decide +kernel)
  | int _ => cases (show Rep K H B _ v from h); refine ⟨_, .base (.int _), kit_ty (a := "int") ?_⟩; cases t <;> (cases e; decide +kernel)
  | str _ => cases (show Rep K H B _ v from h); refine ⟨_, .base (.str _), kit_ty (a := "str") ?_⟩; cases t <;> (cases e; decide +kernel)
  | tup _ =>
    cases (show Rep K H B _ v from h) with
    | tup ha za ra =>
    refine ⟨.type "tuple", ?_, kit_ty (a := "tuple") ?_⟩
    · rcases ha with (ha | ⟨o, ha⟩) | ⟨o, its, n, h1, h2, _⟩
      · exact .base (.tup ha)
      · exact .fTuple ha
      · exact .kTuple h1 h2
    · cases t <;> (cases e; decide +kernel)
  | lst _ =>
    obtain ⟨a, ys, rfl, ha, _⟩ := h
    refine ⟨_, .base (.lst ha), kit_ty (a := "list") ?_⟩
    cases t <;> (cases e; decide +kernel)
  | dct _ =>
    obtain ⟨a, ys, rfl, ha, _⟩ := h
    refine ⟨.type "dict", ?_, kit_ty (a := "dict") ?_⟩
    · rcases ha with ha | ⟨o, ha⟩
      · exact .base (.dK ha)
      · exact .fDict ha
    · cases t <;> (cases e; decide +kernel)
  | _ => cases t <;> simp [isTy] at e
theorem se_isi {t : Ty} (ha : SE X cl n T md a ma) (hb : PE X b (tC (.ty (tyName t)))) (hg : Gl X "isinstance") (hm : X.mg "isinstance" = none)
    (he : starEach [a, b] X.env = (false, eval a X.env) :: starEach [b] X.env) (he2 : starEach [b] X.env = [(false, eval b X.env)]) :
    SE X cl n T .val (.Call (.Name "isinstance" p) [a, b] [] pos) (fun fr => (ma fr).bind fun p => (isTy t p.1).map fun b => (.bl b, p.2)) :=
  PE.weak (pe_callB (x := "isinstance") call_isi hg hm (by decide +kernel) (pa_cons ha (pa_cons hb pa_nil (by rw [he2]; rfl)) he) (by decide +kernel) (by decide +kernel) he (by rw [he2]; rfl)) fun σ H Q ⟨BL, fr, z, fr2, f, e, k⟩ => by
    obtain ⟨⟨x, fr1⟩, h1, h2⟩ := Option.bind_eq_some_iff.mp e
    obtain ⟨r, h7, h8⟩ := Option.map_eq_some_iff.mp h2
    cases h8
    refine ⟨BL, fr, x, fr1, f, h1, fun v H1 p1 => ?_⟩
    obtain ⟨u, t1, t2⟩ := ty_of (p1.repT f) h7
    exact ⟨v, _, u, _, r, rfl, .ty _, t1, t2, k _ H1 ⟨p1.fs, p1.kp, p1.le, p1.tch, .bl _⟩⟩
end
end EV

set_option linter.all false
set_option Elab.async false
set_option maxRecDepth 100000
/-! Ev8: what is walked; targets; comprehensions. -/
namespace EV
open PySem L2 PySem.Spec PyProof.Rows

/-- J hands out the items xs one by one, while what stands at A stands; B: the barred addresses at H -/
structure Wk (K : PySem.W.Frag) (H : Hp) (B A : Addr → Prop) (J : It) (xs : List PV) : Prop where
  itm : ∀ (Hk : Hp) (Bk O : Addr → Prop), Kp H Hk O → (∀ a, O a → B a) → (∀ a, Bk a → B a ∨ H a = none) → (∀ a, A a → ¬ O a) →
    ∀ i : Nat, (i < xs.length → J.go i Hk ∧ ∀ u Hx, J.yld i Hk u Hx → Kp Hk Hx (fun _ => False) ∧ ∃ p, xs[i]? = some p ∧ ∀ B', (∀ a, B' a → Bk a ∨ Hk a = none) → Rep K Hx B' p u) ∧ (xs.length ≤ i → J.stop i Hk)
  len : xs.length ≤ sizeLine
  tr : ∀ a, A a → H a ≠ none
/-- what the source leans on is out of the frame's own, or the frame's slot i -/
def AOk (cl : Nat → Cls) (BL : Addr → Prop) (σ : L2.St) (fr : Fr) (A : Addr → Prop) : Md → Prop
  | .pl i => ∀ a, A a → σ[i]? = some (some (.ref a)) ∧ ∃ x, fr[i]? = some (some x) ∧ isMut x = true
  | _ => ∀ a, A a → ¬ bar cl BL σ fr a
def tI (K : PySem.W.Frag) (cl : Nat → Cls) (n : Nat) (T : List Nat) (md : Md) (m : Fr → Option (List PV × Fr)) : TI := fun σ H R =>
  ∃ BL fr xs fr', FS K cl n BL σ H fr ∧ m fr = some (xs, fr') ∧ ∀ J H' A, EP' K cl n BL T .val σ H fr .non fr' .non H' → AOk cl BL σ fr' A md → Wk K H' (bar cl BL σ fr') A J xs → R J H'
def SI (X : Cx) (cl : Nat → Cls) (n : Nat) (T : List Nat) (md : Md) (tg e : Expr) (m : Fr → Option (List PV × Fr)) : Prop := PI X tg e (tI X.K cl n T md m)
theorem PI.weak {X : Cx} {tg e : Expr} {t t' : TI} (h : PI X tg e t) (w : ∀ σ H R, t' σ H R → t σ H R) : PI X tg e t' := ⟨fun pins s σ H R I q => h.run pins s σ H R I (w σ H R q)⟩

section
variable {K : PySem.W.Frag} {H : Hp} {B A : Addr → Prop}
theorem mv2 {Hk Hx : Hp} {Bk B' O : Addr → Prop} {x : PV} {v : V} (k : Kp H Hk O) (hO : ∀ a, O a → B a) (hB : ∀ a, Bk a → B a ∨ H a = none) (k2 : Kp Hk Hx fun _ => False) (hB' : ∀ a, B' a → Bk a ∨ Hk a = none) (r : Rep K H B x v) : Rep K Hx B' x v :=
  Rep.move k2 (fun _ z => z.elim) hB' (Rep.move k hO hB r)
theorem wk_list {a : Addr} {xs : List PV} {ys : List V} (h : H a = some (.lst ys)) (hz : ys.length ≤ sizeLine) (r : RepL K H B xs ys) : Wk K H B (· = a) (Itl K a) xs := ⟨fun Hk Bk O k hO hB hA i => by
  have hk : Hk a = some (.lst ys) := k.keep a _ h (hA a rfl)
  refine ⟨fun hi => ?_, fun hi => ⟨ys, .of hk, by rw [← r.length]; exact hi⟩⟩
  obtain ⟨v, h1, h2⟩ := r.get (List.getElem?_eq_getElem hi)
  refine ⟨⟨ys, v, .of hk, h1⟩, fun u Hx ⟨e1, e2⟩ => ?_⟩
  subst e1
  have e := e2 ys (.of hk)
  rw [h1] at e; cases e
  exact ⟨.refl, _, List.getElem?_eq_getElem hi, fun B' hB' => mv2 k hO hB .refl hB' h2⟩, by rw [r.length]; exact hz, fun b e => by rw [e, h]; exact fun z => nomatch z⟩
theorem wk_tup {a : Addr} {xs : List PV} {ys : List V} (h : SqT K H a ys) (hz : ys.length ≤ sizeLine) (r : RepL K H B xs ys) : Wk K H B (fun _ => False) (Itt K a) xs := ⟨fun Hk Bk O k hO hB hA i => by
  have hk : SqT K Hk a ys := k.sqT h
  refine ⟨fun hi => ?_, fun hi => ⟨ys, hk, by rw [← r.length]; exact hi⟩⟩
  obtain ⟨v, h1, h2⟩ := r.get (List.getElem?_eq_getElem hi)
  refine ⟨⟨ys, v, hk, h1⟩, fun u Hx ⟨e1, e2⟩ => ?_⟩
  subst e1
  have e := e2 ys hk
  rw [h1] at e; cases e
  exact ⟨.refl, _, List.getElem?_eq_getElem hi, fun B' hB' => mv2 k hO hB .refl hB' h2⟩, by rw [r.length]; exact hz, fun _ z => z.elim⟩
theorem rangeL_len (lo : Int) (n : Nat) (c : Int) : (rangeL lo n c).length = n := by simp [rangeL]
theorem rangeL_get (lo : Int) (n : Nat) (c : Int) {i : Nat} (h : i < n) : (rangeL lo n c)[i]? = some (.int (lo + i * c)) := by
  simp [rangeL, h]
theorem wk_rng {lo : Int} {n : Nat} (hz : n ≤ sizeLine) : Wk K H B (fun _ => False) (Itr lo n) (rangeL lo n 1) := ⟨fun Hk Bk O k hO hB hA i => by
  rw [rangeL_len]
  refine ⟨fun hi => ⟨hi, fun u Hx ⟨e1, e2⟩ => ?_⟩, fun hi => hi⟩
  subst e1 e2
  refine ⟨.refl, _, rangeL_get lo n 1 hi, fun B' _ => ?_⟩
  rw [Int.mul_one]
  exact .int _, by rw [rangeL_len]; exact hz, fun _ z => z.elim⟩
theorem wk_rngC {lo c : Int} {n : Nat} (hz : n ≤ sizeLine) : Wk K H B (fun _ => False) (Itc lo c n) (rangeL lo n c) := ⟨fun Hk Bk O k hO hB hA i => by
  rw [rangeL_len]
  refine ⟨fun hi => ⟨hi, fun u Hx ⟨e1, e2⟩ => ?_⟩, fun hi => hi⟩
  subst e1 e2
  exact ⟨.refl, _, rangeL_get lo n c hi, fun B' _ => .int _⟩, by rw [rangeL_len]; exact hz, fun _ z => z.elim⟩
theorem wk_str {s : List Nat} (hz : s.length ≤ sizeLine) : Wk K H B (fun _ => False) (Its (tStr s)) (s.map fun c => .str [c]) := ⟨fun Hk Bk O k hO hB hA i => by
  rw [List.length_map]
  refine ⟨fun hi => ⟨by show i < (tStr s).cps.size; simpa [tStr] using hi, fun u Hx ⟨e1, c, e2, e3⟩ => ?_⟩, fun hi => by show (tStr s).cps.size ≤ i; simpa [tStr] using hi⟩
  subst e1 e3
  have e : s[i]? = some c := by simpa [tStr] using e2
  exact ⟨.refl, .str [c], by rw [List.getElem?_map, e]; rfl, fun B' _ => .str [c]⟩, by rw [List.length_map]; exact hz, fun _ z => z.elim⟩
theorem zipL_get : ∀ {xs ys : List PV} {i : Nat} {x y : PV}, xs[i]? = some x → ys[i]? = some y → (zipL xs ys)[i]? = some (.tup [x, y])
  | a :: xs, b :: ys, 0, _, _, h1, h2 => by simp at h1 h2; subst h1 h2; rfl
  | a :: xs, b :: ys, i + 1, _, _, h1, h2 => by simpa [zipL] using zipL_get (i := i) (by simpa using h1) (by simpa using h2)
  | [], _, _, _, _, h1, _ => by simp at h1
  | _ :: _, [], _, _, _, _, h2 => by simp at h2
theorem zipL_len : ∀ (xs ys : List PV), (zipL xs ys).length = min xs.length ys.length
  | [], _ => by simp [zipL]
  | _ :: _, [] => by simp [zipL]
  | _ :: xs, _ :: ys => by simp [zipL, zipL_len xs ys]
theorem wk_zipL {a b : Addr} {xs xs' : List PV} {ys ys' : List V} (h : H a = some (.lst ys)) (hz : ys.length ≤ sizeLine) (r : RepL K H B xs ys) (h' : H b = some (.lst ys')) (r' : RepL K H B xs' ys') : Wk K H B (fun c => c = a ∨ c = b) (Itz K a b) (zipL xs xs') := ⟨fun Hk Bk O k hO hB hA i => by
  have hk : SqL K Hk a ys := .of (k.keep a _ h (hA a (.inl rfl)))
  have hk' : SqL K Hk b ys' := .of (k.keep b _ h' (hA b (.inr rfl)))
  rw [zipL_len]
  refine ⟨fun hi => ?_, fun hi => ⟨ys, ys', hk, hk', by rw [← r.length, ← r'.length]; omega⟩⟩
  have i1 : i < xs.length := by omega
  have i2 : i < xs'.length := by omega
  obtain ⟨v, h1, h2⟩ := r.get (List.getElem?_eq_getElem i1)
  obtain ⟨v', h1', h2'⟩ := r'.get (List.getElem?_eq_getElem i2)
  refine ⟨⟨ys, ys', v, v', hk, hk', h1, h1'⟩, fun u Hx ⟨T, x, y, e0, e1, e2, e3, e4⟩ => ?_⟩
  subst e0 e2
  have ex := e3 ys hk
  have ey := e4 ys' hk'
  rw [h1] at ex; cases ex
  rw [h1'] at ey; cases ey
  refine ⟨kp_upd e1, _, zipL_get (List.getElem?_eq_getElem i1) (List.getElem?_eq_getElem i2), fun B' hB' => ?_⟩
  exact .tup (.of upd_same) (by show 2 ≤ sizeLine; decide) (.cons (mv2 k hO hB (kp_upd e1) hB' h2) (.cons (mv2 k hO hB (kp_upd e1) hB' h2') .nil)), by rw [zipL_len, r.length]; omega, fun c e => by rcases e with e | e <;> (rw [e]; first | (rw [h]; exact fun z => nomatch z) | (rw [h']; exact fun z => nomatch z))⟩
theorem wk_zipT {a b : Addr} {xs xs' : List PV} {ys ys' : List V} (h : SqT K H a ys) (hz : ys.length ≤ sizeLine) (r : RepL K H B xs ys) (h' : SqT K H b ys') (r' : RepL K H B xs' ys') : Wk K H B (fun _ => False) (RZ.ItzT K a b) (zipL xs xs') := ⟨fun Hk Bk O k hO hB hA i => by
  have hk : SqT K Hk a ys := k.sqT h
  have hk' : SqT K Hk b ys' := k.sqT h'
  rw [zipL_len]
  refine ⟨fun hi => ?_, fun hi => ⟨ys, ys', hk, hk', by rw [← r.length, ← r'.length]; omega⟩⟩
  have i1 : i < xs.length := by omega
  have i2 : i < xs'.length := by omega
  obtain ⟨v, h1, h2⟩ := r.get (List.getElem?_eq_getElem i1)
  obtain ⟨v', h1', h2'⟩ := r'.get (List.getElem?_eq_getElem i2)
  refine ⟨⟨ys, ys', v, v', hk, hk', h1, h1'⟩, fun u Hx ⟨T, x, y, e0, e1, e2, e3, e4⟩ => ?_⟩
  subst e0 e2
  have ex := e3 ys hk
  have ey := e4 ys' hk'
  rw [h1] at ex; cases ex
  rw [h1'] at ey; cases ey
  refine ⟨kp_upd e1, _, zipL_get (List.getElem?_eq_getElem i1) (List.getElem?_eq_getElem i2), fun B' hB' => ?_⟩
  exact .tup (.of upd_same) (by show 2 ≤ sizeLine; decide) (.cons (mv2 k hO hB (kp_upd e1) hB' h2) (.cons (mv2 k hO hB (kp_upd e1) hB' h2') .nil)), by rw [zipL_len, r.length]; omega, fun _ z => z.elim⟩
end

section
variable {X : Cx} {cl : Nat → Cls} {n : Nat} {T T' T1 T2 T3 : List Nat} {md md' md1 md2 : Md} {tg a b c : Expr} {ma mb mc m : Fr → Option (PV × Fr)} {pos p : Pos}
/-- a list, a tuple, a text -/
theorem pi_any {te : TE} (he : PE X a te) : PI X tg a (fun σ H R => te σ H fun x H1 => (∃ q, x = .ref q ∧ (∃ xs, SqL X.K H1 q xs) ∧ R (Itl X.K q) H1) ∨ (∃ q, x = .ref q ∧ (∃ xs, SqT X.K H1 q xs) ∧ R (Itt X.K q) H1) ∨ ∃ z, x = .str z ∧ R (Its z) H1) := by
  refine ⟨fun pins s σ H R I h => ?_⟩
  refine thn (he.run pins s σ H _ I h) fun v s1 ⟨x, H1, I1, r1, q1⟩ => ?_
  rcases q1 with ⟨q, e, ⟨xs, hq⟩, hR⟩ | ⟨q, e, ⟨xs, hq⟩, hR⟩ | ⟨z, e, hR⟩
  · subst e
    cases r1
    obtain ⟨its, rv, pl, hz⟩ := I1.list hq
    refine wpAny_pyIter_list pl.isList ?_
    refine ⟨s1.heap.objs.size, [s1.heap.objs.size], _, _, H1, rfl, I1.kept (t' := s1.toks) fun b o e => Heap.get?_push_of_some _ e, turn_list q _, ⟨_, Heap.get?_push_size _ rfl, rfl, rfl⟩, fun b hb => ?_, hR⟩
    have e : b = s1.heap.objs.size := by simpa using hb
    subst e
    exact I1.fpOk (Nat.le_refl _) (I1.hok.fresh (Nat.le_refl _))
  · subst e
    cases r1
    obtain ⟨its, rv, pl, hz⟩ := I1.tuple hq
    refine wpAny_pyIter_tuple (show s1.heap.IsTuple q its.toArray from pl) ?_
    refine ⟨s1.heap.objs.size, [s1.heap.objs.size], _, _, H1, rfl, I1.kept (t' := s1.toks) fun b o e => Heap.get?_push_of_some _ e, turn_tuple q _, ⟨_, Heap.get?_push_size _ rfl, rfl, rfl⟩, fun b hb => ?_, hR⟩
    have e : b = s1.heap.objs.size := by simpa using hb
    subst e
    exact I1.fpOk (Nat.le_refl _) (I1.hok.fresh (Nat.le_refl _))
  · subst e
    obtain ⟨t, rfl⟩ := r1
    cases ha : z.cps.all (· < 128)
    · exact wpAny_pyIter_wide ha (pi_one (tk := s1.toks) I1 _ (turn_str _ z t "str_iterator" (.inr rfl)) ⟨_, Heap.get?_push_size _ rfl, rfl, rfl⟩ hR)
    · exact wpAny_pyIter_ascii ha (pi_one (tk := s1.toks) I1 _ (turn_str _ z t "str_ascii_iterator" (.inl rfl)) ⟨_, Heap.get?_push_size _ rfl, rfl, rfl⟩ hR)
theorem ep_non {K : PySem.W.Frag} {BL : Addr → Prop} {σ : L2.St} {H H' : Hp} {fr fr' : Fr} {x : PV} {v : V} (p1 : EP' K cl n BL T md σ H fr x fr' v H') : EP' K cl n BL T .val σ H fr .non fr' .non H' := ⟨p1.fs, p1.kp, p1.le, p1.tch, .non⟩
theorem si_ex (ha : SE X cl n T md a ma) : SI X cl n T md tg a (fun fr => (ma fr).bind fun p => (iterV p.1).map fun xs => (xs, p.2)) :=
  PI.weak (pi_any ha) fun σ H R ⟨BL, fr, xs, fr2, f, e, k⟩ => by
    obtain ⟨⟨x, fr1⟩, h1, h2⟩ := Option.bind_eq_some_iff.mp e
    obtain ⟨xs', h3, h4⟩ := Option.map_eq_some_iff.mp h2
    cases h4
    refine ⟨BL, fr, x, _, f, h1, fun v H1 p1 => ?_⟩
    have h : RepT X.K H1 _ x v := p1.repT f
    cases x <;> first | (simp [iterV] at h3; done) | skip
    · simp only [iterV] at h3
      split at h3 <;> cases h3
      rename_i hz
      cases (show Rep X.K H1 _ _ v from h)
      exact .inr (.inr ⟨_, rfl, k _ H1 (fun _ => False) (ep_non p1) (by
        cases md with
        | val => exact fun _ z => z.elim
        | fresh => exact fun _ z => z.elim
        | pl i => exact fun _ z => z.elim) (wk_str (by rw [sizeLine_eq]; exact hz))⟩)
    · cases h3
      cases (show Rep X.K H1 _ _ v from h) with
      | tup hs hz hr =>
      exact .inr (.inl ⟨_, rfl, ⟨_, hs⟩, k _ H1 (fun _ => False) (ep_non p1) (by
        cases md with
        | val => exact fun _ z => z.elim
        | fresh => exact fun _ z => z.elim
        | pl i => exact fun _ z => z.elim) (wk_tup hs hz hr)⟩)
    · cases h3
      obtain ⟨a', ys, rfl, hs, hz, hr⟩ := h
      refine .inl ⟨_, rfl, ⟨_, .of hs⟩, k _ H1 (· = a') (ep_non p1) ?_ (wk_list hs hz hr)⟩
      have nb : md.ok false = true → ¬ bar cl BL σ fr1 a' := fun hm => by
        have q := p1.rep f hm
        cases q with
        | lst nb _ _ _ => exact nb
      cases md with
      | val => exact fun _ z => by rw [z]; exact nb rfl
      | fresh => exact fun _ z => by rw [z]; exact nb rfl
      | pl i => exact fun _ z => by rw [z]; exact ⟨p1.res.2, _, p1.res.1, rfl⟩
variable {ams : List Am} {ms : Fr → Option (List PV × Fr)}
theorem args1 {K : PySem.W.Frag} {B : Addr → Prop} {σ : L2.St} {H : Hp} {fr : Fr} {x : PV} {vs : List V} {am : Am} (h : ArgsR K B σ H fr [am] [x] vs) : ∃ v, vs = [v] ∧ ArgR K B σ H fr am x v := by
  cases h with
  | cons h t => cases t; exact ⟨_, rfl, h⟩
theorem okRg_b {i : Int} (h : okRg i = true) : -(2 ^ 61) ≤ i ∧ i < 2 ^ 61 := by
  unfold okRg at h
  exact of_decide_eq_true h
theorem okN_le {n : Nat} (h : okN n = true) : n ≤ sizeLine := by
  rw [sizeLine_eq]; unfold okN at h; exact of_decide_eq_true h
/-- ranges: each end a value -/
theorem si_rg1 (hg : Gl X "range") (hm : X.mg "range" = none) (ha : SE X cl n T md a ma) (hs : starEach [a] X.env = [(false, eval a X.env)]) :
    SI X cl n T .val tg (.Call (.Name "range" p) [a] [] pos) (fun fr => (ma fr).bind fun p => (intOf p.1).bind fun n => if (okRg n && okN n.toNat) = true then some (rangeL 0 n.toNat 1, p.2) else none) :=
  PI.weak (pi_range1 hg hm (pa_cons ha pa_nil (by rw [hs]; rfl)) hs) fun σ H R ⟨BL, fr, xs, fr2, f, e, k⟩ => by
    obtain ⟨⟨x, fr1⟩, h1, h2⟩ := Option.bind_eq_some_iff.mp e
    obtain ⟨i, h3, h4⟩ := Option.bind_eq_some_iff.mp h2
    split at h4 <;> cases h4
    rename_i hz
    simp only [Bool.and_eq_true] at hz
    obtain ⟨b1, b2⟩ := okRg_b hz.1
    refine ⟨BL, fr, x, _, f, h1, fun v H1 p1 => ?_⟩
    cases x <;> first | (simp [intOf] at h3; done) | skip
    cases h3
    have h : RepT X.K H1 _ (.int i) v := p1.repT f
    cases (show Rep X.K H1 _ (.int i) v from h)
    exact ⟨i, rfl, by omega, by omega, k _ H1 (fun _ => False) (ep_non p1) (fun _ z => z.elim) (wk_rng (okN_le hz.2))⟩
theorem si_rg2 (hg : Gl X "range") (hm : X.mg "range" = none) (ha : SE X cl n T1 md1 a ma) (hb : SE X cl n T2 md2 b mb) (hs : starEach [a, b] X.env = [(false, eval a X.env), (false, eval b X.env)]) (hs2 : starEach [b] X.env = [(false, eval b X.env)]) :
    SI X cl n (T1 ++ T2) .val tg (.Call (.Name "range" p) [a, b] [] pos) (fun fr => (ma fr).bind fun p => (mb p.2).bind fun q => (intOf p.1).bind fun m => (intOf q.1).bind fun n =>
      if (okRg m && okRg n && okN (n - m).toNat) = true then some (rangeL m (n - m).toNat 1, q.2) else none) :=
  PI.weak (pi_range2 hg hm (pa_cons ha (pa_cons hb pa_nil (by rw [hs2]; rfl)) (by rw [hs, hs2])) hs hs2) fun σ H R ⟨BL, fr, xs, fr2, f, e, k⟩ => by
    obtain ⟨⟨x, fr1⟩, h1, h2⟩ := Option.bind_eq_some_iff.mp e
    obtain ⟨⟨y, fr1'⟩, h1', h2'⟩ := Option.bind_eq_some_iff.mp h2
    obtain ⟨i, h3, h4⟩ := Option.bind_eq_some_iff.mp h2'
    obtain ⟨j, h5, h6⟩ := Option.bind_eq_some_iff.mp h4
    split at h6 <;> cases h6
    rename_i hz
    simp only [Bool.and_eq_true] at hz
    obtain ⟨b1, b2⟩ := okRg_b hz.1.1
    obtain ⟨b3, b4⟩ := okRg_b hz.1.2
    refine ⟨BL, fr, x, fr1, f, h1, fun v H1 p1 => ⟨BL, fr1, y, _, p1.fs, h1', fun u H2 p2 => ?_⟩⟩
    cases x <;> first | (simp [intOf] at h3; done) | skip
    cases y <;> first | (simp [intOf] at h5; done) | skip
    cases h3
    cases h5
    have h : RepT X.K H1 _ (.int i) v := p1.repT f
    cases (show Rep X.K H1 _ (.int i) v from h)
    have h : RepT X.K H2 _ (.int j) u := p2.repT p1.fs
    cases (show Rep X.K H2 _ (.int j) u from h)
    exact ⟨i, j, rfl, ⟨by omega, by omega, by omega, by omega⟩, k _ H2 (fun _ => False) (EP'.then' f p1 (ep_non p2)) (fun _ z => z.elim) (wk_rng (okN_le hz.2))⟩
theorem small_of {i j c : Int} (h1 : -(2 ^ 61) ≤ i) (h2 : i < 2 ^ 61) (h3 : -(2 ^ 61) ≤ j) (h4 : j < 2 ^ 61) (h0 : c ≠ 0) (hc : c.natAbs < 1073741824) : RgC i j c (rangeN i j c) := by
  have hq : Builtin.Range.rangeSize i j c = (rangeN i j c : Int) ∧ (rangeN i j c : Int) < 2 ^ 62 + 1 ∧ 0 ≤ (rangeN i j c : Int) := by
    unfold Builtin.Range.rangeSize rangeN
    by_cases hp : 0 < c
    · rw [if_pos (show c > 0 from hp), if_pos hp]
      by_cases hij : i < j
      · rw [if_pos hij]
        have e1 : j - i + c - 1 = (j - i - 1) + c := by omega
        rw [e1, Int.add_ediv_of_dvd_right ⟨1, by omega⟩, Int.ediv_self h0]
        have d1 : 0 ≤ (j - i - 1) / c := Int.ediv_nonneg (by omega) (by omega)
        have d2 : (j - i - 1) / c ≤ j - i - 1 := Int.ediv_le_self _ (by omega)
        rw [Int.toNat_of_nonneg (by omega)]
        refine ⟨rfl, ?_, ?_⟩ <;> omega
      · rw [if_neg hij]
        have z : (j - i + c - 1) / c ≤ 0 := by
          have : (j - i + c - 1) / c < 1 := Int.ediv_lt_of_lt_mul hp (by omega)
          omega
        rw [Int.toNat_of_nonpos z]
        refine ⟨rfl, ?_, ?_⟩ <;> simp
    · rw [if_neg (show ¬ c > 0 from hp), if_neg hp]
      have hp' : 0 < -c := by omega
      by_cases hij : j < i
      · rw [if_pos (show i > j from hij)]
        have e1 : i - j + -c - 1 = (i - j - 1) + -c := by omega
        rw [e1, Int.add_ediv_of_dvd_right ⟨1, by omega⟩, Int.ediv_self (by omega)]
        have d1 : 0 ≤ (i - j - 1) / -c := Int.ediv_nonneg (by omega) (by omega)
        have d2 : (i - j - 1) / -c ≤ i - j - 1 := Int.ediv_le_self _ (by omega)
        rw [Int.toNat_of_nonneg (by omega)]
        refine ⟨rfl, ?_, ?_⟩ <;> omega
      · rw [if_neg (show ¬ i > j from hij)]
        have z : (i - j + -c - 1) / -c ≤ 0 := by
          have : (i - j + -c - 1) / -c < 1 := Int.ediv_lt_of_lt_mul hp' (by omega)
          omega
        rw [Int.toNat_of_nonpos z]
        refine ⟨rfl, ?_, ?_⟩ <;> simp
  obtain ⟨e, b1, b2⟩ := hq
  refine ⟨h0, hc, ?_, e⟩
  unfold Builtin.Range.small
  rw [e]
  simp only [Builtin.Range.rangeFitsLong, Bool.and_eq_true, Bool.or_eq_true, decide_eq_true_eq, beq_iff_eq]
  refine ⟨⟨⟨⟨?_, ?_⟩, ?_⟩, ?_⟩, .inr ?_⟩
  · omega
  · omega
  · omega
  · omega
  · split <;> (simp only [Bool.and_eq_true, decide_eq_true_eq]; omega)
theorem si_rg3 (hg : Gl X "range") (hm : X.mg "range" = none) (ha : SE X cl n T1 md1 a ma) (hb : SE X cl n T2 md2 b mb) (hc : SE X cl n T3 md c mc) (hs : starEach [a, b, c] X.env = (false, eval a X.env) :: starEach [b, c] X.env) (hs2 : starEach [b, c] X.env = (false, eval b X.env) :: starEach [c] X.env) (hs3 : starEach [c] X.env = [(false, eval c X.env)]) :
    SI X cl n (T1 ++ (T2 ++ T3)) .val tg (.Call (.Name "range" p) [a, b, c] [] pos) (fun fr => (ma fr).bind fun p => (mb p.2).bind fun q => (mc q.2).bind fun r => (intOf p.1).bind fun m => (intOf q.1).bind fun n => (intOf r.1).bind fun d =>
      if (okRg m && okRg n && decide (d ≠ 0 ∧ d.natAbs < 1073741824) && okN (rangeN m n d)) = true then some (rangeL m (rangeN m n d) d, r.2) else none) :=
  PI.weak (pi_range3 hg hm (pa_cons ha (pa_cons hb (pa_cons hc pa_nil (by rw [hs3]; rfl)) hs2) hs) hs (by rw [hs2, hs3]; rfl)) fun σ H R ⟨BL, fr, xs, fr2, f, e, k⟩ => by
    obtain ⟨⟨x, fr1⟩, h1, h2⟩ := Option.bind_eq_some_iff.mp e
    obtain ⟨⟨y, fr1'⟩, h1', h2'⟩ := Option.bind_eq_some_iff.mp h2
    obtain ⟨⟨z, fr1''⟩, h1'', h2''⟩ := Option.bind_eq_some_iff.mp h2'
    obtain ⟨i, h3, h4⟩ := Option.bind_eq_some_iff.mp h2''
    obtain ⟨j, h5, h6⟩ := Option.bind_eq_some_iff.mp h4
    obtain ⟨d, h7, h8⟩ := Option.bind_eq_some_iff.mp h6
    split at h8 <;> cases h8
    rename_i hz
    simp only [Bool.and_eq_true, decide_eq_true_eq] at hz
    obtain ⟨b1, b2⟩ := okRg_b hz.1.1.1
    obtain ⟨b3, b4⟩ := okRg_b hz.1.1.2
    refine ⟨BL, fr, x, fr1, f, h1, fun v H1 p1 => ⟨BL, fr1, y, _, p1.fs, h1', fun u H2 p2 => ⟨BL, fr1', z, _, p2.fs, h1'', fun w H3 p3 => ?_⟩⟩⟩
    cases x <;> first | (simp [intOf] at h3; done) | skip
    cases y <;> first | (simp [intOf] at h5; done) | skip
    cases z <;> first | (simp [intOf] at h7; done) | skip
    cases h3
    cases h5
    cases h7
    have h : RepT X.K H1 _ (.int i) v := p1.repT f
    cases (show Rep X.K H1 _ (.int i) v from h)
    have h : RepT X.K H2 _ (.int j) u := p2.repT p1.fs
    cases (show Rep X.K H2 _ (.int j) u from h)
    have h : RepT X.K H3 _ (.int d) w := p3.repT p2.fs
    cases (show Rep X.K H3 _ (.int d) w from h)
    exact ⟨i, j, d, _, rfl, small_of b1 b2 b3 b4 hz.1.2.1 hz.1.2.2, k _ H3 (fun _ => False) (EP'.then' f p1 (EP'.then' p1.fs p2 (ep_non p3))) (fun _ z => z.elim) (wk_rngC (okN_le hz.2))⟩
theorem si_zip {elts : List Expr} {kk : Nat} {tpos : Pos} (hg : Gl X "zip") (hm : X.mg "zip" = none) (ha : SE X cl n T1 md1 a ma) (hb : SE X cl n T2 md2 b mb) (h1 : md1.ok false = true) (h2 : md2.ok false = true)
    (hs : starEach [a, b] X.env = (false, eval a X.env) :: starEach [b] X.env) (hs2 : starEach [b] X.env = [(false, eval b X.env)]) :
    SI X cl n (T1 ++ T2) .val (.Tuple elts kk tpos) (.Call (.Name "zip" p) [a, b] [] pos) (fun fr => (ma fr).bind fun p => (mb p.2).bind fun q => match p.1, q.1 with
      | .tup xs, .tup ys => some (zipL xs ys, q.2)
      | .lst xs, .lst ys => some (zipL xs ys, q.2)
      | _, _ => none) :=
  PI.weak (RZ.pi_zipA hg hm (pa_cons ha (pa_cons hb pa_nil (by rw [hs2]; rfl)) hs) hs (by rw [hs2]; rfl)) fun σ H R ⟨BL, fr, xs, fr2, f, e, k⟩ => by
    obtain ⟨⟨x, fr1⟩, e1, e2⟩ := Option.bind_eq_some_iff.mp e
    obtain ⟨⟨y, fr1'⟩, e1', e2'⟩ := Option.bind_eq_some_iff.mp e2
    refine ⟨BL, fr, x, fr1, f, e1, fun v H1 p1 => ⟨BL, fr1, y, _, p1.fs, e1', fun u H2 p2 => ?_⟩⟩
    have r1 : Rep X.K H2 (bar cl BL σ fr1') x v := Rep.over p1.fs p2 (p1.rep f h1)
    have r2 : Rep X.K H2 (bar cl BL σ fr1') y u := p2.rep p1.fs h2
    cases x <;> cases y <;> first | (simp at e2'; done) | skip
    · cases e2'
      cases r1 with
      | tup hs1 hz1 hr1 =>
      cases r2 with
      | tup hs2 hz2 hr2 =>
      exact ⟨_, _, _, _, rfl, .inr ⟨hs1, hs2, k _ H2 (fun _ => False) (EP'.then' f p1 (ep_non p2)) (fun _ z => z.elim) (wk_zipT hs1 hz1 hr1 hs2 hr2)⟩⟩
    · cases e2'
      cases r1 with
      | lst n1 hs1 hz1 hr1 =>
      cases r2 with
      | lst n2 hs2 hz2 hr2 =>
      exact ⟨_, _, _, _, rfl, .inl ⟨.of hs1, .of hs2, k _ H2 (fun c => c = _ ∨ c = _) (EP'.then' f p1 (ep_non p2)) (fun c z => by rcases z with z | z <;> rw [z] <;> assumption) (wk_zipL hs1 hz1 hr1 hs2 hr2)⟩⟩
end
end EV

set_option linter.all false
set_option Elab.async false
set_option maxRecDepth 100000
/-! Ev9: slots set and wiped; targets; comprehensions. -/
namespace EV
open PySem L2 PySem.Spec PyProof.Rows

section
variable {K : PySem.W.Frag} {cl : Nat → Cls} {n : Nat} {BL : Addr → Prop} {σ σ' : L2.St} {H H' H1 H2 : Hp} {fr fr' fr1 : Fr} {T T' : List Nat} {p : PV} {u : V}
/-- frames alike as far as slots of their own, lent slots go -/
theorem bar_congr (h : ∀ i a, ownAt cl σ' fr' i a → ownAt cl σ fr i a) {a : Addr} (z : bar cl BL σ' fr' a) : bar cl BL σ fr a := z.imp id fun ⟨i, q⟩ => ⟨i, h i a q⟩
/-- slots changed, all plain -/
theorem fs_plain (f : FS K cl n BL σ H fr) (l1 : σ'.length = n) (l2 : fr'.length = n)
    (h : ∀ i, cl i ≠ .P → σ'[i]? = σ[i]? ∧ fr'[i]? = fr[i]?) (hp : ∀ i x, cl i = .P → fr'[i]? = some (some x) → ∃ v, σ'[i]? = some (some v) ∧ Rep K H (bar cl BL σ fr) x v) : FS K cl n BL σ' H fr' := by
  have ho : ∀ i a, ownAt cl σ' fr' i a → ownAt cl σ fr i a := fun i a ⟨h1, h2, h3⟩ => by
    obtain ⟨e1, e2⟩ := h i (by rw [h1]; exact fun z => nomatch z)
    rw [e1] at h3; rw [e2] at h2
    exact ⟨h1, h2, h3⟩
  have hl : ∀ i a, lenAt cl σ' fr' i a → lenAt cl σ fr i a := fun i a ⟨h1, h2, h3⟩ => by
    obtain ⟨e1, e2⟩ := h i (by rw [h1]; exact fun z => nomatch z)
    rw [e1] at h3; rw [e2] at h2
    exact ⟨h1, h2, h3⟩
  have hb : ∀ a, bar cl BL σ' fr' a → bar cl BL σ fr a ∨ H a = none := fun a z => .inl (bar_congr ho z)
  refine ⟨l1, l2, fun i x hi => ?_, fun i j a h1 h2 => f.inj i j a (ho i a h1) (ho j a h2), fun i a h1 => f.sep i a (ho i a h1), fun i j a h1 h2 => f.lsp i j a (hl i a h1) (ho j a h2), f.blt⟩
  cases hc : cl i with
  | P =>
    obtain ⟨v, e, q⟩ := hp i x hc hi
    exact ⟨v, e, Rep.move (O := fun _ => False) .refl (fun _ z => z.elim) hb q⟩
  | L =>
    obtain ⟨e1, e2⟩ := h i (by rw [hc]; exact fun z => nomatch z)
    rw [e2] at hi
    obtain ⟨v, e, q⟩ := f.slot i x hi
    rw [hc] at q
    exact ⟨v, by rw [e1]; exact e, RepT.move (O := fun _ => False) .refl (fun _ z => z.elim) hb (fun _ _ _ z => z) q⟩
  | M =>
    obtain ⟨e1, e2⟩ := h i (by rw [hc]; exact fun z => nomatch z)
    rw [e2] at hi
    obtain ⟨v, e, q⟩ := f.slot i x hi
    rw [hc] at q
    obtain ⟨a, e', q⟩ := q
    exact ⟨v, by rw [e1]; exact e, a, e', q.move (O := fun _ => False) .refl (fun _ z => z.elim) hb fun z => z⟩
/-- what two frames have in common where only plain slots are differing -/
theorem own_iff (h : ∀ i, cl i ≠ .P → σ'[i]? = σ[i]? ∧ fr'[i]? = fr[i]?) (i : Nat) (a : Addr) : ownAt cl σ' fr' i a ↔ ownAt cl σ fr i a := by
  constructor <;> (intro ⟨h1, h2, h3⟩; obtain ⟨e1, e2⟩ := h i (by rw [h1]; exact fun z => nomatch z))
  · rw [e1] at h3; rw [e2] at h2; exact ⟨h1, h2, h3⟩
  · rw [← e1] at h3; rw [← e2] at h2; exact ⟨h1, h2, h3⟩
theorem bar_iff (h : ∀ i, cl i ≠ .P → σ'[i]? = σ[i]? ∧ fr'[i]? = fr[i]?) (a : Addr) : bar cl BL σ' fr' a ↔ bar cl BL σ fr a := by
  unfold bar
  exact or_congr Iff.rfl (exists_congr fun i => own_iff h i a)
theorem ownT_iff (h : ∀ i, cl i ≠ .P → σ'[i]? = σ[i]? ∧ fr'[i]? = fr[i]?) (a : Addr) : ownT cl σ' fr' T a ↔ ownT cl σ fr T a := by
  unfold ownT
  exact exists_congr fun i => and_congr Iff.rfl (own_iff h i a)
theorem bar_eq (h : ∀ i, cl i ≠ .P → σ'[i]? = σ[i]? ∧ fr'[i]? = fr[i]?) : bar cl BL σ' fr' = bar cl BL σ fr := funext fun a => propext (bar_iff h a)
theorem ownT_eq (h : ∀ i, cl i ≠ .P → σ'[i]? = σ[i]? ∧ fr'[i]? = fr[i]?) : ownT cl σ' fr' T = ownT cl σ fr T := funext fun a => propext (ownT_iff h a)
/-- a plain slot is set -/
theorem fs_set {i : Nat} (f : FS K cl n BL σ H fr) (hc : cl i = .P) (r : Rep K H (bar cl BL σ fr) p u) : FS K cl n BL (σ.set i (some u)) H (fr.set i (some p)) := by
  refine fs_plain f (by rw [List.length_set]; exact f.lσ) (by rw [List.length_set]; exact f.lf) (fun j hj => ?_) fun j x _ hx => ?_
  · have e : i ≠ j := fun z => hj (z ▸ hc)
    rw [List.getElem?_set_ne e, List.getElem?_set_ne e]; exact ⟨rfl, rfl⟩
  · rw [set_get] at hx ⊢
    by_cases e : i = j
    · subst e
      rw [if_pos rfl] at hx ⊢
      rw [f.lf] at hx
      rw [f.lσ]
      split at hx <;> cases hx
      rename_i hn
      rw [if_pos hn]
      exact ⟨u, rfl, r⟩
    · rw [if_neg e] at hx ⊢
      obtain ⟨v, e1, e2⟩ := f.slot j x hx
      rename_i hcj
      rw [hcj] at e2
      exact ⟨v, e1, e2⟩
theorem wipe_get : ∀ {vs : List Nat} {σ : L2.St} {i : Nat}, (wipe σ vs)[i]? = if i ∈ vs then (if i < σ.length then some none else none) else σ[i]?
  | [], σ, i => by simp [wipe]
  | v :: vs, σ, i => by
    unfold wipe
    rw [set_get, wipe_get, wipe_length]
    by_cases h : v = i
    · subst h; simp
    · rw [if_neg h]
      by_cases h2 : i ∈ vs
      · rw [if_pos h2, if_pos (List.mem_cons_of_mem _ h2)]
      · rw [if_neg h2, if_neg (by simp [h2, Ne.symm h])]
theorem wipeF_len : ∀ {vs : List Nat} {fr : Fr}, (wipeF fr vs).length = fr.length
  | [], _ => rfl
  | v :: vs, fr => by unfold wipeF; rw [List.length_set, wipeF_len]
theorem wipeF_get : ∀ {vs : List Nat} {fr : Fr} {i : Nat}, (wipeF fr vs)[i]? = if i ∈ vs then (if i < fr.length then some none else none) else fr[i]?
  | [], fr, i => by simp [wipeF]
  | v :: vs, fr, i => by
    unfold wipeF
    rw [set_get, wipeF_get, wipeF_len]
    by_cases h : v = i
    · subst h; simp
    · rw [if_neg h]
      by_cases h2 : i ∈ vs
      · rw [if_pos h2, if_pos (List.mem_cons_of_mem _ h2)]
      · rw [if_neg h2, if_neg (by simp [h2, Ne.symm h])]
theorem backF_len {old : Fr} : ∀ {vs : List Nat} {fr : Fr}, (backF old vs fr).length = fr.length
  | [], _ => rfl
  | v :: vs, fr => by unfold backF; rw [List.length_set, backF_len]
theorem backF_get {old : Fr} : ∀ {vs : List Nat} {fr : Fr} {i : Nat}, old.length = fr.length → (backF old vs fr)[i]? = if i ∈ vs then old[i]? else fr[i]?
  | [], fr, i, _ => by simp [backF]
  | v :: vs, fr, i, hl => by
    unfold backF
    rw [set_get, backF_get hl, backF_len]
    by_cases h : v = i
    · subst h
      rw [if_pos rfl, if_pos List.mem_cons_self]
      by_cases hi : v < fr.length
      · rw [if_pos hi, List.getElem?_eq_getElem (by omega)]; rfl
      · rw [if_neg hi, List.getElem?_eq_none (by omega)]
    · rw [if_neg h]
      by_cases h2 : i ∈ vs
      · rw [if_pos h2, if_pos (List.mem_cons_of_mem _ h2)]
      · rw [if_neg h2, if_neg (by simp [h2, Ne.symm h])]
/-- σ, fr and σ', fr' agree off vs, and vs is plain -/
theorem off_of {vs : List Nat} (hv : ∀ i ∈ vs, cl i = .P) (h : ∀ i, i ∉ vs → σ'[i]? = σ[i]? ∧ fr'[i]? = fr[i]?) : ∀ i, cl i ≠ .P → σ'[i]? = σ[i]? ∧ fr'[i]? = fr[i]? := fun i hi => h i fun z => hi (hv i z)
theorem wipe_off {vs : List Nat} (hv : ∀ i ∈ vs, cl i = .P) : ∀ i, cl i ≠ .P → (wipe σ vs)[i]? = σ[i]? ∧ (wipeF fr vs)[i]? = fr[i]? := off_of hv fun i h => by
  rw [wipe_get, wipeF_get, if_neg h, if_neg h]; exact ⟨rfl, rfl⟩
theorem fs_wipe {vs : List Nat} (f : FS K cl n BL σ H fr) (hv : ∀ i ∈ vs, cl i = .P) : FS K cl n BL (wipe σ vs) H (wipeF fr vs) := by
  refine fs_plain f (by rw [wipe_length]; exact f.lσ) (by rw [wipeF_len]; exact f.lf) (wipe_off hv) fun i x hc hx => ?_
  rw [wipeF_get] at hx
  by_cases h : i ∈ vs
  · rw [if_pos h] at hx; split at hx <;> cases hx
  · rw [if_neg h] at hx
    rw [wipe_get, if_neg h]
    obtain ⟨v, e1, e2⟩ := f.slot i x hx
    rw [hc] at e2
    exact ⟨v, e1, e2⟩
/-- an object out of the frame's own is changed, known to nobody -/
theorem fs_updBL {D : Addr} {o : HO} (f : FS K cl n BL σ H fr) (hD : BL D) (hl : ∀ i, ¬ lenAt cl σ fr i D) (k : Kp H H' (· = D)) (hn : H' D ≠ none) : FS K cl n BL σ H' fr := by
  have hO : ∀ a, a = D → bar cl BL σ fr a := fun a h => h ▸ .inl hD
  have hb : ∀ a, bar cl BL σ fr a → bar cl BL σ fr a ∨ H a = none := fun a z => .inl z
  refine ⟨f.lσ, f.lf, fun i x hi => ?_, f.inj, f.sep, f.lsp, fun a h z => f.blt a h (k.tr a z)⟩
  obtain ⟨v, e, q⟩ := f.slot i x hi
  refine ⟨v, e, ?_⟩
  cases hc : cl i with
  | P => rw [hc] at q; exact Rep.move k hO hb q
  | L =>
    rw [hc] at q
    exact RepT.move k hO hb (fun a ea hm z => hl i ⟨hc, ⟨x, hi, hm⟩, by rw [e, ea, z]⟩) q
  | M =>
    rw [hc] at q
    obtain ⟨a, e', q⟩ := q
    subst e'
    exact ⟨a, rfl, q.move k hO hb fun z => f.sep i a ⟨hc, ⟨x, hi⟩, e⟩ (z ▸ hD)⟩
theorem lenAt.tr {i : Nat} {a : Addr} (f : FS K cl n BL σ H fr) (h : lenAt cl σ fr i a) : H a ≠ none := by
  obtain ⟨h1, ⟨x, h2, h3⟩, h4⟩ := h
  obtain ⟨v, e, q⟩ := f.slot i x h2
  rw [h4] at e; cases e
  rw [h1] at q
  cases x <;> first | (simp [isMut] at h3; done) | skip
  · obtain ⟨b, ys, e, h, _⟩ := q
    cases e
    rw [h]; exact fun z => nomatch z
  · obtain ⟨b, ys, e, h, _⟩ := q
    cases e
    exact rd_ne h
  · cases (show Rep K H _ _ _ from q)
theorem kp_upd' {D : Addr} {o : HO} {xs : List V} (h : H D = some (.lst xs)) : Kp H (upd H D o) (· = D) := by
  refine ⟨fun a u e n => by rw [upd_ne n]; exact e, fun a ys r => ?_, fun a ob ys e => ?_, fun a e => ?_⟩
  · have : a ≠ D := fun z => by
      subst z
      rcases r with r | ⟨_, r⟩ <;> (rw [h] at r; cases r)
    rcases r with r | ⟨ob, r⟩
    · exact .inl (by rw [upd_ne this]; exact r)
    · exact .inr ⟨ob, by rw [upd_ne this]; exact r⟩
  · have : a ≠ D := fun z => by subst z; rw [h] at e; cases e
    rw [upd_ne this]; exact e
  · by_cases z : a = D
    · subst z; rw [upd_same] at e; cases e
    · rwa [upd_ne z] at e
end

/-! ### targets -/
section
variable {X : Cx} {cl : Nat → Cls} {n : Nat} {T T' T1 T2 T3 : List Nat} {md md' md1 md2 : Md} {tg a b c : Expr} {ma mb mc m : Fr → Option (PV × Fr)} {pos p : Pos}
/-- what a target does: plain slots at `is` are set -/
def GR (K : PySem.W.Frag) (cl : Nat → Cls) (n : Nat) (t : Tg) (is : List Nat) (g : TG) : Prop := ∀ {BL : Addr → Prop} {σ : L2.St} {H : Hp} {fr fr2 : Fr} {p : PV} {u : V} {Q : L2.St → Hp → Prop}, FS K cl n BL σ H fr → Rep K H (bar cl BL σ fr) p u → bindTg t p fr = some fr2 →
  (∀ σ2, FS K cl n BL σ2 H fr2 → (∀ i, i ∉ is → σ2[i]? = σ[i]? ∧ fr2[i]? = fr[i]?) → Q σ2 H) → g u σ H Q
theorem gr_name {K : PySem.W.Frag} {i : Nat} (hc : cl i = .P) : GR K cl n (.nm i) [i] (gName i) := fun {BL σ H fr fr2 p u Q} f r e k => by
  cases e
  exact k _ (fs_set f hc r) fun j hj => by
    have : i ≠ j := fun z => hj (by simp [z])
    rw [List.getElem?_set_ne this, List.getElem?_set_ne this]; exact ⟨rfl, rfl⟩
/-- names, from the left -/
def gNames : List Nat → TGs
  | [] => gNil
  | i :: is => gCons (gName i) (gNames is)
theorem gr_names {K : PySem.W.Frag} : ∀ {is : List Nat}, (∀ i ∈ is, cl i = .P) → ∀ {BL : Addr → Prop} {σ : L2.St} {H : Hp} {fr : Fr} {ps : List PV} {us : List V} {Q : L2.St → Hp → Prop}, FS K cl n BL σ H fr → RepL K H (bar cl BL σ fr) ps us → ps.length = is.length →
  (∀ σ2, FS K cl n BL σ2 H (setAll is ps fr) → (∀ i, i ∉ is → σ2[i]? = σ[i]? ∧ (setAll is ps fr)[i]? = fr[i]?) → Q σ2 H) → gNames is us σ H Q
  | [], _, _, _, _, _, _, _, _, f, r, e, k => by
    cases r with
    | nil => exact ⟨rfl, k _ f fun _ _ => ⟨rfl, rfl⟩⟩
    | cons => simp at e
  | i :: is, hc, BL, σ, H, fr, _, _, Q, f, r, e, k => by
    cases r with
    | nil => simp at e
    | @cons p ps u us r rr =>
      refine ⟨u, us, rfl, ?_⟩
      have h1 := hc i List.mem_cons_self
      have off : ∀ j, i ≠ j → (σ.set i (some u))[j]? = σ[j]? ∧ (fr.set i (some p))[j]? = fr[j]? := fun j hj => by
        rw [List.getElem?_set_ne hj, List.getElem?_set_ne hj]; exact ⟨rfl, rfl⟩
      have hb : bar cl BL (σ.set i (some u)) (fr.set i (some p)) = bar cl BL σ fr := bar_eq fun j hj => off j fun z => hj (z ▸ h1)
      refine gr_names (is := is) (fun j hj => hc j (List.mem_cons_of_mem _ hj)) (fs_set f h1 r) (by rw [hb]; exact rr) (by simpa using e) fun σ2 f2 o2 => k σ2 f2 fun j hj => ?_
      obtain ⟨o3, o4⟩ := o2 j fun z => hj (List.mem_cons_of_mem _ z)
      obtain ⟨o5, o6⟩ := off j fun z => hj (by simp [z])
      exact ⟨o3.trans o5, o4.trans o6⟩
theorem gr_tup {K : PySem.W.Frag} {is : List Nat} (hc : ∀ i ∈ is, cl i = .P) : GR K cl n (.tp is) is (gTup K is.length (gNames is)) := fun {BL σ H fr fr2 p u Q} f r e k => by
  cases p <;> first | (simp [bindTg] at e; done) | skip
  simp only [bindTg] at e
  split at e <;> cases e
  rename_i hl
  cases r with
  | tup hs hz hr =>
  exact ⟨_, _, rfl, hs, by rw [← hr.length]; exact hl, gr_names hc f hr hl k⟩

/-! ### comprehensions -/
/-- the tests behind a clause -/
def tQ (K : PySem.W.Frag) (cl : Nat → Cls) (n : Nat) (T : List Nat) (m : Fr → Option (Bool × Fr)) : TT := fun σ H Q =>
  ∃ BL fr b fr', FS K cl n BL σ H fr ∧ m fr = some (b, fr') ∧ ∀ H', EP' K cl n BL T .val σ H fr .non fr' .non H' → Q b H'
def SQ (X : Cx) (cl : Nat → Cls) (n : Nat) (T : List Nat) (ifs : List Expr) (m : Fr → Option (Bool × Fr)) : Prop := PTs X ifs (tQ X.K cl n T m)
theorem PTs.weak {ifs : List Expr} {t t' : TT} (h : PTs X ifs t) (w : ∀ σ H Q, t' σ H Q → t σ H Q) : PTs X ifs t' := ⟨fun pins s σ H Q I q => h.run pins s σ H Q I (w σ H Q q)⟩
theorem sq_nil : SQ X cl n [] [] (fun fr => some (true, fr)) := PTs.weak pts_nil fun σ H Q ⟨BL, fr, b, fr', f, e, k⟩ => by
  cases e
  exact k H (ep_self f .non)
theorem sq_one (h : ST X cl n T c m) : SQ X cl n T [c] (fun fr => (m fr).bind fun p => (blOf p.1).map fun b => (b, p.2)) := PTs.weak (pts_one h) fun σ H Q ⟨BL, fr, b, fr', f, e, k⟩ => by
  obtain ⟨⟨x, fr1⟩, h1, h2⟩ := Option.bind_eq_some_iff.mp e
  obtain ⟨t, h3, h4⟩ := Option.map_eq_some_iff.mp h2
  cases h4
  obtain rfl := blOf_some h3
  exact ⟨BL, fr, _, _, f, h1, fun H1 p1 => k H1 (ep_non p1)⟩
end
end EV

set_option linter.all false
set_option Elab.async false
set_option maxRecDepth 100000
/-! Ev10: comprehensions. -/
namespace EV
open PySem L2 PySem.Spec PyProof.Rows

/-- one turn of a comprehension's block -/
def stepF (tg : Tg) (vs : List Nat) (mc : Fr → Option (Bool × Fr)) (me : Fr → Option (PV × Fr)) : PV → Fr → Option (List PV × Fr) := fun x g =>
  (bindTg tg x (wipeF g vs)).bind fun g => (mc g).bind fun c => if c.1 = true then (me c.2).map fun r => ([r.1], r.2) else some ([], c.2)
/-- what a turn leaves; σ: the block's slots -/
structure BT' (K : PySem.W.Frag) (cl : Nat → Cls) (n : Nat) (BL : Addr → Prop) (T vs : List Nat) (σ : L2.St) (H : Hp) (fr : Fr) (H' : Hp) (fr' : Fr) : Prop where
  fs : FS K cl n BL σ H' (wipeF fr' vs)
  kp : Kp H H' (ownT cl σ (wipeF fr vs) T)
  le : ∀ (i : Nat) y, (wipeF fr' vs)[i]? = some (some y) → ∃ y', (wipeF fr vs)[i]? = some (some y')
  tch : ∀ i, i ∉ T → (wipeF fr' vs)[i]? = (wipeF fr vs)[i]?

section
variable {K : PySem.W.Frag} {cl : Nat → Cls} {n : Nat} {BL : Addr → Prop} {σ σ' σ2 : L2.St} {H H' H1 H2 : Hp} {fr fr' fr1 g g2 g3 : Fr} {T T' vs is : List Nat} {p : PV} {u : V}
/-- behind the target's names -/
theorem wipe_same (l1 : σ2.length = σ.length) (hv : ∀ i ∈ is, i ∈ vs) (h : ∀ i, i ∉ is → σ2[i]? = (wipe σ vs)[i]?) : wipe σ2 vs = wipe σ vs := by
  apply List.ext_getElem?
  intro i
  rw [wipe_get, wipe_get, l1]
  by_cases hi : i ∈ vs
  · rw [if_pos hi, if_pos hi]
  · rw [if_neg hi, if_neg hi, h i fun z => hi (hv i z), wipe_get, if_neg hi]
theorem BT'.of {md : Md} {x : PV} {v : V} (hvs : ∀ i ∈ vs, cl i = .P) (hv : ∀ i ∈ is, i ∈ vs) (lσ : σ.length = n) (lg : g.length = n) (l2 : g2.length = n) (ls : σ2.length = n) (off : ∀ i, i ∉ is → σ2[i]? = (wipe σ vs)[i]? ∧ g2[i]? = (wipeF g vs)[i]?)
    (e : EP' K cl n BL T md σ2 H g2 x g3 v H') : BT' K cl n BL T vs (wipe σ vs) H g H' g3 := by
  have hw : wipe σ2 vs = wipe σ vs := wipe_same (by rw [ls, lσ]) hv fun i hi => (off i hi).1
  have f3 := fs_wipe e.fs hvs
  have l3 : g3.length = n := e.fs.lf
  rw [hw] at f3
  have hoff : ∀ i, cl i ≠ .P → σ2[i]? = (wipe σ vs)[i]? ∧ g2[i]? = (wipeF g vs)[i]? := off_of (fun i hi => hvs i (hv i hi)) off
  refine ⟨f3, ?_, fun i y hy => ?_, fun i hi => ?_⟩
  · have := e.kp
    rwa [ownT_eq hoff] at this
  · rw [wipeF_get] at hy
    by_cases h : i ∈ vs
    · rw [if_pos h] at hy; split at hy <;> cases hy
    · rw [if_neg h] at hy
      obtain ⟨y', h'⟩ := e.le i y hy
      rw [(off i fun z => h (hv i z)).2] at h'
      exact ⟨y', h'⟩
  · by_cases h : i ∈ vs
    · rw [wipeF_get, wipeF_get, if_pos h, if_pos h, l3, lg]
    · have := (off i fun z => h (hv i z)).2
      rw [wipeF_get, if_neg h, e.tch i hi, this]
theorem BT'.trans {g' : Fr} (a : BT' K cl n BL T vs σ H g H' g2) (b : BT' K cl n BL T vs σ H' g2 H2 g') : BT' K cl n BL T vs σ H g H2 g' := by
  refine ⟨b.fs, a.kp.trans b.kp fun c ⟨i, h1, h2⟩ => .inl ⟨i, h1, h2.of a.le⟩, fun i y h => ?_, fun i hi => (b.tch i hi).trans (a.tch i hi)⟩
  obtain ⟨y', h'⟩ := b.le i y h
  exact a.le i y' h'
theorem BT'.more (h : ∀ i, i ∈ T → i ∈ T') (b : BT' K cl n BL T vs σ H g H' g2) : BT' K cl n BL T' vs σ H g H' g2 :=
  ⟨b.fs, b.kp.mono fun _ ⟨i, h1, h2⟩ => ⟨i, h i h1, h2⟩, b.le, fun i hi => b.tch i fun z => hi (h i z)⟩
end

section
variable {X : Cx} {cl : Nat → Cls} {n : Nat} {K : PySem.W.Frag} {Ts Tc Te vs is : List Nat} {mds mde : Md} {tg iter elt : Expr} {ifs : List Expr} {mc : Fr → Option (Bool × Fr)} {me : Fr → Option (PV × Fr)} {t : Tg} {g0 : TG}
/-- one turn -/
theorem block_turn {BL : Addr → Prop} {σ : L2.St} {H : Hp} {g g' : Fr} {p : PV} {u : V} {out : List PV} {R1 : V → Hp → Prop} {R0 : Hp → Prop} (hvs : ∀ i ∈ vs, cl i = .P) (hv : ∀ i ∈ is, i ∈ vs) (hg : GR K cl n t is g0) (hm : mde.ok false = true)
    (lσ : σ.length = n) (lg : g.length = n) (f : FS K cl n BL (wipe σ vs) H (wipeF g vs)) (r : Rep K H (bar cl BL (wipe σ vs) (wipeF g vs)) p u) (e : stepF t vs mc me p g = some (out, g'))
    (k0 : ∀ H', out = [] → g'.length = n → BT' K cl n BL (Tc ++ Te) vs (wipe σ vs) H g H' g' → R0 H')
    (k1 : ∀ y H' z, out = [z] → g'.length = n → BT' K cl n BL (Tc ++ Te) vs (wipe σ vs) H g H' g' → Rep K H' (bar cl BL (wipe σ vs) (wipeF g' vs)) z y → R1 y H') :
    g0 u (wipe σ vs) H fun σ2 H2 => wipe σ2 vs = wipe σ vs ∧ tQ K cl n Tc mc σ2 H2 fun b H3 => if b = true then tE K cl n Te mde me σ2 H3 fun y H4 => R1 y H4 else R0 H3 := by
  unfold stepF at e
  obtain ⟨g2, e1, e2⟩ := Option.bind_eq_some_iff.mp e
  obtain ⟨⟨b, g3⟩, e3, e4⟩ := Option.bind_eq_some_iff.mp e2
  refine hg f r e1 fun σ2 f2 off => ⟨wipe_same (by rw [f2.lσ, lσ]) hv fun i hi => (off i hi).1, BL, g2, b, g3, f2, e3, fun H3 q => ?_⟩
  cases b with
  | false =>
    cases e4
    exact k0 H3 rfl q.fs.lf ((BT'.of hvs hv lσ lg f2.lf f2.lσ off q).more fun i h => List.mem_append_left _ h)
  | true =>
    obtain ⟨⟨z, g4⟩, e5, e6⟩ := Option.map_eq_some_iff.mp e4
    cases e6
    refine ⟨BL, g3, z, _, q.fs, e5, fun y H4 q2 => ?_⟩
    have qq := EP'.then' f2 q q2
    refine k1 y H4 z rfl q2.fs.lf (BT'.of hvs hv lσ lg f2.lf f2.lσ off qq) ?_
    have rr := q2.rep q.fs hm
    have hoff : ∀ i, cl i ≠ .P → (wipe σ vs)[i]? = σ2[i]? ∧ (wipeF g4 vs)[i]? = g4[i]? := fun i hi => by
      have hi' : i ∉ vs := fun z => hi (hvs i z)
      rw [wipeF_get, if_neg hi']
      exact ⟨(off i fun z => hi' (hv i z)).1.symm, rfl⟩
    rw [bar_eq hoff]
    exact rr
/-- the model of a comprehension -/
def compM (ms : Fr → Option (List PV × Fr)) (f : PV → Fr → Option (List PV × Fr)) (vs : List Nat) : Fr → Option (PV × Fr) := fun fr => (ms fr).bind fun p => (compL f p.1 p.2).map fun q => (.lst q.1, backF p.2 vs q.2)
/-- .. at its end, back in the def -/
theorem comp_end {BL : Addr → Prop} {σ : L2.St} {H H' : Hp} {fr gE : Fr} {D : Addr} {T : List Nat} (hvs : ∀ i ∈ vs, cl i = .P) (f : FS K cl n BL σ H fr) (hD : H D = none) (lE : gE.length = n)
    (fs : FS K cl n (fun a => BL a ∨ a = D) (wipe σ vs) H' (wipeF gE vs)) (kp : Kp H H' (ownT cl σ fr T)) (le : ∀ (i : Nat) y, (wipeF gE vs)[i]? = some (some y) → ∃ y', fr[i]? = some (some y')) :
    FS K cl n (fun a => BL a ∨ a = D) σ H' (backF fr vs gE) ∧ bar cl (fun a => BL a ∨ a = D) σ (backF fr vs gE) = bar cl (fun a => BL a ∨ a = D) (wipe σ vs) (wipeF gE vs) ∧ ∀ (i : Nat) y, (backF fr vs gE)[i]? = some (some y) → ∃ y', fr[i]? = some (some y') := by
  have lf := f.lf
  have off : ∀ i, i ∉ vs → σ[i]? = (wipe σ vs)[i]? ∧ (backF fr vs gE)[i]? = (wipeF gE vs)[i]? := fun i hi => by
    rw [wipe_get, if_neg hi, wipeF_get, if_neg hi, backF_get (by rw [lf, lE]), if_neg hi]; exact ⟨rfl, rfl⟩
  refine ⟨fs_plain fs f.lσ (by rw [backF_len]; exact lE) (off_of hvs off) fun i x hc hx => ?_, bar_eq (off_of hvs off), fun i y hy => ?_⟩
  · by_cases h : i ∈ vs
    · rw [backF_get (by rw [lf, lE]), if_pos h] at hx
      obtain ⟨v, e1, e2⟩ := f.slot i x hx
      rw [hc] at e2
      refine ⟨v, e1, Rep.move kp f.ownT_bar (fun a z => ?_) e2⟩
      rcases z with (z | z) | ⟨j, z1, ⟨y, z2⟩, z3⟩
      · exact .inl (.inl z)
      · exact .inr (z ▸ hD)
      · refine .inl (.inr ⟨j, z1, le j y z2, ?_⟩)
        rw [wipe_get] at z3
        by_cases hj : j ∈ vs
        · rw [hvs j hj] at z1; cases z1
        · rwa [if_neg hj] at z3
    · obtain ⟨o1, o2⟩ := off i h
      rw [o2] at hx
      obtain ⟨v, e1, e2⟩ := fs.slot i x hx
      rw [hc] at e2
      exact ⟨v, by rw [o1]; exact e1, e2⟩
  · by_cases h : i ∈ vs
    · rw [backF_get (by rw [lf, lE]), if_pos h] at hy; exact ⟨y, hy⟩
    · rw [(off i h).2] at hy
      exact le i y hy
theorem kp_D {D : Addr} {o : HO} {O : Addr → Prop} {H H' : Hp} (k : Kp H H' O) (hD : H D = none) : Kp H (upd H' D o) O := by
  refine ⟨fun a u e n => ?_, fun a ys r => ?_, fun a ob ys e => ?_, fun a e => ?_⟩
  · rw [upd_ne fun z => by rw [z, hD] at e; cases e]; exact k.keep a u e n
  · have : a ≠ D := fun z => by
      subst z
      rcases r with r | ⟨_, r⟩ <;> (rw [hD] at r; cases r)
    rcases k.tup a ys r with r | ⟨ob, r⟩
    · exact .inl (by rw [upd_ne this]; exact r)
    · exact .inr ⟨ob, by rw [upd_ne this]; exact r⟩
  · rw [upd_ne fun z => by rw [z, hD] at e; cases e]; exact k.frz a ob ys e
  · by_cases z : a = D
    · rw [z]; exact hD
    · rw [upd_ne z] at e; exact k.tr a e
theorem compL_cons {f : PV → Fr → Option (List PV × Fr)} {xs : List PV} {i : Nat} {g gE : Fr} {rest : List PV} (hi : i < xs.length) (h : compL f (xs.drop i) g = some (rest, gE)) :
    ∃ x out g1 rest', xs[i]? = some x ∧ f x g = some (out, g1) ∧ compL f (xs.drop (i + 1)) g1 = some (rest', gE) ∧ rest = out ++ rest' := by
  rw [List.drop_eq_getElem_cons hi] at h
  unfold compL at h
  obtain ⟨⟨out, g1⟩, h1, h2⟩ := Option.bind_eq_some_iff.mp h
  obtain ⟨⟨rest', g2⟩, h3, h4⟩ := Option.bind_eq_some_iff.mp h2
  cases h4
  exact ⟨_, out, g1, rest', List.getElem?_eq_getElem hi, h1, h3, rfl⟩
/-- what stands between two turns; D: the new list, barred -/
structure CW (K : PySem.W.Frag) (cl : Nat → Cls) (n : Nat) (BL : Addr → Prop) (D : Addr) (T vs : List Nat) (σ : L2.St) (H1 : Hp) (fr1 : Fr) (H : Hp) (g : Fr) (acc : List V) (accP : List PV) : Prop where
  lg : g.length = n
  fs : FS K cl n BL (wipe σ vs) H (wipeF g vs)
  kp : Kp H1 H (fun a => ownT cl σ fr1 T a ∨ a = D)
  le : ∀ (i : Nat) y, (wipeF g vs)[i]? = some (some y) → ∃ y', fr1[i]? = some (some y')
  tch : ∀ i, i ∉ T → (wipeF g vs)[i]? = (wipeF fr1 vs)[i]?
  hD : H D = some (.lst acc)
  ra : RepL K H (bar cl BL (wipe σ vs) (wipeF g vs)) accP acc
section
variable {BL : Addr → Prop} {σ : L2.St} {H H1 H' : Hp} {fr1 g g' : Fr} {D : Addr} {T : List Nat} {acc : List V} {accP : List PV} {z : PV} {y : V}
theorem CW.own (hvs : ∀ i ∈ vs, cl i = .P) (w : CW K cl n BL D T vs σ H1 fr1 H g acc accP) {i : Nat} {a : Addr} (h : ownAt cl (wipe σ vs) (wipeF g vs) i a) : ownAt cl σ fr1 i a := by
  obtain ⟨z1, ⟨y, z2⟩, z3⟩ := h
  have nv : i ∉ vs := fun z => by rw [hvs i z] at z1; cases z1
  rw [wipe_get, if_neg nv] at z3
  exact ⟨z1, w.le i y z2, z3⟩
theorem CW.noLen (hvs : ∀ i ∈ vs, cl i = .P) (hL : ∀ i, ¬ lenAt cl σ fr1 i D) (hT : ∀ i ∈ T, cl i = .M) (w : CW K cl n BL D T vs σ H1 fr1 H g acc accP) : ∀ i, ¬ lenAt cl (wipe σ vs) (wipeF g vs) i D := by
  rintro i ⟨h1, ⟨x, h2, h3⟩, h4⟩
  have nv : i ∉ vs := fun z => by rw [hvs i z] at h1; cases h1
  have nT : i ∉ T := fun z => by rw [hT i z] at h1; cases h1
  rw [w.tch i nT, wipeF_get, if_neg nv] at h2
  rw [wipe_get, if_neg nv] at h4
  exact hL i ⟨h1, ⟨x, h2, h3⟩, h4⟩
/-- a turn that adds nothing -/
theorem CW.skip (hvs : ∀ i ∈ vs, cl i = .P) (hB : BL D) (w : CW K cl n BL D T vs σ H1 fr1 H g acc accP) (lg' : g'.length = n) (b : BT' K cl n BL T vs (wipe σ vs) H g H' g') : CW K cl n BL D T vs σ H1 fr1 H' g' acc accP := by
  refine ⟨lg', b.fs, w.kp.trans b.kp fun a ⟨i, h1, h2⟩ => .inl (.inl ⟨i, h1, w.own hvs h2⟩), fun i y h => ?_, fun i hi => (b.tch i hi).trans (w.tch i hi), ?_, ?_⟩
  · obtain ⟨y', h'⟩ := b.le i y h
    exact w.le i y' h'
  · exact b.kp.keep D _ w.hD fun ⟨i, _, h⟩ => w.fs.sep i D h hB
  · exact RepL.move b.kp w.fs.ownT_bar (fun a q => .inl (q.imp id fun ⟨i, q1, ⟨x, q2⟩, q3⟩ => ⟨i, q1, b.le i x q2, q3⟩)) w.ra
/-- .. that adds z -/
theorem CW.put (hvs : ∀ i ∈ vs, cl i = .P) (hB : BL D) (hL : ∀ i, ¬ lenAt cl σ fr1 i D) (hT : ∀ i ∈ T, cl i = .M) (w : CW K cl n BL D T vs σ H1 fr1 H g acc accP) (r : Rep K H (bar cl BL (wipe σ vs) (wipeF g vs)) z y) :
    CW K cl n BL D T vs σ H1 fr1 (upd H D (.lst (acc ++ [y]))) g (acc ++ [y]) (accP ++ [z]) := by
  have k := kp_upd' (o := .lst (acc ++ [y])) w.hD
  have hO : ∀ a, a = D → bar cl BL (wipe σ vs) (wipeF g vs) a := fun a h => .inl (h ▸ hB)
  refine ⟨w.lg, fs_updBL (o := .lst (acc ++ [y])) w.fs hB (w.noLen hvs hL hT) k (by rw [upd_same]; exact fun z => nomatch z), w.kp.trans k fun c h => .inl (.inr h), w.le, w.tch, upd_same, ?_⟩
  exact RepL.move k hO (fun a z => .inl z) (w.ra.append (.cons r .nil))
/-- at the beginning -/
theorem CW.begin (hvs : ∀ i ∈ vs, cl i = .P) (f1 : FS K cl n BL σ H1 fr1) (hD : H1 D = some (.lst acc)) (ra : RepL K H1 (bar cl BL σ fr1) accP acc) : CW K cl n BL D T vs σ H1 fr1 H1 fr1 acc accP := by
  have hb : bar cl BL (wipe σ vs) (wipeF fr1 vs) = bar cl BL σ fr1 := bar_eq (wipe_off hvs)
  refine ⟨f1.lf, fs_wipe f1 hvs, .refl, fun i y h => ?_, fun _ _ => rfl, hD, by rw [hb]; exact ra⟩
  rw [wipeF_get] at h
  by_cases hi : i ∈ vs
  · rw [if_pos hi] at h; split at h <;> cases h
  · rw [if_neg hi] at h; exact ⟨y, h⟩
end
theorem Wk.move {H H' : Hp} {B B' A O : Addr → Prop} {J : It} {xs : List PV} (wk : Wk K H B A J xs) (k : Kp H H' O) (hO : ∀ a, O a → B a) (hB : ∀ a, B' a → B a ∨ H a = none) (hA : ∀ a, A a → ¬ O a) : Wk K H' B' A J xs := ⟨fun Hk Bk O2 k2 hO2 hBk hA2 i => by
  refine wk.itm Hk Bk (fun a => O a ∨ (O2 a ∧ B a)) (k.mono (fun _ h => .inl h) |>.trans k2 fun c h => (hB c (hO2 c h)).imp (fun z => .inr ⟨h, z⟩) id) (fun a h => h.elim (hO a) (·.2)) (fun a h => ?_) (fun a ha z => z.elim (hA a ha) fun q => hA2 a ha q.1) i
  rcases hBk a h with z | z
  · exact hB a z
  · exact .inr (k.tr a z), wk.len, fun a ha z => wk.tr a ha (k.tr a z)⟩
/-- what a source leans on is none of the slots at T -/
theorem AOk.off {BL : Addr → Prop} {σ : L2.St} {H1 : Hp} {fr1 : Fr} {A : Addr → Prop} {T : List Nat} (f1 : FS K cl n BL σ H1 fr1) (hA : AOk cl BL σ fr1 A mds) (hmd : mds.off T = true) : ∀ a, A a → ¬ ownT cl σ fr1 T a := fun a ha ⟨i, h1, h2⟩ => by
  cases mds with
  | val => exact hA a ha (.inr ⟨i, h2⟩)
  | fresh => exact hA a ha (.inr ⟨i, h2⟩)
  | pl j =>
    obtain ⟨hσ, x, q2, hx⟩ := hA a ha
    have hj : j ∉ T := by simpa [Md.off] using hmd
    cases hc : cl j with
    | M =>
      have := f1.inj i j a h2 ⟨hc, ⟨x, q2⟩, hσ⟩
      exact hj (this ▸ h1)
    | P =>
      obtain ⟨v, e1, e2⟩ := f1.slot j x q2
      rw [hc] at e2
      rw [hσ] at e1; cases e1
      cases x <;> first | (simp [isMut] at hx; done) | skip
      · cases (show Rep K H1 _ _ _ from e2) with
        | lst nb _ _ _ => exact nb (.inr ⟨i, h2⟩)
      · cases (show Rep K H1 _ _ _ from e2) with
        | dct nb _ _ _ => exact nb (.inr ⟨i, h2⟩)
      · cases (show Rep K H1 _ _ _ from e2)
    | L => exact f1.lsp j i a ⟨hc, ⟨x, q2, hx⟩, hσ⟩ h2
theorem compL_len {xs : List PV} {g gE : Fr} {out : List PV} (h : compL (stepF t vs mc me) xs g = some (out, gE)) : out.length ≤ xs.length := by
  induction xs generalizing g out with
  | nil => cases h; exact Nat.le_refl _
  | cons x xs ih =>
    unfold compL at h
    obtain ⟨⟨o, g1⟩, h1, h2⟩ := Option.bind_eq_some_iff.mp h
    obtain ⟨⟨rest', g2⟩, h3, h4⟩ := Option.bind_eq_some_iff.mp h2
    cases h4
    have := ih h3
    have h5 : o.length ≤ 1 := by
      unfold stepF at h1
      obtain ⟨a, _, h1⟩ := Option.bind_eq_some_iff.mp h1
      obtain ⟨b, _, h1⟩ := Option.bind_eq_some_iff.mp h1
      split at h1
      · obtain ⟨r, _, h1⟩ := Option.map_eq_some_iff.mp h1
        cases h1; exact Nat.le_refl _
      · cases h1; exact Nat.zero_le _
    rw [List.length_append, List.length_cons]
    show o.length + rest'.length ≤ xs.length + 1
    omega
/-- the loop of a comprehension, once it has begun; D holds acc0 -/
theorem comp_loop {BL : Addr → Prop} {σ : L2.St} {H1 : Hp} {fr1 gE : Fr} {D : Addr} {A : Addr → Prop} {J : It} {xs : List PV} {out : List PV} {acc0 : List V} {accP0 : List PV} {Qd : Hp → Prop} (hvs : ∀ i ∈ vs, cl i = .P) (hv : ∀ i ∈ is, i ∈ vs) (hg : GR K cl n t is g0) (hm : mde.ok false = true)
    (hT : ∀ i ∈ Tc ++ Te, cl i = .M) (hB : BL D) (f1 : FS K cl n BL σ H1 fr1) (hL : ∀ i, ¬ lenAt cl σ fr1 i D) (hA : ∀ a, A a → ¬ (ownT cl σ fr1 (Tc ++ Te) a ∨ a = D)) (wk : Wk K H1 (bar cl BL σ fr1) A J xs) (hD : H1 D = some (.lst acc0)) (ra0 : RepL K H1 (bar cl BL σ fr1) accP0 acc0)
    (e : compL (stepF t vs mc me) xs fr1 = some (out, gE)) (hz : accP0.length + out.length ≤ sizeLine)
    (k : ∀ H' acc, CW K cl n BL D (Tc ++ Te) vs σ H1 fr1 H' gE acc (accP0 ++ out) → Qd H') :
    ∃ W : Nat → Nat → Hp → Prop, (∃ m, W 0 m H1) ∧ ∀ i m H, W i m H →
      (J.stop i H ∧ Qd H) ∨ (J.go i H ∧ ∃ Nx : Hp → Prop, (∀ H', Nx H' → ∃ m', m' < m ∧ W (i + 1) m' H') ∧ ∀ x H', J.yld i H x H' → g0 x (wipe σ vs) H' fun σ2 H2 => wipe σ2 vs = wipe σ vs ∧ tQ K cl n Tc mc σ2 H2 fun b H3 =>
        if b = true then tE K cl n Te mde me σ2 H3 fun y H4 => ∃ acc, H4 D = some (.lst acc) ∧ acc.length < sizeLine ∧ Nx (upd H4 D (.lst (acc ++ [y]))) else Nx H3) := by
  refine ⟨fun i m H => m = xs.length - i ∧ i ≤ xs.length ∧ ∃ g acc accP rest, CW K cl n BL D (Tc ++ Te) vs σ H1 fr1 H g acc accP ∧ compL (stepF t vs mc me) (xs.drop i) g = some (rest, gE) ∧ accP ++ rest = accP0 ++ out, ⟨xs.length, by simp, Nat.zero_le _, fr1, acc0, accP0, out, .begin hvs f1 hD ra0, e, rfl⟩, ?_⟩
  rintro i m H ⟨rfl, hi, g, acc, accP, rest, w, he, ho⟩
  have hBB : ∀ a, bar cl BL (wipe σ vs) (wipeF g vs) a → bar cl BL σ fr1 a ∨ H1 a = none := fun a z => .inl (z.imp id fun ⟨j, z⟩ => ⟨j, w.own hvs z⟩)
  have wki := wk.itm H _ _ w.kp (fun a h => h.elim (f1.ownT_bar a) fun z => .inl (z ▸ hB)) hBB hA i
  by_cases hlt : i < xs.length
  · obtain ⟨go, yl⟩ := wki.1 hlt
    obtain ⟨x0, out1, g1, rest1, hx0, es, er, eo⟩ := compL_cons hlt he
    refine .inr ⟨go, fun H' => ∃ acc accP, CW K cl n BL D (Tc ++ Te) vs σ H1 fr1 H' g1 acc accP ∧ accP ++ rest1 = accP0 ++ out, fun H' ⟨acc', accP', w', ho'⟩ => ⟨xs.length - (i + 1), by omega, rfl, hlt, g1, acc', accP', rest1, w', er, ho'⟩, fun x H' y => ?_⟩
    obtain ⟨kx, p, hp, rp⟩ := yl x H' y
    rw [hx0] at hp; cases hp
    have w' : CW K cl n BL D (Tc ++ Te) vs σ H1 fr1 H' g acc accP := by
      refine w.skip hvs hB w.lg ⟨w.fs.move kx, kx.mono fun _ z => z.elim, fun i y h => ⟨y, h⟩, fun _ _ => rfl⟩
    refine block_turn hvs hv hg hm f1.lσ w.lg w'.fs (rp _ fun a z => .inl z) es (fun H'' eo' lg' b => ?_) fun y H'' z eo' lg' b r => ?_
    · subst eo'
      exact ⟨acc, accP, w'.skip hvs hB lg' b, by rw [← ho, eo]; rfl⟩
    · subst eo'
      have w2 := w'.skip hvs hB lg' b
      have hl := congrArg List.length ho
      rw [eo] at hl
      simp only [List.length_append, List.length_cons, List.length_nil] at hl
      exact ⟨acc, w2.hD, by rw [← w2.ra.length]; omega, acc ++ [y], accP ++ [z], w2.put hvs hB hL hT r, by rw [← ho, eo]; simp⟩
  · have e1 : i = xs.length := by omega
    subst e1
    rw [List.drop_length] at he
    cases he
    rw [List.append_nil] at ho
    subst ho
    exact .inl ⟨wki.2 (Nat.le_refl _), k H acc w⟩
/-- where a comprehension begins: behind its source -/
theorem comp_begin {BL : Addr → Prop} {σ : L2.St} {H1 : Hp} {fr1 : Fr} {D : Addr} {A : Addr → Prop} {J : It} {xs : List PV} {T : List Nat} (f1 : FS K cl n BL σ H1 fr1) (hD : H1 D = none) (hA : AOk cl BL σ fr1 A mds) (hmd : mds.off T = true) (wk : Wk K H1 (bar cl BL σ fr1) A J xs) :
    FS K cl n (fun a => BL a ∨ a = D) σ (upd H1 D (.lst [])) fr1 ∧ (∀ i, ¬ lenAt cl σ fr1 i D) ∧ (∀ a, A a → ¬ (ownT cl σ fr1 T a ∨ a = D)) ∧ Wk K (upd H1 D (.lst [])) (bar cl (fun a => BL a ∨ a = D) σ fr1) A J xs := by
  have k1 : Kp H1 (upd H1 D (.lst [])) (fun _ => False) := kp_upd hD
  refine ⟨f1.more k1 hD (by rw [upd_same]; exact fun z => nomatch z), fun i h => lenAt.tr f1 h hD, fun a ha z => z.elim (AOk.off f1 hA hmd a ha) fun e => wk.tr a ha (e ▸ hD), wk.move k1 (fun _ z => z.elim) (fun a z => ?_) fun _ _ z => z⟩
  rcases bar_more z with z | z
  · exact .inl z
  · exact .inr (z ▸ hD)
/-- a comprehension that has ended, as a value -/
theorem comp_done {BL : Addr → Prop} {σ : L2.St} {H H1 H' : Hp} {fr fr1 gE : Fr} {D : Addr} {acc : List V} {out : List PV} {T : List Nat} (hvs : ∀ i ∈ vs, cl i = .P) (p1 : EP' K cl n BL Ts .val σ H fr .non fr1 .non H1) (hD : H1 D = none) (hT : ∀ i ∈ T, cl i = .M) (hz : out.length ≤ sizeLine)
    (w : CW K cl n (fun a => BL a ∨ a = D) D T vs σ (upd H1 D (.lst [])) fr1 H' gE acc out) : EP' K cl n BL (Ts ++ T) .fresh σ H fr (.lst out) (backF fr1 vs gE) (.ref D) H' := by
  have k1 : Kp H1 H' (ownT cl σ fr1 T) := by
    refine ((kp_upd (o := .lst []) hD).mono fun _ z => z.elim).trans w.kp fun c z => z.imp id fun (e : c = D) => by rw [e]; exact hD
  obtain ⟨f2, hb, le2⟩ := comp_end hvs p1.fs hD w.lg w.fs k1 w.le
  have fA : FS K cl n BL σ H' (backF fr1 vs gE) := f2.less fun a h => .inl h
  refine ⟨fA, (p1.kp.mono fun _ h => ownT.app (.inl h)).trans k1 fun a ⟨i, h1, h2⟩ => .inl ⟨i, List.mem_append_right _ h1, h2.of p1.le⟩, fun i y h => ?_, fun i hi => ?_, .inr ⟨D, rfl, p1.kp.tr D hD, f2, acc, w.hD, by rw [← w.ra.length]; exact hz, by rw [hb]; exact w.ra⟩⟩
  · obtain ⟨y', h'⟩ := le2 i y h
    exact p1.le i y' h'
  · rw [List.mem_append, not_or] at hi
    rw [backF_get (by rw [p1.fs.lf, w.lg])]
    by_cases h : i ∈ vs
    · rw [if_pos h]; exact p1.tch i hi.1
    · rw [if_neg h]
      have := w.tch i hi.2
      rw [wipeF_get, wipeF_get, if_neg h, if_neg h] at this
      rw [this]; exact p1.tch i hi.1
/-- a comprehension's reading, by its parts -/
theorem lc_w {ms : Fr → Option (List PV × Fr)} (hvs : ∀ i ∈ vs, cl i = .P) (hv : ∀ i ∈ is, i ∈ vs) (hm : mde.ok false = true) (hT : ∀ i ∈ Tc ++ Te, cl i = .M) (hmd : mds.off (Tc ++ Te) = true) (hgr : GR K cl n t is g0) {σ : L2.St} {H : Hp} {Q : VK}
    (h : tE K cl n (Ts ++ (Tc ++ Te)) .fresh (compM ms (stepF t vs mc me) vs) σ H Q) : tLc (tI K cl n Ts mds ms) g0 (tQ K cl n Tc mc) (tE K cl n Te mde me) vs σ H Q := by
    obtain ⟨BL, fr, z, fr2, f, e, k⟩ := h
    obtain ⟨⟨xs, fr1⟩, e1, e2⟩ := Option.bind_eq_some_iff.mp e
    obtain ⟨⟨out, gE⟩, e3, e4⟩ := Option.map_eq_some_iff.mp e2
    cases e4
    refine ⟨BL, fr, xs, fr1, f, e1, fun J H1 A p1 hA wk D hD => ?_⟩
    obtain ⟨f1, hL, hA', wk'⟩ := comp_begin p1.fs hD hA hmd wk
    have hz : out.length ≤ sizeLine := Nat.le_trans (compL_len e3) wk.len
    exact comp_loop hvs hv hgr hm hT (.inr rfl) f1 hL hA' wk' upd_same .nil e3 (by simpa using hz) fun H' acc w => k _ _ (comp_done hvs p1 hD hT hz w)
/-- [elt for tg in iter if ..] -/
theorem se_lc {scope : Scope} {own : List (Str × Nat)} {pos : Pos} {ms : Fr → Option (List PV × Fr)} (hc : X.calm = true) (hN : X.N.Nodup) (hi : SI X cl n Ts mds tg iter ms) (ok : BlkOk X.N X.env.scope scope own)
    (hvs : ∀ i ∈ own.map (·.2), cl i = .P) (hv : ∀ i ∈ is, i ∈ own.map (·.2)) (hm : mde.ok false = true) (hT : ∀ i ∈ Tc ++ Te, cl i = .M) (hmd : mds.off (Tc ++ Te) = true) (hgr : GR X.K cl n t is g0)
    (hg : ∀ (s : Shared) (H : Hp) (C : Addr) (cl : List (Str × Addr)) (fp : List Addr), PG (X.blk s H scope (compEnvC scope cl C X.env) fp) tg g0)
    (ht : ∀ (s : Shared) (H : Hp) (C : Addr) (c2 : List (Str × Addr)) (fp : List Addr), SQ (X.blk s H scope (compEnvC scope c2 C X.env) fp) cl n Tc ifs mc)
    (he : ∀ (s : Shared) (H : Hp) (C : Addr) (c2 : List (Str × Addr)) (fp : List Addr), SE (X.blk s H scope (compEnvC scope c2 C X.env) fp) cl n Te mde elt me) (hs : ∀ x, foldedSetIterable iter X.env x = pure x) :
    SE X cl n (Ts ++ (Tc ++ Te)) .fresh (.ListComp elt [⟨tg, iter, ifs, 0⟩] scope pos) (compM ms (stepF t (own.map (·.2)) mc me) (own.map (·.2))) :=
  PE.weak (pe_lc (tt := tQ X.K cl n Tc mc) (te := tE X.K cl n Te mde me) hc hN hi ok hg ht he hs) fun σ H Q h => lc_w hvs hv hm hT hmd hgr h
end
end EV

set_option linter.all false
set_option Elab.async false
set_option maxRecDepth 100000
/-! Ev11: comprehensions of two clauses. -/
namespace EV
open PySem L2 PySem.Spec PyProof.Rows

def step2F (tg : Tg) (vs : List Nat) (mc : Fr → Option (Bool × Fr)) (ms1 : Fr → Option (List PV × Fr)) (f1 : PV → Fr → Option (List PV × Fr)) : PV → Fr → Option (List PV × Fr) := fun x g =>
  (bindTg tg x (wipeF g vs)).bind fun g => (mc g).bind fun c => if c.1 = true then (ms1 c.2).bind fun p => compL f1 p.1 p.2 else some ([], c.2)
def comp2M (ms : Fr → Option (List PV × Fr)) (f : PV → Fr → Option (List PV × Fr)) (vs : List Nat) : Fr → Option (PV × Fr) := fun fr => (ms fr).bind fun p => (compL f p.1 p.2).bind fun q => if okN q.1.length = true then some (.lst q.1, backF p.2 vs q.2) else none
section
variable {K : PySem.W.Frag} {cl : Nat → Cls} {n : Nat} {BL : Addr → Prop} {σ σ' σ2 : L2.St} {H H' H1 H2 H4 : Hp} {fr fr' fr1 g g2 g3 g4 gE1 : Fr} {T T' Ti vs vs1 is : List Nat} {p : PV} {u : V} {D : Addr} {A : Addr → Prop} {mds : Md}
theorem AOk.noD (f : FS K cl n BL σ H fr) (hB : BL D) (hL : ∀ i, ¬ lenAt cl σ fr i D) (hA : AOk cl BL σ fr A mds) : ∀ a, A a → a ≠ D := fun a ha e => by
  subst e
  cases mds with
  | val => exact hA a ha (.inl hB)
  | fresh => exact hA a ha (.inl hB)
  | pl j =>
    obtain ⟨hσ, x, q2, hx⟩ := hA a ha
    cases hc : cl j with
    | M => exact f.sep j a ⟨hc, ⟨x, q2⟩, hσ⟩ hB
    | P =>
      obtain ⟨v, e1, e2⟩ := f.slot j x q2
      rw [hc] at e2
      rw [hσ] at e1; cases e1
      cases x <;> first | (simp [isMut] at hx; done) | skip
      · cases (show Rep K H _ _ _ from e2) with
        | lst nb _ _ _ => exact nb (.inl hB)
      · cases (show Rep K H _ _ _ from e2) with
        | dct nb _ _ _ => exact nb (.inl hB)
      · cases (show Rep K H _ _ _ from e2)
    | L => exact hL j ⟨hc, ⟨x, q2, hx⟩, hσ⟩
theorem wipe_wipe (h : ∀ i ∈ vs1, i ∈ vs) (l : σ2.length = σ.length) (hw : ∀ i, i ∉ vs → σ2[i]? = σ[i]?) : wipe (wipe σ2 vs1) vs = wipe σ vs := by
  apply List.ext_getElem?
  intro i
  rw [wipe_get (vs := vs) (σ := wipe σ2 vs1), wipe_get (vs := vs) (σ := σ), wipe_length, l]
  by_cases hi : i ∈ vs
  · rw [if_pos hi, if_pos hi]
  · rw [if_neg hi, if_neg hi, wipe_get, if_neg fun z => hi (h i z), hw i hi]
theorem wipeF_wipeF (h : ∀ i ∈ vs1, i ∈ vs) : wipeF (wipeF g vs1) vs = wipeF g vs := by
  apply List.ext_getElem?
  intro i
  rw [wipeF_get (vs := vs) (fr := wipeF g vs1), wipeF_get (vs := vs) (fr := g), wipeF_len]
  by_cases hi : i ∈ vs
  · rw [if_pos hi, if_pos hi]
  · rw [if_neg hi, if_neg hi, wipeF_get, if_neg fun z => hi (h i z)]
/-- an inner loop is over -/
theorem CW.inner {acc acc' : List V} {accP accP' : List PV} (hvs : ∀ i ∈ vs, cl i = .P) (h1 : ∀ i ∈ vs1, i ∈ vs) (lσ : σ.length = n) (l2 : σ2.length = n) (l4 : g4.length = n) (hw : ∀ i, i ∉ vs → σ2[i]? = σ[i]?) (hT : ∀ i, i ∈ Ti → i ∈ T)
    (w : CW K cl n BL D T vs σ H1 fr1 H4 g4 acc accP) (wi : CW K cl n BL D Ti vs1 σ2 H4 g4 H' gE1 acc' accP') : CW K cl n BL D T vs σ H1 fr1 H' gE1 acc' accP' := by
  have e1 := wipe_wipe (σ := σ) h1 (by rw [l2, lσ]) hw
  have hvs1 : ∀ i ∈ vs1, cl i = .P := fun i hi => hvs i (h1 i hi)
  have fs := fs_wipe wi.fs hvs
  rw [e1, wipeF_wipeF h1] at fs
  have own4 : ∀ {i a}, ownAt cl σ2 g4 i a → ownAt cl σ fr1 i a := fun {i a} z => by
    have nv : i ∉ vs := fun q => by have := z.1; rw [hvs i q] at this; cases this
    refine w.own hvs ⟨z.1, ?_, ?_⟩
    · rw [wipeF_get, if_neg nv]; exact z.2.1
    · rw [wipe_get, if_neg nv, ← hw i nv]; exact z.2.2
  refine ⟨wi.lg, fs, w.kp.trans wi.kp fun a z => .inl (z.imp (fun ⟨i, z1, z2⟩ => ⟨i, hT i z1, own4 z2⟩) id), fun i y hy => ?_, fun i hi => ?_, wi.hD, ?_⟩
  · rw [wipeF_get] at hy
    by_cases hi : i ∈ vs
    · rw [if_pos hi] at hy; split at hy <;> cases hy
    · rw [if_neg hi] at hy
      obtain ⟨y', h'⟩ := wi.le i y (by rw [wipeF_get, if_neg fun z => hi (h1 i z)]; exact hy)
      exact w.le i y' (by rw [wipeF_get, if_neg hi]; exact h')
  · by_cases hv : i ∈ vs
    · have := w.tch i hi
      rw [← this, wipeF_get, wipeF_get, if_pos hv, if_pos hv, wi.lg, l4]
    · have q1 := wi.tch i fun z => hi (hT i z)
      have q2 := w.tch i hi
      rw [wipeF_get, wipeF_get, if_neg fun z => hv (h1 i z), if_neg fun z => hv (h1 i z)] at q1
      rw [← q2, wipeF_get, wipeF_get, if_neg hv, if_neg hv, q1]
  · have off : ∀ i, cl i ≠ .P → (wipe σ2 vs1)[i]? = (wipe σ vs)[i]? ∧ (wipeF gE1 vs1)[i]? = (wipeF gE1 vs)[i]? := fun i hi => by
      have nv : i ∉ vs := fun q => hi (hvs i q)
      have nv1 : i ∉ vs1 := fun q => hi (hvs1 i q)
      rw [wipe_get, wipe_get, wipeF_get, wipeF_get, if_neg nv, if_neg nv, if_neg nv1, if_neg nv1]
      exact ⟨hw i nv, rfl⟩
    have := wi.ra
    rwa [bar_eq off] at this
end
section
variable {X : Cx} {cl : Nat → Cls} {n : Nat} {K : PySem.W.Frag} {Ts Ts1 Tc Tc1 Te vs vs1 is is1 : List Nat} {mds mds1 mde : Md} {tg iter tg1 iter1 elt : Expr} {ifs ifs1 : List Expr} {mc mc1 : Fr → Option (Bool × Fr)} {ms ms1 : Fr → Option (List PV × Fr)} {me : Fr → Option (PV × Fr)} {t t1 : Tg} {g0 g01 : TG}
theorem comp2_loop {BL : Addr → Prop} {σ : L2.St} {H1 : Hp} {fr1 gE : Fr} {D : Addr} {A : Addr → Prop} {J : It} {xs : List PV} {out : List PV} {acc0 : List V} {accP0 : List PV} {Qd : Hp → Prop} (hvs : ∀ i ∈ vs, cl i = .P) (hv : ∀ i ∈ is, i ∈ vs) (hg : GR K cl n t is g0) (hm : mde.ok false = true)
    (h1 : ∀ i ∈ vs1, i ∈ vs) (hv1 : ∀ i ∈ is1, i ∈ vs1) (hg1 : GR K cl n t1 is1 g01) (hmd1 : mds1.off (Tc1 ++ Te) = true)
    (hT : ∀ i ∈ (Tc ++ Ts1) ++ (Tc1 ++ Te), cl i = .M) (hB : BL D) (f1 : FS K cl n BL σ H1 fr1) (hL : ∀ i, ¬ lenAt cl σ fr1 i D) (hA : ∀ a, A a → ¬ (ownT cl σ fr1 ((Tc ++ Ts1) ++ (Tc1 ++ Te)) a ∨ a = D)) (wk : Wk K H1 (bar cl BL σ fr1) A J xs) (hD : H1 D = some (.lst acc0)) (ra0 : RepL K H1 (bar cl BL σ fr1) accP0 acc0)
    (e : compL (step2F t vs mc ms1 (stepF t1 vs1 mc1 me)) xs fr1 = some (out, gE)) (hz : accP0.length + out.length ≤ sizeLine)
    (k : ∀ H' acc, CW K cl n BL D ((Tc ++ Ts1) ++ (Tc1 ++ Te)) vs σ H1 fr1 H' gE acc (accP0 ++ out) → Qd H') :
    ∃ W : Nat → Nat → Hp → Prop, (∃ m, W 0 m H1) ∧ ∀ i m H, W i m H →
      (J.stop i H ∧ Qd H) ∨ (J.go i H ∧ ∃ Nx : Hp → Prop, (∀ H', Nx H' → ∃ m', m' < m ∧ W (i + 1) m' H') ∧ ∀ x H', J.yld i H x H' → g0 x (wipe σ vs) H' fun σ2 H2 => wipe σ2 vs = wipe σ vs ∧ tQ K cl n Tc mc σ2 H2 fun b H3 =>
        if b = true then tI K cl n Ts1 mds1 ms1 σ2 H3 fun J1 H4 => ∃ W1 : Nat → Nat → Hp → Prop, (∃ m, W1 0 m H4) ∧ ∀ j k H, W1 j k H →
          (J1.stop j H ∧ Nx H) ∨ (J1.go j H ∧ ∃ Nx1 : Hp → Prop, (∀ H', Nx1 H' → ∃ k', k' < k ∧ W1 (j + 1) k' H') ∧ ∀ x H', J1.yld j H x H' → g01 x (wipe σ2 vs1) H' fun σ3 H5 => wipe σ3 vs1 = wipe σ2 vs1 ∧ tQ K cl n Tc1 mc1 σ3 H5 fun b H6 =>
            if b = true then tE K cl n Te mde me σ3 H6 fun y H7 => ∃ acc, H7 D = some (.lst acc) ∧ acc.length < sizeLine ∧ Nx1 (upd H7 D (.lst (acc ++ [y]))) else Nx1 H6)
        else Nx H3) := by
  have hvs1 : ∀ i ∈ vs1, cl i = .P := fun i hi => hvs i (h1 i hi)
  refine ⟨fun i m H => m = xs.length - i ∧ i ≤ xs.length ∧ ∃ g acc accP rest, CW K cl n BL D ((Tc ++ Ts1) ++ (Tc1 ++ Te)) vs σ H1 fr1 H g acc accP ∧ compL (step2F t vs mc ms1 (stepF t1 vs1 mc1 me)) (xs.drop i) g = some (rest, gE) ∧ accP ++ rest = accP0 ++ out, ⟨xs.length, by simp, Nat.zero_le _, fr1, acc0, accP0, out, .begin hvs f1 hD ra0, e, rfl⟩, ?_⟩
  rintro i m H ⟨rfl, hi, g, acc, accP, rest, w, he, ho⟩
  have hBB : ∀ a, bar cl BL (wipe σ vs) (wipeF g vs) a → bar cl BL σ fr1 a ∨ H1 a = none := fun a z => .inl (z.imp id fun ⟨j, z⟩ => ⟨j, w.own hvs z⟩)
  have wki := wk.itm H _ _ w.kp (fun a h => h.elim (f1.ownT_bar a) fun z => .inl (z ▸ hB)) hBB hA i
  by_cases hlt : i < xs.length
  · obtain ⟨go, yl⟩ := wki.1 hlt
    obtain ⟨x0, out1, g1, rest1, hx0, es, er, eo⟩ := compL_cons hlt he
    refine .inr ⟨go, fun H' => ∃ acc accP, CW K cl n BL D ((Tc ++ Ts1) ++ (Tc1 ++ Te)) vs σ H1 fr1 H' g1 acc accP ∧ accP ++ rest1 = accP0 ++ out, fun H' ⟨acc', accP', w', ho'⟩ => ⟨xs.length - (i + 1), by omega, rfl, hlt, g1, acc', accP', rest1, w', er, ho'⟩, fun x H' y => ?_⟩
    obtain ⟨kx, p, hp, rp⟩ := yl x H' y
    rw [hx0] at hp; cases hp
    have w' : CW K cl n BL D ((Tc ++ Ts1) ++ (Tc1 ++ Te)) vs σ H1 fr1 H' g acc accP := by
      refine w.skip hvs hB w.lg ⟨w.fs.move kx, kx.mono fun _ z => z.elim, fun i y h => ⟨y, h⟩, fun _ _ => rfl⟩
    unfold step2F at es
    obtain ⟨g2, e1, e2⟩ := Option.bind_eq_some_iff.mp es
    obtain ⟨⟨b, g3⟩, e3, e4⟩ := Option.bind_eq_some_iff.mp e2
    refine hg w'.fs (rp _ fun a z => .inl z) e1 fun σ2 f2 off => ⟨wipe_same (by rw [f2.lσ, f1.lσ]) hv fun i hi => (off i hi).1, BL, g2, b, g3, f2, e3, fun H3 q => ?_⟩
    have hw : ∀ i, i ∉ vs → σ2[i]? = σ[i]? := fun i hi => by rw [(off i fun z => hi (hv i z)).1, wipe_get, if_neg hi]
    cases b with
    | false =>
      cases e4
      have b := ((BT'.of hvs hv f1.lσ w.lg f2.lf f2.lσ off q).more (T' := (Tc ++ Ts1) ++ (Tc1 ++ Te)) fun i h => List.mem_append_left _ (List.mem_append_left _ h))
      exact ⟨acc, accP, w'.skip hvs hB q.fs.lf b, by rw [← ho, eo]; rfl⟩
    | true =>
      obtain ⟨⟨ys, g4⟩, e5, e6⟩ := Option.bind_eq_some_iff.mp e4
      refine ⟨BL, g3, ys, g4, q.fs, e5, fun J1 H4 A1 q2 hA1 wk1 => ?_⟩
      have qq := EP'.then' f2 q q2
      have b := ((BT'.of hvs hv f1.lσ w.lg f2.lf f2.lσ off qq).more (T' := (Tc ++ Ts1) ++ (Tc1 ++ Te)) fun i h => List.mem_append_left _ h)
      have w4 := w'.skip hvs hB q2.fs.lf b
      have off4 : ∀ i, cl i ≠ .P → (wipe σ vs)[i]? = σ2[i]? ∧ (wipeF g4 vs)[i]? = g4[i]? := fun i hi => by
        have nv : i ∉ vs := fun q => hi (hvs i q)
        rw [wipe_get, wipeF_get, if_neg nv, if_neg nv]
        exact ⟨(hw i nv).symm, rfl⟩
      have hL4 : ∀ i, ¬ lenAt cl σ2 g4 i D := fun i ⟨z1, ⟨x, z2, z3⟩, z4⟩ => by
        obtain ⟨o1, o2⟩ := off4 i (by rw [z1]; exact fun z => nomatch z)
        exact w4.noLen hvs hL hT i ⟨z1, ⟨x, by rw [o2]; exact z2, z3⟩, by rw [o1]; exact z4⟩
      have ra4 := w4.ra
      rw [bar_eq off4] at ra4
      have hl := congrArg List.length ho
      rw [eo] at hl
      simp only [List.length_append] at hl
      refine comp_loop hvs1 hv1 hg1 hm (fun i hi => hT i (List.mem_append_right _ hi)) hB q2.fs hL4 (fun a ha z => z.elim (AOk.off q2.fs hA1 hmd1 a ha) (AOk.noD q2.fs hB hL4 hA1 a ha)) wk1 w4.hD ra4 e6 (by omega) fun H' acc' wi => ?_
      exact ⟨acc', accP ++ out1, w4.inner hvs h1 f1.lσ f2.lσ q2.fs.lf hw (fun i hi => List.mem_append_right _ hi) wi, by rw [← ho, eo, List.append_assoc]⟩
  · have e1 : i = xs.length := by omega
    subst e1
    rw [List.drop_length] at he
    cases he
    rw [List.append_nil] at ho
    subst ho
    exact .inl ⟨wki.2 (Nat.le_refl _), k H acc w⟩
theorem lc2_w (hvs : ∀ i ∈ vs, cl i = .P) (hv : ∀ i ∈ is, i ∈ vs) (h1 : ∀ i ∈ vs1, i ∈ vs) (hv1 : ∀ i ∈ is1, i ∈ vs1) (hm : mde.ok false = true) (hT : ∀ i ∈ (Tc ++ Ts1) ++ (Tc1 ++ Te), cl i = .M) (hmd : mds.off ((Tc ++ Ts1) ++ (Tc1 ++ Te)) = true) (hmd1 : mds1.off (Tc1 ++ Te) = true) (hgr : GR K cl n t is g0) (hgr1 : GR K cl n t1 is1 g01) {σ : L2.St} {H : Hp} {Q : VK}
    (h : tE K cl n (Ts ++ ((Tc ++ Ts1) ++ (Tc1 ++ Te))) .fresh (comp2M ms (step2F t vs mc ms1 (stepF t1 vs1 mc1 me)) vs) σ H Q) : tLc2 (tI K cl n Ts mds ms) g0 (tQ K cl n Tc mc) (tI K cl n Ts1 mds1 ms1) g01 (tQ K cl n Tc1 mc1) (tE K cl n Te mde me) vs vs1 σ H Q := by
    obtain ⟨BL, fr, z, fr2, f, e, k⟩ := h
    obtain ⟨⟨xs, fr1⟩, e1, e2⟩ := Option.bind_eq_some_iff.mp e
    obtain ⟨⟨out, gE⟩, e3, e4⟩ := Option.bind_eq_some_iff.mp e2
    split at e4 <;> cases e4
    rename_i hz
    have hz := okN_le hz
    refine ⟨BL, fr, xs, fr1, f, e1, fun J H1 A p1 hA wk D hD => ?_⟩
    obtain ⟨f1, hL, hA', wk'⟩ := comp_begin p1.fs hD hA hmd wk
    exact comp2_loop hvs hv hgr hm h1 hv1 hgr1 hmd1 hT (.inr rfl) f1 hL hA' wk' upd_same .nil e3 (by simpa using hz) fun H' acc w => k _ _ (comp_done hvs p1 hD hT hz w)
theorem se_lc2 {scope : Scope} {own : List (Str × Nat)} {pos : Pos} (hc : X.calm = true) (hN : X.N.Nodup) (hi : SI X cl n Ts mds tg iter ms) (ok : BlkOk X.N X.env.scope scope own)
    (hvs : ∀ i ∈ own.map (·.2), cl i = .P) (hv : ∀ i ∈ is, i ∈ own.map (·.2)) (h1 : ∀ i ∈ vs1, i ∈ own.map (·.2)) (hv1 : ∀ i ∈ is1, i ∈ vs1) (hm : mde.ok false = true) (hT : ∀ i ∈ (Tc ++ Ts1) ++ (Tc1 ++ Te), cl i = .M) (hmd : mds.off ((Tc ++ Ts1) ++ (Tc1 ++ Te)) = true) (hmd1 : mds1.off (Tc1 ++ Te) = true) (hgr : GR X.K cl n t is g0) (hgr1 : GR X.K cl n t1 is1 g01)
    (hg : ∀ (s : Shared) (H : Hp) (C : Addr) (cl : List (Str × Addr)) (fp : List Addr), PG (X.blk s H scope (compEnvC scope cl C X.env) fp) tg g0)
    (ht : ∀ (s : Shared) (H : Hp) (C : Addr) (c2 : List (Str × Addr)) (fp : List Addr), SQ (X.blk s H scope (compEnvC scope c2 C X.env) fp) cl n Tc ifs mc)
    (hi1 : ∀ (s : Shared) (H : Hp) (C : Addr) (c2 : List (Str × Addr)) (fp : List Addr), SI (X.blk s H scope (compEnvC scope c2 C X.env) fp) cl n Ts1 mds1 tg1 iter1 ms1)
    (hg1 : ∀ (s : Shared) (H : Hp) (C : Addr) (cl : List (Str × Addr)) (fp : List Addr), PG (X.blk s H scope (compEnvC scope cl C X.env) fp) tg1 g01)
    (ht1 : ∀ (s : Shared) (H : Hp) (C : Addr) (c2 : List (Str × Addr)) (fp : List Addr), SQ (X.blk s H scope (compEnvC scope c2 C X.env) fp) cl n Tc1 ifs1 mc1)
    (he : ∀ (s : Shared) (H : Hp) (C : Addr) (c2 : List (Str × Addr)) (fp : List Addr), SE (X.blk s H scope (compEnvC scope c2 C X.env) fp) cl n Te mde elt me) (hs : ∀ x, foldedSetIterable iter X.env x = pure x) (hs1 : ∀ env x, foldedSetIterable iter1 env x = pure x) :
    SE X cl n (Ts ++ ((Tc ++ Ts1) ++ (Tc1 ++ Te))) .fresh (.ListComp elt [⟨tg, iter, ifs, 0⟩, ⟨tg1, iter1, ifs1, 0⟩] scope pos) (comp2M ms (step2F t (own.map (·.2)) mc ms1 (stepF t1 vs1 mc1 me)) (own.map (·.2))) :=
  PE.weak (pe_lc2 (tt := tQ X.K cl n Tc mc) (tt1 := tQ X.K cl n Tc1 mc1) (te := tE X.K cl n Te mde me) (wi1 := tI X.K cl n Ts1 mds1 ms1) (vs1 := vs1) hc hN hi ok h1 hg ht hi1 hg1 ht1 he hs hs1) fun σ H Q h => lc2_w hvs hv h1 hv1 hm hT hmd hmd1 hgr hgr1 h
end
end EV

set_option linter.all false
set_option Elab.async false
set_option maxRecDepth 100000
/-! Ev12: statements. -/
namespace EV
open PySem L2 PySem.Spec PyProof.Rows

/-- T: slots whose contents may have changed; A: slots assigned -/
structure SP' (K : PySem.W.Frag) (cl : Nat → Cls) (n : Nat) (BL : Addr → Prop) (T A : List Nat) (σ : L2.St) (H : Hp) (fr fr' : Fr) (σ' : L2.St) (H' : Hp) : Prop where
  fs : FS K cl n BL σ' H' fr'
  kp : Kp H H' (ownT cl σ fr T)
  tch : ∀ i, i ∉ T → fr'[i]? = fr[i]?
  asg : ∀ i, i ∉ A → σ'[i]? = σ[i]?
  new : ∀ i a, ownAt cl σ' fr' i a → ownAt cl σ fr i a ∨ H a = none
/-- what is returned: a value; or (rf) a new object of its own -/
def RR (rf : Bool) (K : PySem.W.Frag) (cl : Nat → Cls) (n : Nat) (BL : Addr → Prop) (na : Nat) (σ : L2.St) (H : Hp) (fr : Fr) (σ' : L2.St) (H' : Hp) (fr' : Fr) (x : PV) (v : V) : Prop :=
  match rf with
  | false => Rep K H' (bar cl BL σ' fr') x v
  | true => (isMut x = false ∧ Rep K H' (bar cl BL σ' fr') x v) ∨ ∃ p, v = .ref p ∧ (H p = none ∨ ∃ i, na ≤ i ∧ ownAt cl σ fr i p) ∧ FS K cl n (fun a => BL a ∨ a = p) σ' H' fr' ∧ Top K H' (bar cl (fun a => BL a ∨ a = p) σ' fr') p x
def EndOk (rf : Bool) (K : PySem.W.Frag) (cl : Nat → Cls) (n : Nat) (BL : Addr → Prop) (na : Nat) (σ : L2.St) (H : Hp) (fr : Fr) (σ' : L2.St) (H' : Hp) (fr' : Fr) (D : Ends) : Fl → Prop
  | .nx => D.nx σ' H'
  | .bk => D.bk σ' H'
  | .ct => D.ct σ' H'
  | .rt x => ∀ v, RR rf K cl n BL na σ H fr σ' H' fr' x v → D.rt v H'
def tS (K : PySem.W.Frag) (cl : Nat → Cls) (n na : Nat) (rf : Bool) (T A : List Nat) (m : Fr → Option (Fl × Fr)) : TS := fun D σ H =>
  ∃ BL fr fl fr', FS K cl n BL σ H fr ∧ m fr = some (fl, fr') ∧ ∀ σ' H', SP' K cl n BL T A σ H fr fr' σ' H' → EndOk rf K cl n BL na σ H fr σ' H' fr' D fl
def SS (X : Cx) (cl : Nat → Cls) (n na : Nat) (rf : Bool) (T A : List Nat) (st : Stmt) (m : Fr → Option (Fl × Fr)) : Prop := PS X st (tS X.K cl n na rf T A m)
def SSs (X : Cx) (cl : Nat → Cls) (n na : Nat) (rf : Bool) (T A : List Nat) (st : List Stmt) (m : Fr → Option (Fl × Fr)) : Prop := PSs X st (tS X.K cl n na rf T A m)
theorem PS.weak {X : Cx} {st : Stmt} {t t' : TS} (h : PS X st t) (w : ∀ D σ H, t' D σ H → t D σ H) : PS X st t' := ⟨fun pins s σ H D I q => h.run pins s σ H D I (w D σ H q)⟩
theorem PSs.weak {X : Cx} {st : List Stmt} {t t' : TS} (h : PSs X st t) (w : ∀ D σ H, t' D σ H → t D σ H) : PSs X st t' := ⟨fun pins s σ H D I q => h.run pins s σ H D I (w D σ H q)⟩

section
variable {K : PySem.W.Frag} {cl : Nat → Cls} {n na : Nat} {rf : Bool} {BL : Addr → Prop} {σ σ' σ1 σ2 : L2.St} {H H' H1 H2 : Hp} {fr fr' fr1 fr2 : Fr} {T T' T1 T2 A A' A1 A2 : List Nat} {x : PV} {v : V} {md : Md}
theorem EP'.sp (e : EP' K cl n BL T md σ H fr x fr' v H') : SP' K cl n BL T [] σ H fr fr' σ H' := ⟨e.fs, e.kp, e.tch, fun _ _ => rfl, fun i a h => .inl (h.of e.le)⟩
theorem SP'.refl (f : FS K cl n BL σ H fr) : SP' K cl n BL T A σ H fr fr σ H := ⟨f, .refl, fun _ _ => rfl, fun _ _ => rfl, fun _ _ h => .inl h⟩
theorem SP'.more (e : SP' K cl n BL T A σ H fr fr' σ' H') (h : ∀ i, i ∈ T → i ∈ T') (h' : ∀ i, i ∈ A → i ∈ A') : SP' K cl n BL T' A' σ H fr fr' σ' H' :=
  ⟨e.fs, e.kp.mono fun _ ⟨i, h1, h2⟩ => ⟨i, h i h1, h2⟩, fun i hi => e.tch i fun z => hi (h i z), fun i hi => e.asg i fun z => hi (h' i z), e.new⟩
theorem SP'.trans (a : SP' K cl n BL T A σ H fr fr1 σ1 H1) (b : SP' K cl n BL T A σ1 H1 fr1 fr2 σ2 H2) : SP' K cl n BL T A σ H fr fr2 σ2 H2 := by
  refine ⟨b.fs, a.kp.trans b.kp fun c ⟨i, h1, h2⟩ => (a.new i c h2).imp (fun z => ⟨i, h1, z⟩) id, fun i hi => (b.tch i hi).trans (a.tch i hi), fun i hi => (b.asg i hi).trans (a.asg i hi), fun i c h => ?_⟩
  rcases b.new i c h with h | h
  · exact a.new i c h
  · exact .inr (a.kp.tr c h)
theorem SP'.left (a : SP' K cl n BL T A σ H fr fr1 σ1 H1) : SP' K cl n BL (T ++ T') (A ++ A') σ H fr fr1 σ1 H1 := a.more (fun _ => List.mem_append_left _) fun _ => List.mem_append_left _
theorem SP'.right (a : SP' K cl n BL T A σ H fr fr1 σ1 H1) : SP' K cl n BL (T' ++ T) (A' ++ A) σ H fr fr1 σ1 H1 := a.more (fun _ => List.mem_append_right _) fun _ => List.mem_append_right _
theorem SP'.seq (a : SP' K cl n BL T A σ H fr fr1 σ1 H1) (b : SP' K cl n BL T' A' σ1 H1 fr1 fr2 σ2 H2) : SP' K cl n BL (T ++ T') (A ++ A') σ H fr fr2 σ2 H2 := a.left.trans b.right
theorem RR.before (a : SP' K cl n BL T A σ H fr fr1 σ1 H1) (h : RR rf K cl n BL na σ1 H1 fr1 σ2 H2 fr2 x v) : RR rf K cl n BL na σ H fr σ2 H2 fr2 x v := by
  cases rf with
  | false => exact h
  | true =>
    rcases h with h | ⟨p, h1, h2, h3⟩
    · exact .inl h
    · refine .inr ⟨p, h1, ?_, h3⟩
      rcases h2 with h2 | ⟨i, hi, h2⟩
      · exact .inl (a.kp.tr p h2)
      · rcases a.new i p h2 with z | z
        · exact .inr ⟨i, hi, z⟩
        · exact .inl z
theorem EndOk.before {D : Ends} {fl : Fl} (a : SP' K cl n BL T A σ H fr fr1 σ1 H1) (h : EndOk rf K cl n BL na σ H fr σ2 H2 fr2 D fl) : EndOk rf K cl n BL na σ1 H1 fr1 σ2 H2 fr2 D fl := by
  cases fl with
  | rt y => exact fun v r => h v (r.before a)
  | _ => exact h
end

section
variable {X : Cx} {cl : Nat → Cls} {n na : Nat} {rf : Bool} {T T' T1 T2 T3 A A' A1 A2 : List Nat} {md md' md1 md2 : Md} {tg a b c e : Expr} {st : Stmt} {sts : List Stmt} {ma mb mc m : Fr → Option (PV × Fr)} {g h : Fr → Option (Fl × Fr)} {pos p : Pos}
theorem ss_weak (h : SS X cl n na rf T A st g) (hT : ∀ i, i ∈ T → i ∈ T') (hA : ∀ i, i ∈ A → i ∈ A') : SS X cl n na rf T' A' st g := PS.weak h fun D σ H ⟨BL, fr, fl, fr', f, e, k⟩ => ⟨BL, fr, fl, fr', f, e, fun σ' H' q => k σ' H' (q.more hT hA)⟩
theorem ss_nil : SSs X cl n na rf [] [] [] (fun fr => some (.nx, fr)) := PSs.weak pss_nil fun D σ H ⟨BL, fr, fl, fr', f, e, k⟩ => by
  cases e
  exact k σ H (.refl f)
/-- one statement, then others -/
def seqM (g h : Fr → Option (Fl × Fr)) : Fr → Option (Fl × Fr) := fun fr => (g fr).bind fun p => match p.1 with
  | .nx => h p.2
  | .bk => some (.bk, p.2)
  | .ct => some (.ct, p.2)
  | .rt v => some (.rt v, p.2)
theorem ss_cons (h1 : SS X cl n na rf T1 A1 st g) (h2 : SSs X cl n na rf T2 A2 sts h) : SSs X cl n na rf (T1 ++ T2) (A1 ++ A2) (st :: sts) (seqM g h) := PSs.weak (pss_cons h1 h2) fun D σ H ⟨BL, fr, fl, fr', f, e, k⟩ => by
  obtain ⟨⟨fl1, fr1⟩, e1, e2⟩ := Option.bind_eq_some_iff.mp e
  refine ⟨BL, fr, fl1, fr1, f, e1, fun σ1 H1 q1 => ?_⟩
  cases fl1 with
  | nx => exact ⟨BL, fr1, fl, fr', q1.fs, e2, fun σ2 H2 q2 => (k σ2 H2 (q1.seq q2)).before q1⟩
  | bk => cases e2; exact k σ1 H1 q1.left
  | ct => cases e2; exact k σ1 H1 q1.left
  | rt y => cases e2; exact k σ1 H1 q1.left
theorem ss_pass : SS X cl n na rf [] [] (.Pass pos) (fun fr => some (.nx, fr)) := PS.weak ps_pass fun D σ H ⟨BL, fr, fl, fr', f, e, k⟩ => by
  cases e
  exact k σ H (.refl f)
theorem ss_break : SS X cl n na rf [] [] (.Break pos) (fun fr => some (.bk, fr)) := PS.weak ps_break fun D σ H ⟨BL, fr, fl, fr', f, e, k⟩ => by
  cases e
  exact k σ H (.refl f)
theorem ss_cont : SS X cl n na rf [] [] (.Continue pos) (fun fr => some (.ct, fr)) := PS.weak ps_continue fun D σ H ⟨BL, fr, fl, fr', f, e, k⟩ => by
  cases e
  exact k σ H (.refl f)
theorem ss_doc {x : Str} {pos' : Pos} {j} : SS X cl n na rf [] [] (.Expr (.Constant (.str x) j pos) pos') (fun fr => some (.nx, fr)) := PS.weak ps_doc fun D σ H ⟨BL, fr, fl, fr', f, e, k⟩ => by
  cases e
  exact k σ H (.refl f)
theorem ss_ex (he : SE X cl n T md e m) (hs : swapsWith e none pos.line X.env = pure false) : SS X cl n na rf T [] (.Expr e pos) (fun fr => (m fr).map fun p => (.nx, p.2)) := PS.weak (ps_expr he hs) fun D σ H ⟨BL, fr, fl, fr', f, e, k⟩ => by
  obtain ⟨⟨x, fr1⟩, e1, e2⟩ := Option.map_eq_some_iff.mp e
  cases e2
  exact ⟨BL, fr, x, _, f, e1, fun v H1 p1 => k σ H1 p1.sp⟩
/-- return e -/
theorem ss_ret (he : SE X cl n T md e m) (hm : md.le (if rf then .fresh else .val) = true) : SS X cl n na rf T [] (.Return (some e) pos) (fun fr => (m fr).map fun p => (.rt p.1, p.2)) := PS.weak (ps_ret he) fun D σ H ⟨BL, fr, fl, fr', f, e, k⟩ => by
  obtain ⟨⟨x, fr1⟩, e1, e2⟩ := Option.map_eq_some_iff.mp e
  cases e2
  refine ⟨BL, fr, x, _, f, e1, fun v H1 p1 => k σ H1 p1.sp v ?_⟩
  cases rf with
  | false => exact (p1.weak f hm).res
  | true =>
    rcases (p1.weak f (md' := .fresh) hm).res with z | ⟨p, z1, z2, z3, z4⟩
    · exact .inl z
    · exact .inr ⟨p, z1, .inl z2, z3, z4⟩
theorem ss_retN : SS X cl n na rf [] [] (.Return none pos) (fun fr => some (.rt .non, fr)) := PS.weak ps_retN fun D σ H ⟨BL, fr, fl, fr', f, e, k⟩ => by
  cases e
  refine k σ H (.refl f) _ ?_
  cases rf with
  | false => exact .non
  | true => exact .inl ⟨rfl, .non⟩
/-- return name, an object of its own: handed over -/
theorem ss_retM {i : Nat} (he : PE X e (tVar i)) (hc : cl i = .M) (hi : na ≤ i) : SS X cl n na true [i] [] (.Return (some e) pos) (fun fr => (getS fr i).map fun v => (.rt v, fr.set i none)) := PS.weak (ps_ret he) fun D σ H ⟨BL, fr, fl, fr', f, e, k⟩ => by
  obtain ⟨x, hx, e2⟩ := Option.map_eq_some_iff.mp e
  cases e2
  have hi' := getS_some.mp hx
  obtain ⟨p, h1, h2, h3⟩ := f.own_at hi' hc
  have le : ∀ (j : Nat) y, (fr.set i none)[j]? = some (some y) → fr[j]? = some (some y) := fun j y h => by
    rw [set_get] at h
    split at h
    · split at h <;> cases h
    · exact h
  have f' := fs_mv (i := i) f
  refine ⟨_, h1, k σ H ⟨f', .refl, fun j hj => ?_, fun _ _ => rfl, fun j a h => .inl (h.of fun j y h => ⟨y, le j y h⟩)⟩ _ (.inr ⟨p, rfl, .inr ⟨i, hi, h2⟩, ?_, ?_⟩)⟩
  · rw [List.getElem?_set_ne (by simpa using fun z : i = j => hj (by simp [z]))]
  · refine ⟨f'.lσ, f'.lf, fun j y hj => ?_, f'.inj, fun j a h z => ?_, f'.lsp, ?_⟩
    · have hb : ∀ a, bar cl (fun a => BL a ∨ a = p) σ (fr.set i none) a → bar cl BL σ fr a ∨ H a = none := fun a z => by
        rcases z with (z | z) | ⟨j, z⟩
        · exact .inl (.inl z)
        · exact .inl (.inr ⟨i, z ▸ h2⟩)
        · exact .inl (.inr ⟨j, z.of fun j y h => ⟨y, le j y h⟩⟩)
      obtain ⟨v, e1, e2⟩ := f.slot j y (le j y hj)
      refine ⟨v, e1, ?_⟩
      cases hcj : cl j with
      | P => rw [hcj] at e2; exact Rep.move (O := fun _ => False) .refl (fun _ z => z.elim) hb e2
      | L => rw [hcj] at e2; exact RepT.move (O := fun _ => False) .refl (fun _ z => z.elim) hb (fun _ _ _ z => z) e2
      | M => rw [hcj] at e2; obtain ⟨a, e, q⟩ := e2; exact ⟨a, e, q.move (O := fun _ => False) .refl (fun _ z => z.elim) hb fun z => z⟩
    · rcases z with z | z
      · exact f'.sep j a h z
      · subst z
        have := f.inj j i a (h.of fun j y h => ⟨y, le j y h⟩) h2
        subst this
        obtain ⟨_, ⟨y, hy⟩, _⟩ := h
        rw [set_get, if_pos rfl] at hy
        split at hy <;> cases hy
    · rintro a (z | z)
      · exact f.blt a z
      · rw [z]; exact h3.ne_none
  · refine h3.move (O := fun _ => False) .refl (fun _ z => z.elim) (fun a z => ?_) fun z => z
    rcases z with (z | z) | ⟨j, z⟩
    · exact .inl (.inl z)
    · exact .inl (.inr ⟨i, z ▸ h2⟩)
    · exact .inl (.inr ⟨j, z.of fun j y h => ⟨y, le j y h⟩⟩)
/-- a plain slot is set -/
theorem sp_set {K : PySem.W.Frag} {BL : Addr → Prop} {σ : L2.St} {H H1 : Hp} {fr fr1 : Fr} {i : Nat} {x : PV} {v : V} (f : FS K cl n BL σ H fr) (p1 : EP' K cl n BL T md σ H fr x fr1 v H1) (hm : md.ok false = true) (hc : cl i = .P) :
    SP' K cl n BL (i :: T) [i] σ H fr (fr1.set i (some x)) (σ.set i (some v)) H1 := by
  have q := p1.sp
  have off : ∀ j, i ≠ j → (σ.set i (some v))[j]? = σ[j]? ∧ (fr1.set i (some x))[j]? = fr1[j]? := fun j hj => by
    rw [List.getElem?_set_ne hj, List.getElem?_set_ne hj]; exact ⟨rfl, rfl⟩
  refine ⟨fs_set p1.fs hc (p1.rep f hm), p1.kp.mono fun _ ⟨j, h1, h2⟩ => ⟨j, List.mem_cons_of_mem _ h1, h2⟩, fun j hj => ?_, fun j hj => ?_, fun j a h => ?_⟩
  · rw [(off j fun z => hj (by simp [z])).2, p1.tch j fun z => hj (List.mem_cons_of_mem _ z)]
  · exact (off j fun z => hj (by simp [z])).1
  · exact q.new j a ((own_iff (fun j hj => off j fun z => hj (z ▸ hc)) j a).mp h)
theorem ss_asg {i : Nat} {te : TE} (h : PS X st (tAsg te (gName i))) (w : ∀ σ H Q, tE X.K cl n T md m σ H Q → te σ H Q) (hm : md.ok false = true) (hc : cl i = .P) : SS X cl n na rf (i :: T) [i] st (fun fr => (m fr).map fun p => (.nx, p.2.set i (some p.1))) :=
  PS.weak h fun D σ H ⟨BL, fr, fl, fr', f, e, k⟩ => by
    obtain ⟨⟨x, fr1⟩, e1, e2⟩ := Option.map_eq_some_iff.mp e
    cases e2
    exact w _ _ _ ⟨BL, fr, x, fr1, f, e1, fun v H1 p1 => k _ H1 (sp_set f p1 hm hc)⟩
/-- a slot gets an object of its own -/
theorem fs_own {K : PySem.W.Frag} {BL : Addr → Prop} {σ : L2.St} {H : Hp} {fr : Fr} {i : Nat} {x : PV} {p : Addr} (hi : i < n) (hc : cl i = .M) (g : FS K cl n (fun a => BL a ∨ a = p) σ H fr) (t : Top K H (bar cl (fun a => BL a ∨ a = p) σ fr) p x) (hp : ¬ BL p) (hl : ∀ j, ¬ lenAt cl σ fr j p) :
    FS K cl n BL (σ.set i (some (.ref p))) H (fr.set i (some x)) ∧ ∀ j a, ownAt cl (σ.set i (some (.ref p))) (fr.set i (some x)) j a → ownAt cl σ fr j a ∨ (j = i ∧ a = p) := by
  have ho : ∀ j a, ownAt cl (σ.set i (some (.ref p))) (fr.set i (some x)) j a → (j ≠ i ∧ ownAt cl σ fr j a) ∨ (j = i ∧ a = p) := fun j a ⟨h1, h2, h3⟩ => by
    by_cases e : i = j
    · subst e
      rw [set_get, if_pos rfl] at h3
      split at h3 <;> cases h3
      exact .inr ⟨rfl, rfl⟩
    · rw [List.getElem?_set_ne e] at h2 h3
      exact .inl ⟨Ne.symm e, h1, h2, h3⟩
  have hb : ∀ a, bar cl BL (σ.set i (some (.ref p))) (fr.set i (some x)) a → bar cl (fun a => BL a ∨ a = p) σ fr a ∨ H a = none := fun a z => by
    rcases z with z | ⟨j, z⟩
    · exact .inl (.inl (.inl z))
    · rcases ho j a z with ⟨_, z⟩ | ⟨_, z⟩
      · exact .inl (.inr ⟨j, z⟩)
      · exact .inl (.inl (.inr z))
  refine ⟨⟨by rw [List.length_set]; exact g.lσ, by rw [List.length_set]; exact g.lf, fun j y hj => ?_, fun j k a h1 h2 => ?_, fun j a h1 z => ?_, fun j k a h1 h2 => ?_, fun a z => g.blt a (.inl z)⟩, fun j a h => (ho j a h).imp (·.2) id⟩
  · by_cases e : i = j
    · subst e
      rw [set_get, if_pos rfl] at hj
      split at hj <;> cases hj
      refine ⟨.ref p, by rw [set_get, if_pos rfl, if_pos (by rw [g.lσ]; exact hi)], ?_⟩
      rw [hc]
      exact ⟨p, rfl, t.move (O := fun _ => False) .refl (fun _ z => z.elim) hb fun z => z⟩
    · rw [List.getElem?_set_ne e] at hj ⊢
      obtain ⟨v, e1, e2⟩ := g.slot j y hj
      refine ⟨v, e1, ?_⟩
      cases hcj : cl j with
      | P => rw [hcj] at e2; exact Rep.move (O := fun _ => False) .refl (fun _ z => z.elim) hb e2
      | L => rw [hcj] at e2; exact RepT.move (O := fun _ => False) .refl (fun _ z => z.elim) hb (fun _ _ _ z => z) e2
      | M => rw [hcj] at e2; obtain ⟨a, e, q⟩ := e2; exact ⟨a, e, q.move (O := fun _ => False) .refl (fun _ z => z.elim) hb fun z => z⟩
  · rcases ho j a h1 with ⟨n1, h1⟩ | ⟨e1, h1⟩ <;> rcases ho k a h2 with ⟨n2, h2⟩ | ⟨e2, h2⟩
    · exact g.inj j k a h1 h2
    · exact (g.sep j a h1 (.inr h2)).elim
    · exact (g.sep k a h2 (.inr h1)).elim
    · rw [e1, e2]
  · rcases ho j a h1 with ⟨_, h1⟩ | ⟨_, h1⟩
    · exact g.sep j a h1 (.inl z)
    · exact hp (h1 ▸ z)
  · have h1' : lenAt cl σ fr j a := by
      obtain ⟨z1, z2, z3⟩ := h1
      have e : i ≠ j := fun z => by rw [← z, hc] at z1; cases z1
      rw [List.getElem?_set_ne e] at z2 z3
      exact ⟨z1, z2, z3⟩
    rcases ho k a h2 with ⟨_, h2⟩ | ⟨_, h2⟩
    · exact g.lsp j k a h1' h2
    · exact hl j (h2 ▸ h1')
theorem ss_asgM {i : Nat} {te : TE} (h : PS X st (tAsg te (gName i))) (w : ∀ σ H Q, tE X.K cl n T .fresh m σ H Q → te σ H Q) (hc : cl i = .M) (hi : i < n) (hT : ∀ j ∈ T, cl j = .M) :
    SS X cl n na rf (i :: T) [i] st (fun fr => (m fr).bind fun p => if isMut p.1 = true then some (.nx, p.2.set i (some p.1)) else none) :=
  PS.weak h fun D σ H ⟨BL, fr, fl, fr', f, e, k⟩ => by
    obtain ⟨⟨x, fr1⟩, e1, e2⟩ := Option.bind_eq_some_iff.mp e
    split at e2 <;> cases e2
    rename_i hx
    refine w _ _ _ ⟨BL, fr, x, fr1, f, e1, fun v H1 p1 => ?_⟩
    rcases p1.res with ⟨z, _⟩ | ⟨p, rfl, hp, g, t⟩
    · rw [z] at hx; cases hx
    have hl : ∀ j, ¬ lenAt cl σ fr1 j p := fun j ⟨h1, ⟨y, h2, h3⟩, h4⟩ => by
      have nT : j ∉ T := fun z => by rw [hT j z] at h1; cases h1
      rw [p1.tch j nT] at h2
      exact lenAt.tr f ⟨h1, ⟨y, h2, h3⟩, h4⟩ hp
    obtain ⟨f2, ho⟩ := fs_own hi hc g t (fun z => f.blt p z hp) hl
    refine k _ H1 ⟨f2, p1.kp.mono fun _ ⟨j, h1, h2⟩ => ⟨j, List.mem_cons_of_mem _ h1, h2⟩, fun j hj => ?_, fun j hj => ?_, fun j a h => ?_⟩
    · rw [List.getElem?_set_ne fun z => hj (by simp [z]), p1.tch j fun z => hj (List.mem_cons_of_mem _ z)]
    · rw [List.getElem?_set_ne fun z => hj (by simp [z])]
    · rcases ho j a h with z | ⟨_, z⟩
      · exact .inl (z.of p1.le)
      · exact .inr (z ▸ hp)
/-- if -/
theorem ss_if {xs ys : List Stmt} (hc : ST X cl n T c mc) (ha : SSs X cl n na rf T1 A1 xs g) (hb : SSs X cl n na rf T2 A2 ys h) :
    SS X cl n na rf (T ++ (T1 ++ T2)) (A1 ++ A2) (.If c xs ys pos) (fun fr => (mc fr).bind fun p => (blOf p.1).bind fun t => if t = true then g p.2 else h p.2) := PS.weak (ps_if hc ha hb) fun D σ H ⟨BL, fr, fl, fr', f, e, k⟩ => by
  obtain ⟨⟨x, fr1⟩, e1, e2⟩ := Option.bind_eq_some_iff.mp e
  obtain ⟨t, e3, e4⟩ := Option.bind_eq_some_iff.mp e2
  obtain rfl := blOf_some e3
  refine ⟨BL, fr, t, fr1, f, e1, fun H1 p1 => ?_⟩
  cases t with
  | true =>
    rw [if_pos rfl] at e4 ⊢
    exact ⟨BL, fr1, fl, fr', p1.fs, e4, fun σ2 H2 q2 => (k σ2 H2 (p1.sp.seq q2.left)).before p1.sp⟩
  | false =>
    rw [if_neg Bool.false_ne_true] at e4 ⊢
    exact ⟨BL, fr1, fl, fr', p1.fs, e4, fun σ2 H2 q2 => (k σ2 H2 (p1.sp.seq q2.right)).before p1.sp⟩
/-- while -/
def whileM (mc : Fr → Option (PV × Fr)) (g : Fr → Option (Fl × Fr)) : Fr → Option (Fl × Fr) := whileO (fun fr => (mc fr).bind fun p => (blOf p.1).bind fun t =>
      if t = true then (g p.2).map fun q => match q.1 with
        | .nx => .on q.2
        | .ct => .on q.2
        | .bk => .done .nx q.2
        | .rt v => .done (.rt v) q.2
      else some (.done .nx p.2))
theorem whileN_of {step : Fr → Option Tn} {fr : Fr} {r : Fl × Fr} (h : whileO step fr = some r) : ∃ N, whileN step N fr = some r := by
  refine whileO.partial_correctness step (fun fr r => ∃ N, whileN step N fr = some r) (fun W ih fr r e => ?_) fr r h
  obtain ⟨t, e1, e2⟩ := Option.bind_eq_some_iff.mp e
  cases t with
  | on fr' =>
    obtain ⟨N, hN⟩ := ih fr' r e2
    exact ⟨N + 1, by unfold whileN; rw [e1]; exact hN⟩
  | done fl fr' => exact ⟨1, by unfold whileN; rw [e1]; exact e2⟩
theorem ss_while {xs : List Stmt} (hp : PassesOwn (model X.prog X.w) X.A X.env X.xe) (hc : ST X cl n T c mc) (hb : SSs X cl n na rf T1 A1 xs g) : SS X cl n na rf (T ++ T1) A1 (.While c xs [] pos) (whileM mc g) :=
  PS.weak (ps_while hp hc hb) fun D σ H ⟨BL, fr, fl, fr', f, e, k⟩ => by
    obtain ⟨N, hN⟩ := whileN_of e
    refine ⟨fun m σ' H' => ∃ fr1, SP' X.K cl n BL (T ++ T1) A1 σ H fr fr1 σ' H' ∧ whileN _ m fr1 = some (fl, fr'), ⟨N, fr, .refl f, hN⟩, ?_⟩
    rintro m σ1 H1 ⟨fr1, q1, e1⟩
    cases m with
    | zero => cases e1
    | succ m =>
    unfold whileN at e1
    obtain ⟨tn, e2, e3⟩ := Option.bind_eq_some_iff.mp e1
    obtain ⟨⟨x, fr2⟩, e4, e5⟩ := Option.bind_eq_some_iff.mp e2
    obtain ⟨t, e6, e7⟩ := Option.bind_eq_some_iff.mp e5
    obtain rfl := blOf_some e6
    refine ⟨BL, fr1, t, fr2, q1.fs, e4, fun H2 p2 => ?_⟩
    have q2 : SP' X.K cl n BL (T ++ T1) A1 σ H fr fr2 σ1 H2 := q1.trans (p2.sp.more (fun _ => List.mem_append_left _) fun _ z => absurd z (by simp))
    cases t with
    | false =>
      rw [if_neg Bool.false_ne_true] at e7
      cases e7
      cases e3
      exact k _ _ q2
    | true =>
      rw [if_pos rfl] at e7
      obtain ⟨⟨fl3, fr3⟩, e8, e9⟩ := Option.map_eq_some_iff.mp e7
      refine ⟨fun σ' H' => ∃ fr4, SP' X.K cl n BL (T ++ T1) A1 σ H fr fr4 σ' H' ∧ whileN _ m fr4 = some (fl, fr'), fun σ' H' ⟨fr4, z⟩ => ⟨m, Nat.lt_succ_self m, fr4, z⟩, BL, fr2, fl3, fr3, p2.fs, e8, fun σ3 H3 q3 => ?_⟩
      have q4 := q2.trans (q3.more (fun _ => List.mem_append_right _) fun _ z => z)
      cases fl3 with
      | nx => cases e9; exact ⟨fr3, q4, e3⟩
      | ct => cases e9; exact ⟨fr3, q4, e3⟩
      | bk => cases e9; cases e3; exact k _ _ q4
      | rt y => cases e9; cases e3; exact fun v r => k _ _ q4 v (r.before q2)
/-- for -/
def forM (t : Tg) (ms : Fr → Option (List PV × Fr)) (g : Fr → Option (Fl × Fr)) : Fr → Option (Fl × Fr) := fun fr => (ms fr).bind fun p => forL (fun x fr => (bindTg t x fr).bind g) p.1 p.2
theorem forL_cons {f : PV → Fr → Option (Fl × Fr)} {xs : List PV} {i : Nat} {fr fr' : Fr} {fl : Fl} (hi : i < xs.length) (h : forL f (xs.drop i) fr = some (fl, fr')) :
    ∃ x fl1 fr1, xs[i]? = some x ∧ f x fr = some (fl1, fr1) ∧ (match fl1 with
      | .nx => forL f (xs.drop (i + 1)) fr1
      | .ct => forL f (xs.drop (i + 1)) fr1
      | .bk => some (.nx, fr1)
      | .rt v => some (.rt v, fr1)) = some (fl, fr') := by
  rw [List.drop_eq_getElem_cons hi] at h
  unfold forL at h
  obtain ⟨⟨fl1, fr1⟩, h1, h2⟩ := Option.bind_eq_some_iff.mp h
  refine ⟨_, fl1, fr1, List.getElem?_eq_getElem hi, h1, ?_⟩
  cases fl1 <;> exact h2
theorem sp_target {K : PySem.W.Frag} {BL : Addr → Prop} {σ σ2 : L2.St} {H : Hp} {fr fr2 : Fr} {is : List Nat} (f2 : FS K cl n BL σ2 H fr2) (his : ∀ i ∈ is, cl i = .P) (off : ∀ i, i ∉ is → σ2[i]? = σ[i]? ∧ fr2[i]? = fr[i]?) : SP' K cl n BL is is σ H fr fr2 σ2 H :=
  ⟨f2, .refl, fun i hi => (off i hi).2, fun i hi => (off i hi).1, fun i a h => .inl ((own_iff (off_of his off) i a).mp h)⟩
theorem ss_for {xs : List Stmt} {iter : Expr} {ms : Fr → Option (List PV × Fr)} {t : Tg} {is : List Nat} {g0 : TG} (hp : PassesOwn (model X.prog X.w) X.A X.env X.xe) (hcalm : X.calm = true) (hi : SI X cl n T md tg iter ms) (hg : PG X tg g0) (hgr : GR X.K cl n t is g0) (his : ∀ i ∈ is, cl i = .P) (hb : SSs X cl n na rf T1 A1 xs g)
    (hmd : md.off (is ++ T1) = true) (hs : ∀ x, foldedSetIterable iter X.env x = pure x) :
    SS X cl n na rf (T ++ (is ++ T1)) (is ++ A1) (.For tg iter xs [] pos) (forM t ms g) :=
  PS.weak (ps_for hp hcalm hi hg hb hs) fun D σ H ⟨BL, fr, fl, fr', f, e, k⟩ => by
    obtain ⟨⟨ys, fr1⟩, e1, e2⟩ := Option.bind_eq_some_iff.mp e
    refine ⟨BL, fr, ys, fr1, f, e1, fun J H1 A p1 hA wk => ?_⟩
    have q1 : SP' X.K cl n BL (T ++ (is ++ T1)) (is ++ A1) σ H fr fr1 σ H1 := p1.sp.more (fun _ => List.mem_append_left _) fun _ z => absurd z (by simp)
    refine ⟨fun i m σ' H' => m = ys.length - i ∧ i ≤ ys.length ∧ ∃ fr2, SP' X.K cl n BL (is ++ T1) (is ++ A1) σ H1 fr1 fr2 σ' H' ∧ forL _ (ys.drop i) fr2 = some (fl, fr'), ⟨ys.length, by simp, Nat.zero_le _, fr1, .refl p1.fs, e2⟩, ?_⟩
    rintro i m σ2 H2 ⟨rfl, hi, fr2, q2, e3⟩
    have tot : ∀ {fr3 σ3 H3}, SP' X.K cl n BL (is ++ T1) (is ++ A1) σ H1 fr1 fr3 σ3 H3 → SP' X.K cl n BL (T ++ (is ++ T1)) (is ++ A1) σ H fr fr3 σ3 H3 := fun q => q1.trans (q.more (fun _ => List.mem_append_right _) fun _ z => z)
    have hBB : ∀ a, bar cl BL σ2 fr2 a → bar cl BL σ fr1 a ∨ H1 a = none := fun a z => by
      rcases z with z | ⟨j, z⟩
      · exact .inl (.inl z)
      · exact (q2.new j a z).imp (fun z => .inr ⟨j, z⟩) id
    have wki := wk.itm H2 _ _ q2.kp p1.fs.ownT_bar hBB (AOk.off p1.fs hA hmd) i
    by_cases hlt : i < ys.length
    · obtain ⟨go, yl⟩ := wki.1 hlt
      obtain ⟨x0, fl3, fr3, hx0, e4, e5⟩ := forL_cons hlt e3
      refine .inr ⟨go, fun σ' H' => ∃ fr3, SP' X.K cl n BL (is ++ T1) (is ++ A1) σ H1 fr1 fr3 σ' H' ∧ forL _ (ys.drop (i + 1)) fr3 = some (fl, fr'), fun σ' H' ⟨fr3, z1, z2⟩ => ⟨ys.length - (i + 1), by omega, rfl, hlt, fr3, z1, z2⟩, fun x H' y => ?_⟩
      obtain ⟨kx, pv, hpv, rp⟩ := yl x H' y
      rw [hx0] at hpv; cases hpv
      have q3 : SP' X.K cl n BL (is ++ T1) (is ++ A1) σ H1 fr1 fr2 σ2 H' := q2.trans ⟨q2.fs.move kx, kx.mono fun _ z => z.elim, fun _ _ => rfl, fun _ _ => rfl, fun _ _ h => .inl h⟩
      obtain ⟨fr4, e6, e7⟩ := Option.bind_eq_some_iff.mp e4
      refine hgr q3.fs (rp _ fun a z => .inl z) e6 fun σ4 f4 off => ⟨BL, fr4, fl3, fr3, f4, e7, fun σ5 H5 q5 => ?_⟩
      have q4 : SP' X.K cl n BL (is ++ T1) (is ++ A1) σ H1 fr1 fr4 σ4 H' := q3.trans ((sp_target f4 his off).more (fun _ => List.mem_append_left _) fun _ => List.mem_append_left _)
      have q6 := q4.trans (q5.more (fun _ => List.mem_append_right _) fun _ => List.mem_append_right _)
      cases fl3 with
      | nx => exact ⟨fr3, q6, e5⟩
      | ct => exact ⟨fr3, q6, e5⟩
      | bk => cases e5; exact k _ _ (tot q6)
      | rt y => cases e5; exact fun v r => k _ _ (tot q6) v (r.before (tot q4))
    · have e1 : i = ys.length := by omega
      subst e1
      rw [List.drop_length] at e3
      cases e3
      exact .inl ⟨wki.2 (Nat.le_refl _), k _ _ (tot q2)⟩
end
end EV

set_option linter.all false
set_option Elab.async false
set_option maxRecDepth 100000
/-! Ev13: what a def promises; calls. -/
namespace EV
open PySem L2 PySem.Spec PyProof.Rows C8

def clF (F : Fn) : Nat → Cls := fun i => (F.cls[i]?).getD .P
/-- barred at a call's end: as ahead, and the objects that were to be changed and are still known to the caller -/
def fbar (F : Fn) (outs : List (Option PV)) (vs : List V) (BL : Addr → Prop) (a : Addr) : Prop := BL a ∨ ∃ (j i : Nat) (o : PV), F.mps[j]? = some i ∧ outs[j]? = some (some o) ∧ vs[i]? = some (.ref a)
def outsOk (K : PySem.W.Frag) (F : Fn) (outs : List (Option PV)) (vs : List V) (BL : Addr → Prop) (H : Hp) : Prop :=
  ∀ (j i : Nat) (o : PV), F.mps[j]? = some i → outs[j]? = some (some o) → ∃ a, vs[i]? = some (.ref a) ∧ Top K H (fbar F outs vs BL) a o
structure CE' (K : PySem.W.Frag) (F : Fn) (BL : Addr → Prop) (vs : List V) (H : Hp) (r : PV) (outs : List (Option PV)) (v : V) (H' : Hp) : Prop where
  kp : Kp H H' (fun a => ∃ i, i ∈ F.mps ∧ vs[i]? = some (.ref a))
  res : ((F.fresh = true → isMut r = false) ∧ outsOk K F outs vs BL H' ∧ Rep K H' (fbar F outs vs BL) r v) ∨
    ∃ p, v = .ref p ∧ H p = none ∧ outsOk K F outs vs (fun a => BL a ∨ a = p) H' ∧ Top K H' (fbar F outs vs (fun a => BL a ∨ a = p)) p r
/-- the promise of a def that computes R -/
def spF (K : PySem.W.Frag) (F : Fn) (R : List PV → Option (PV × List (Option PV))) : Sp := fun vs H Q E => ∃ BL pvs r outs, vs.length = F.na ∧ pvs.length = F.na ∧
  FS K (clF F) F.ns BL (vs.map some ++ List.replicate (F.ns - F.na) none) H (pvs.map some ++ List.replicate (F.ns - F.na) none) ∧ R pvs = some (r, outs) ∧ ∀ v H', CE' K F BL vs H r outs v H' → Q v H'

section
variable {K : PySem.W.Frag} {F : Fn} {BL : Addr → Prop} {H H' : Hp} {vs : List V} {pvs : List PV} {fr' : Fr} {σ' : L2.St} {T A : List Nat}
theorem start_get {α : Type} {vs : List α} {k i : Nat} {x : α} : (vs.map some ++ List.replicate k none)[i]? = some (some x) ↔ vs[i]? = some x := by
  by_cases h : i < vs.length
  · rw [List.getElem?_append_left (by simpa using h), List.getElem?_map, List.getElem?_eq_getElem h]; simp
  · rw [List.getElem?_append_right (by simpa using Nat.le_of_not_lt h), List.getElem?_eq_none (Nat.le_of_not_lt h), List.getElem?_replicate]
    split <;> simp
/-- what is asked of a def's table -/
structure FnWf (F : Fn) (A : List Nat) : Prop where
  le : F.na ≤ F.ns
  mp : ∀ i, i ∈ F.mps → i < F.na ∧ clF F i = .M ∧ i ∉ A
  pm : ∀ i, i < F.na → clF F i = .M → i ∈ F.mps
theorem fbar_of (wf : FnWf F A) (hv : vs.length = F.na) (q : SP' K (clF F) F.ns BL T A (vs.map some ++ List.replicate (F.ns - F.na) none) H (pvs.map some ++ List.replicate (F.ns - F.na) none) fr' σ' H') {BL' : Addr → Prop} {a : Addr}
    (h : fbar F (F.mps.map fun i => getS fr' i) vs BL' a) : bar (clF F) BL' σ' fr' a := by
  rcases h with h | ⟨j, i, o, h1, h2, h3⟩
  · exact .inl h
  · refine .inr ⟨i, ?_⟩
    have hi := List.mem_of_getElem? h1
    obtain ⟨w1, w2, w3⟩ := wf.mp i hi
    rw [List.getElem?_map, h1] at h2
    have h2 : getS fr' i = some o := by simpa using h2
    exact ⟨w2, ⟨o, getS_some.mp h2⟩, by rw [q.asg i w3]; exact start_get.mpr h3⟩
theorem outs_of (wf : FnWf F A) (hv : vs.length = F.na) (hp : pvs.length = F.na) (q : SP' K (clF F) F.ns BL T A (vs.map some ++ List.replicate (F.ns - F.na) none) H (pvs.map some ++ List.replicate (F.ns - F.na) none) fr' σ' H') {BL' : Addr → Prop}
    (f : FS K (clF F) F.ns BL' σ' H' fr') : outsOk K F (F.mps.map fun i => getS fr' i) vs BL' H' := fun j i o h1 h2 => by
  have hi := List.mem_of_getElem? h1
  obtain ⟨w1, w2, w3⟩ := wf.mp i hi
  rw [List.getElem?_map, h1] at h2
  have h2 : getS fr' i = some o := by simpa using h2
  obtain ⟨a, e1, e2, e3⟩ := f.own_at (getS_some.mp h2) w2
  rw [q.asg i w3] at e1
  refine ⟨a, start_get.mp e1, e3.move (O := fun _ => False) .refl (fun _ z => z.elim) (fun b z => .inl (fbar_of wf hv q z)) fun z => z⟩
/-- the end of a body -/
theorem ce_of (wf : FnWf F A) (hv : vs.length = F.na) (hp : pvs.length = F.na) (q : SP' K (clF F) F.ns BL T A (vs.map some ++ List.replicate (F.ns - F.na) none) H (pvs.map some ++ List.replicate (F.ns - F.na) none) fr' σ' H') {x : PV} {v : V}
    (r : RR F.fresh K (clF F) F.ns BL F.na (vs.map some ++ List.replicate (F.ns - F.na) none) H (pvs.map some ++ List.replicate (F.ns - F.na) none) σ' H' fr' x v) : CE' K F BL vs H x (F.mps.map fun i => getS fr' i) v H' := by
  have hb : ∀ {BL'} a, fbar F (F.mps.map fun i => getS fr' i) vs BL' a → bar (clF F) BL' σ' fr' a ∨ H' a = none := fun a z => .inl (fbar_of wf hv q z)
  have nof : ∀ i a, ownAt (clF F) (vs.map some ++ List.replicate (F.ns - F.na) none) (pvs.map some ++ List.replicate (F.ns - F.na) none) i a → i < F.na ∧ vs[i]? = some (.ref a) := fun i a ⟨h1, ⟨y, h2⟩, h3⟩ => by
    have e := start_get.mp h3
    refine ⟨?_, e⟩
    have := (List.getElem?_eq_some_iff.mp e).1
    omega
  refine ⟨q.kp.mono fun a ⟨i, h1, h2⟩ => ?_, ?_⟩
  · obtain ⟨e1, e2⟩ := nof i a h2
    exact ⟨i, wf.pm i e1 h2.1, e2⟩
  cases hf : F.fresh with
  | false =>
    rw [hf] at r
    exact .inl ⟨fun z => (nomatch z), outs_of wf hv hp q q.fs, Rep.move (O := fun _ => False) .refl (fun _ z => z.elim) hb r⟩
  | true =>
    rw [hf] at r
    rcases r with ⟨r1, r2⟩ | ⟨p, r1, r2, r3, r4⟩
    · exact .inl ⟨fun _ => r1, outs_of wf hv hp q q.fs, Rep.move (O := fun _ => False) .refl (fun _ z => z.elim) hb r2⟩
    · refine .inr ⟨p, r1, ?_, outs_of wf hv hp q r3, r4.move (O := fun _ => False) .refl (fun _ z => z.elim) hb fun z => z⟩
      rcases r2 with r2 | ⟨i, hi, r2⟩
      · exact r2
      · have := (nof i p r2).1
        omega
end
/-- a def by its body's reading -/
theorem fn_of {P : Program} {w : World} {K : PySem.W.Frag} {mg : Str → Option Value} {base : Heap} {x : Str} {st : Stmt} {f : Addr} {fd : FuncData} {N ps : List Str} {k : Nat} {F : Fn} {T A : List Nat} {m : Fr → Option (Fl × Fr)} (D : C8.Fun K x x st f fd) (S : FnScope N ps (fnScope st))
    (hN : N.length = F.ns) (hps : ps.length = F.na) (wf : FnWf F A)
    (hbody : ∀ (cdv : Value) (A' : Around) (outer : List Env) (s : Shared) (H : Hp) (E : XK), Room k (A'.deeper (envOfC x (fnScope st) s.heap.objs.size f cdv)) →
      SSs (cxOf C8.CX0 P w K mg base N x (fnScope st) f cdv A' outer s H E).nox (clF F) F.ns F.na F.fresh T A (fnBody st) m) :
    FnOk P w K mg base C8.CX0 (k + 1) f fd ps (spF K F fun args => if args.length = F.na then (m (args.map some ++ List.replicate (F.ns - F.na) none)).bind fun p => match p.1 with
      | .rt v => some (v, F.mps.map fun i => getS p.2 i)
      | .nx => some (.non, F.mps.map fun i => getS p.2 i)
      | _ => none else none) := by
  refine fn0 D S (fun vs H Q E ⟨_, _, _, _, h, _⟩ => by rw [h, hps]) fun cdv A' outer s H vs Q E hr ⟨BL, pvs, r, outs, h1, h2, h3, h4, h5⟩ => ⟨_, hbody cdv A' outer s H E hr, ?_⟩
  simp only [h2, if_true] at h4
  obtain ⟨⟨fl, fr'⟩, e1, e2⟩ := Option.bind_eq_some_iff.mp h4
  have est : L2.start N vs = vs.map some ++ List.replicate (F.ns - F.na) none := by unfold L2.start; rw [hN, h1]
  rw [est]
  refine ⟨BL, _, fl, fr', h3, e1, fun σ' H' q => ?_⟩
  cases fl with
  | bk => cases e2
  | ct => cases e2
  | nx =>
    cases e2
    refine h5 _ _ (ce_of wf h1 h2 q ?_)
    cases hf : F.fresh with
    | false => exact .non
    | true => exact .inl ⟨rfl, .non⟩
  | rt y =>
    cases e2
    exact fun v rr => h5 _ _ (ce_of wf h1 h2 q rr)
theorem cal_of {P : Program} {w : World} {K : PySem.W.Frag} {mg : Str → Option Value} {base : Heap} {x : Str} {st : Stmt} {f : Addr} {fd : FuncData} {N ps : List Str} {k : Nat} {F : Fn} {T A : List Nat} {m : Fr → Option (Fl × Fr)} (D : Def K mg x st f fd) (b : Binds K fd ps []) (S : FnScope N ps (fnScope st))
    (hN : N.length = F.ns) (hps : ps.length = F.na) (wf : FnWf F A)
    (hbody : ∀ (cdv : Value) (A' : Around) (outer : List Env) (s : Shared) (H : Hp) (E : XK), Room k (A'.deeper (envOfC x (fnScope st) s.heap.objs.size f cdv)) →
      SSs (cxOf C8.CX0 P w K mg base N x (fnScope st) f cdv A' outer s H E).nox (clF F) F.ns F.na F.fresh T A (fnBody st) m) :
    Cal P w K mg base (k + 1) x (spF K F fun args => if args.length = F.na then (m (args.map some ++ List.replicate (F.ns - F.na) none)).bind fun p => match p.1 with
      | .rt v => some (v, F.mps.map fun i => getS p.2 i)
      | .nx => some (.non, F.mps.map fun i => getS p.2 i)
      | _ => none else none) [] :=
  ⟨f, fd, ps, [], fn_of D.fn S hN hps wf hbody, D.mgf, D.kp, b, .nil⟩
/-- nothing is promised -/
theorem cal_zero {P : Program} {w : World} {K : PySem.W.Frag} {mg : Str → Option Value} {base : Heap} {x : Str} {st : Stmt} {f : Addr} {fd : FuncData} {ps : List Str} {F : Fn} (D : Def K mg x st f fd) (b : Binds K fd ps []) (k : Nat) :
    Cal P w K mg base k x (spF K F fun _ => none) [] :=
  ⟨f, fd, ps, [], ⟨fun vs H Q E ⟨_, _, _, _, _, _, _, h, _⟩ => (nomatch h), fun A outer s H args us vs Q E _ _ _ _ ⟨_, _, _, _, _, _, _, h, _⟩ => (nomatch h)⟩, D.mgf, D.kp, b, .nil⟩
end EV

set_option linter.all false
set_option Elab.async false
set_option maxRecDepth 100000
/-! Ev14: a call. -/
namespace EV
open PySem L2 PySem.Spec PyProof.Rows C8

def amM : Am → Option Nat
  | .m i => some i
  | _ => none
/-- where the changed arguments stand -/
def posM : List (Option Nat) → Nat → List Nat
  | [], _ => []
  | none :: ms, k => posM ms (k + 1)
  | some _ :: ms, k => k :: posM ms (k + 1)
theorem posM_ge : ∀ {ms : List (Option Nat)} {k i : Nat}, i ∈ posM ms k → k ≤ i
  | [], _, _, h => absurd h (by simp [posM])
  | none :: ms, k, i, h => Nat.le_of_succ_le (posM_ge (ms := ms) h)
  | some _ :: ms, k, i, h => by
    rcases List.mem_cons.mp h with h | h
    · omega
    · exact Nat.le_of_succ_le (posM_ge h)
theorem posM_mem : ∀ {ms : List (Option Nat)} {k i : Nat}, i ∈ posM ms k ↔ ∃ s, k ≤ i ∧ ms[i - k]? = some (some s)
  | [], k, i => by simp [posM]
  | none :: ms, k, i => by
    unfold posM
    rw [posM_mem]
    constructor
    · rintro ⟨s, h1, h2⟩
      refine ⟨s, by omega, ?_⟩
      rw [show i - k = (i - (k + 1)) + 1 by omega]; simpa using h2
    · rintro ⟨s, h1, h2⟩
      by_cases e : i = k
      · subst e; simp at h2
      · refine ⟨s, by omega, ?_⟩
        rw [show i - k = (i - (k + 1)) + 1 by omega] at h2; simpa using h2
  | some s0 :: ms, k, i => by
    unfold posM
    rw [List.mem_cons, posM_mem]
    constructor
    · rintro (h | ⟨s, h1, h2⟩)
      · subst h; exact ⟨s0, Nat.le_refl _, by simp⟩
      · refine ⟨s, by omega, ?_⟩
        rw [show i - k = (i - (k + 1)) + 1 by omega]; simpa using h2
    · rintro ⟨s, h1, h2⟩
      by_cases e : i = k
      · exact .inl e
      · refine .inr ⟨s, by omega, ?_⟩
        rw [show i - k = (i - (k + 1)) + 1 by omega] at h2; simpa using h2
theorem put_len : ∀ {ms : List (Option Nat)} {os : List (Option PV)} {fr : Fr}, (putM ms os fr).length = fr.length
  | [], _, _ => by simp [putM]
  | none :: ms, os, fr => by unfold putM; exact put_len
  | some _ :: ms, [], fr => by simp [putM]
  | some i :: ms, o :: os, fr => by unfold putM; rw [put_len, List.length_set]
theorem put_off : ∀ {ms : List (Option Nat)} {os : List (Option PV)} {fr : Fr} {j : Nat}, (∀ i : Nat, ms[i]? ≠ some (some j)) → (putM ms os fr)[j]? = fr[j]?
  | [], _, _, _, _ => by simp [putM]
  | none :: ms, os, fr, j, h => by unfold putM; exact put_off fun i e => h (i + 1) (by simpa using e)
  | some _ :: ms, [], fr, j, h => by simp [putM]
  | some s :: ms, o :: os, fr, j, h => by
    unfold putM
    rw [put_off fun i e => h (i + 1) (by simpa using e), List.getElem?_set_ne fun e => h 0 (by simp [e])]
theorem put_at : ∀ {ms : List (Option Nat)} {os : List (Option PV)} {fr : Fr} {k r i s : Nat} {o : Option PV}, (∀ a b j : Nat, ms[a]? = some (some j) → ms[b]? = some (some j) → a = b) → (posM ms k)[r]? = some i → ms[i - k]? = some (some s) → os[r]? = some o → s < fr.length → (putM ms os fr)[s]? = some o
  | [], _, _, _, _, _, _, _, _, h, _, _, _ => by simp [posM] at h
  | none :: ms, os, fr, k, r, i, s, o, nd, h1, h2, h3, h4 => by
    unfold posM at h1
    have hk := posM_ge (List.mem_of_getElem? h1)
    unfold putM
    refine put_at (k := k + 1) (r := r) (i := i) (fun a b j e1 e2 => ?_) h1 ?_ h3 h4
    · have := nd (a + 1) (b + 1) j (by simpa using e1) (by simpa using e2); omega
    · rw [show i - k = (i - (k + 1)) + 1 by omega] at h2; simpa using h2
  | some s0 :: ms, [], fr, k, r, i, s, o, nd, h1, h2, h3, h4 => by simp at h3
  | some s0 :: ms, o0 :: os, fr, k, 0, i, s, o, nd, h1, h2, h3, h4 => by
    unfold posM at h1
    have e : k = i := by simpa using h1
    subst e
    have e2 : s0 = s := by simpa using h2
    subst e2
    have e3 : o0 = o := by simpa using h3
    subst e3
    unfold putM
    rw [put_off fun a e => ?_, List.getElem?_set_self h4]
    have := nd 0 (a + 1) s0 (by simp) (by simpa using e)
    omega
  | some s0 :: ms, o0 :: os, fr, k, r + 1, i, s, o, nd, h1, h2, h3, h4 => by
    unfold posM at h1
    have h1' : (posM ms (k + 1))[r]? = some i := by simpa using h1
    have hk := posM_ge (List.mem_of_getElem? h1')
    unfold putM
    refine put_at (k := k + 1) (r := r) (i := i) (fun a b j e1 e2 => ?_) h1' ?_ (by simpa using h3) (by rw [List.length_set]; exact h4)
    · have := nd (a + 1) (b + 1) j (by simpa using e1) (by simpa using e2); omega
    · rw [show i - k = (i - (k + 1)) + 1 by omega] at h2; simpa using h2
theorem fill_get : ∀ {ms : List (Option Nat)} {xs ys : List PV} {fr : Fr}, fillM ms xs fr = some ys → ys.length = ms.length ∧ xs.length = ms.length ∧ ∀ i : Nat, (ms[i]? = some none → ys[i]? = xs[i]?) ∧ ∀ j, ms[i]? = some (some j) → ∃ y, getS fr j = some y ∧ ys[i]? = some y
  | [], [], ys, fr, h => by
    cases h
    exact ⟨rfl, rfl, fun i => ⟨fun _ => rfl, fun j e => by simp at e⟩⟩
  | [], _ :: _, _, _, h => by cases h
  | none :: ms, [], _, _, h => by cases h
  | some _ :: ms, [], _, _, h => by cases h
  | none :: ms, x :: xs, ys, fr, h => by
    obtain ⟨zs, h1, h2⟩ := Option.map_eq_some_iff.mp h
    subst h2
    obtain ⟨l1, l2, g⟩ := fill_get h1
    refine ⟨by simp [l1], by simp [l2], fun i => ?_⟩
    cases i with
    | zero => exact ⟨fun _ => rfl, fun j e => by simp at e⟩
    | succ i => simpa using g i
  | some s :: ms, x :: xs, ys, fr, h => by
    obtain ⟨v, h0, h⟩ := Option.bind_eq_some_iff.mp h
    obtain ⟨zs, h1, h2⟩ := Option.map_eq_some_iff.mp h
    subst h2
    obtain ⟨l1, l2, g⟩ := fill_get h1
    refine ⟨by simp [l1], by simp [l2], fun i => ?_⟩
    cases i with
    | zero => exact ⟨fun e => by simp at e, fun j e => by simp at e; subst e; exact ⟨v, h0, rfl⟩⟩
    | succ i => simpa using g i
theorem args_get {K : PySem.W.Frag} {B : Addr → Prop} {σ : L2.St} {H : Hp} {fr : Fr} : ∀ {ams : List Am} {xs : List PV} {vs : List V}, ArgsR K B σ H fr ams xs vs → ∀ {i : Nat} {am : Am}, ams[i]? = some am → ∃ x u, xs[i]? = some x ∧ vs[i]? = some u ∧ ArgR K B σ H fr am x u
  | _, _, _, .nil, _, _, h => by simp at h
  | _, _, _, .cons r _, 0, _, h => by simp at h; subst h; exact ⟨_, _, rfl, rfl, r⟩
  | _, _, _, .cons _ t, i + 1, _, h => by simpa using args_get t (by simpa using h)

/-- what is asked of a call's arguments -/
structure CallWf (F : Fn) (cl : Nat → Cls) (ams : List Am) : Prop where
  len : ams.length = F.na
  ix : ∀ (i : Nat) am, ams[i]? = some am → match clF F i with
    | .P => am = .v
    | .L => am = .v ∨ ∃ j, am = .l j
    | .M => ∃ j, am = .m j ∧ cl j = .M
  mps : F.mps = posM (ams.map amM) 0
  nd : ∀ i i' j : Nat, ams[i]? = some (.m j) → ams[i']? = some (.m j) → i = i'
  lm : ∀ i i' j j' : Nat, ams[i]? = some (.l j) → ams[i']? = some (.m j') → j ≠ j'

section
variable {K : PySem.W.Frag} {F : Fn} {cl : Nat → Cls} {n : Nat} {BL : Addr → Prop} {σ : L2.St} {H H1 H2 : Hp} {fr fr1 : Fr} {T A : List Nat} {ams : List Am} {xs pvs : List PV} {vs : List V} {outs : List (Option PV)} {r : PV} {v : V}
theorem amM_at {i j : Nat} : (ams.map amM)[i]? = some (some j) ↔ ams[i]? = some (.m j) := by
  rw [List.getElem?_map]
  cases ams[i]? with
  | none => simp
  | some am => cases am <;> simp [amM]
theorem amM_no {i : Nat} {am : Am} (h : ams[i]? = some am) (hm : ∀ j, am ≠ .m j) : (ams.map amM)[i]? = some none := by
  rw [List.getElem?_map, h]
  cases am with
  | m j => exact absurd rfl (hm j)
  | _ => rfl
theorem CallWf.mem (w : CallWf F cl ams) {i : Nat} : i ∈ F.mps ↔ ∃ j, ams[i]? = some (.m j) := by
  rw [w.mps, posM_mem]
  constructor
  · rintro ⟨s, _, h⟩; exact ⟨s, amM_at.mp (by simpa using h)⟩
  · rintro ⟨s, h⟩; exact ⟨s, Nat.zero_le _, by simpa using amM_at.mpr h⟩
/-- the changed arguments are the caller's own -/
theorem arg_own (w : CallWf F cl ams) (p : AP' K cl n BL T ams σ H fr xs fr1 vs H1) (hf : fillM (ams.map amM) xs fr1 = some pvs) {i j : Nat} (h : ams[i]? = some (.m j)) : ∃ a y, vs[i]? = some (.ref a) ∧ ownAt cl σ fr1 j a ∧ fr1[j]? = some (some y) ∧ pvs[i]? = some y := by
  obtain ⟨x, u, h1, h2, h3⟩ := args_get p.res h
  obtain ⟨_, _, g⟩ := fill_get hf
  obtain ⟨y, h4, h5⟩ := (g i).2 j (amM_at.mpr h)
  have hc : cl j = .M := by
    have := w.ix i _ h
    cases q : clF F i <;> rw [q] at this
    · cases this
    · rcases this with z | ⟨_, z⟩ <;> cases z
    · obtain ⟨j', z, z2⟩ := this; cases z; exact z2
  obtain ⟨a, e1, e2, e3⟩ := p.fs.own_at (getS_some.mp h4) hc
  have h3 : σ[j]? = some (some u) := h3
  rw [e1] at h3; cases h3
  exact ⟨a, y, h2, e2, getS_some.mp h4, h5⟩
/-- the callee's barred addresses -/
def BLe (K : PySem.W.Frag) (F : Fn) (cl : Nat → Cls) (BL : Addr → Prop) (σ : L2.St) (fr1 : Fr) (vs : List V) (a : Addr) : Prop := bar cl BL σ fr1 a ∧ ¬ ∃ i, i ∈ F.mps ∧ vs[i]? = some (.ref a)
theorem call_bar (w : CallWf F cl ams) (wl : F.na ≤ F.ns) (p : AP' K cl n BL T ams σ H fr xs fr1 vs H1) (hf : fillM (ams.map amM) xs fr1 = some pvs) :
    bar (clF F) (BLe K F cl BL σ fr1 vs) (vs.map some ++ List.replicate (F.ns - F.na) none) (pvs.map some ++ List.replicate (F.ns - F.na) none) = bar cl BL σ fr1 := by
  funext a
  apply propext
  constructor
  · rintro (h | ⟨i, h1, ⟨y, h2⟩, h3⟩)
    · exact h.1
    · have e3 := start_get.mp h3
      have hi : i < ams.length := by rw [← p.res.length.2]; exact (List.getElem?_eq_some_iff.mp e3).1
      have := w.ix i _ (List.getElem?_eq_getElem hi)
      rw [h1] at this
      obtain ⟨j, hj, _⟩ := this
      obtain ⟨b, y', q1, q2, _⟩ := arg_own w p hf (i := i) (j := j) (by rw [List.getElem?_eq_getElem hi, hj])
      rw [e3] at q1; cases q1
      exact .inr ⟨j, q2⟩
  · intro h
    by_cases e : ∃ i, i ∈ F.mps ∧ vs[i]? = some (.ref a)
    · obtain ⟨i, hi, hv⟩ := e
      obtain ⟨j, hj⟩ := w.mem.mp hi
      obtain ⟨b, y, q1, q2, q3, q4⟩ := arg_own w p hf hj
      refine .inr ⟨i, ?_, ⟨y, start_get.mpr q4⟩, start_get.mpr hv⟩
      have := w.ix i _ hj
      cases q : clF F i <;> rw [q] at this
      all_goals first | rfl | (cases this; done) | (rcases this with z | ⟨_, z⟩ <;> cases z)
    · exact .inl ⟨h, e⟩
theorem call_start (w : CallWf F cl ams) (wl : F.na ≤ F.ns) (p : AP' K cl n BL T ams σ H fr xs fr1 vs H1) (hf : fillM (ams.map amM) xs fr1 = some pvs) :
    FS K (clF F) F.ns (BLe K F cl BL σ fr1 vs) (vs.map some ++ List.replicate (F.ns - F.na) none) H1 (pvs.map some ++ List.replicate (F.ns - F.na) none) := by
  have hb := call_bar w wl p hf
  obtain ⟨l1, l2, g⟩ := fill_get hf
  have lv := p.res.length.2
  rw [List.length_map] at l1
  have at_ : ∀ (i : Nat) x, pvs[i]? = some x → ∃ am u, ams[i]? = some am ∧ vs[i]? = some u ∧ (match am with
      | .v => Rep K H1 (bar cl BL σ fr1) x u
      | .l j => fr1[j]? = some (some x) ∧ σ[j]? = some (some u)
      | .m j => ∃ a, u = .ref a ∧ ownAt cl σ fr1 j a ∧ fr1[j]? = some (some x)) := fun i x hx => by
    have hi : i < ams.length := by rw [← l1]; exact (List.getElem?_eq_some_iff.mp hx).1
    obtain ⟨y, u, h1, h2, h3⟩ := args_get p.res (List.getElem?_eq_getElem hi)
    refine ⟨ams[i], u, List.getElem?_eq_getElem hi, h2, ?_⟩
    cases q : ams[i] with
    | v =>
      rw [q] at h3
      have := (g i).1 (amM_no (List.getElem?_eq_getElem hi) (by rw [q]; exact fun _ z => nomatch z))
      rw [hx, h1] at this; cases this
      exact h3
    | l j =>
      rw [q] at h3
      have := (g i).1 (amM_no (List.getElem?_eq_getElem hi) (by rw [q]; exact fun _ z => nomatch z))
      rw [hx, h1] at this; cases this
      exact h3
    | m j =>
      obtain ⟨a, y', q1, q2, q3, q4⟩ := arg_own w p hf (i := i) (j := j) (by rw [List.getElem?_eq_getElem hi, q])
      rw [h2] at q1; cases q1
      rw [hx] at q4; cases q4
      exact ⟨a, rfl, q2, q3⟩
  have own_ : ∀ i a, ownAt (clF F) (vs.map some ++ List.replicate (F.ns - F.na) none) (pvs.map some ++ List.replicate (F.ns - F.na) none) i a → ∃ j, ams[i]? = some (.m j) ∧ ownAt cl σ fr1 j a ∧ vs[i]? = some (.ref a) := fun i a ⟨h1, ⟨y, h2⟩, h3⟩ => by
    obtain ⟨am, u, q1, q2, q3⟩ := at_ i y (start_get.mp h2)
    have e3 := start_get.mp h3
    rw [q2] at e3; cases e3
    have := w.ix i _ q1
    rw [h1] at this
    obtain ⟨j, hj, _⟩ := this
    subst hj
    obtain ⟨b, z1, z2, z3⟩ := q3
    cases z1
    exact ⟨j, q1, z2, q2⟩
  refine ⟨by rw [List.length_append, List.length_map, List.length_replicate, lv, w.len]; omega, by rw [List.length_append, List.length_map, List.length_replicate, l1, w.len]; omega, fun i x hx => ?_, fun i j a h1 h2 => ?_, fun i a h => ?_, fun i j a h1 h2 => ?_, fun a h => p.fs.bar_tr a h.1⟩
  · obtain ⟨am, u, q1, q2, q3⟩ := at_ i x (start_get.mp hx)
    refine ⟨u, start_get.mpr q2, ?_⟩
    rw [hb]
    have := w.ix i _ q1
    cases q : clF F i with
    | P => rw [q] at this; subst this; exact q3
    | L =>
      rw [q] at this
      rcases this with z | ⟨j, z⟩
      · subst z; exact Rep.top q3
      · subst z
        obtain ⟨v', e1, e2⟩ := p.fs.repT q3.1
        rw [q3.2] at e1; cases e1
        exact e2
    | M =>
      rw [q] at this
      obtain ⟨j, z, _⟩ := this
      subst z
      obtain ⟨a, z1, z2, z3⟩ := q3
      subst z1
      obtain ⟨b, e1, e2, e3⟩ := p.fs.own_at z3 z2.1
      rw [z2.2.2] at e1; cases e1
      exact ⟨a, rfl, e3⟩
  · obtain ⟨j1, a1, a2, _⟩ := own_ i a h1
    obtain ⟨j2, b1, b2, _⟩ := own_ j a h2
    have := p.fs.inj j1 j2 a a2 b2
    subst this
    exact w.nd i j j1 a1 b1
  · obtain ⟨j, a1, a2, a3⟩ := own_ i a h
    exact fun z => z.2 ⟨i, w.mem.mpr ⟨j, a1⟩, a3⟩
  · obtain ⟨j2, b1, b2, _⟩ := own_ j a h2
    obtain ⟨z1, ⟨x, z2, z3⟩, z4⟩ := h1
    obtain ⟨am, u, q1, q2, q3⟩ := at_ i x (start_get.mp z2)
    have e4 := start_get.mp z4
    rw [q2] at e4; cases e4
    have := w.ix i _ q1
    rw [z1] at this
    rcases this with z | ⟨j1, z⟩
    · subst z
      cases x <;> first | (simp [isMut] at z3; done) | skip
      · cases (show Rep K H1 _ _ _ from q3) with
        | lst nb _ _ _ => exact nb (.inr ⟨j2, b2⟩)
      · cases (show Rep K H1 _ _ _ from q3) with
        | dct nb _ _ _ => exact nb (.inr ⟨j2, b2⟩)
      · cases (show Rep K H1 _ _ _ from q3)
    · subst z
      have hne := w.lm i j j1 j2 q1 b1
      cases hc : cl j1 with
      | M => exact hne (p.fs.inj j1 j2 a ⟨hc, ⟨x, q3.1⟩, q3.2⟩ b2)
      | L => exact p.fs.lsp j1 j2 a ⟨hc, ⟨x, q3.1, z3⟩, q3.2⟩ b2
      | P =>
        obtain ⟨v', e1, e2⟩ := p.fs.slot j1 x q3.1
        rw [q3.2] at e1; cases e1
        rw [hc] at e2
        cases x <;> first | (simp [isMut] at z3; done) | skip
        · cases (show Rep K H1 _ _ _ from e2) with
          | lst nb _ _ _ => exact nb (.inr ⟨j2, b2⟩)
        · cases (show Rep K H1 _ _ _ from e2) with
          | dct nb _ _ _ => exact nb (.inr ⟨j2, b2⟩)
        · cases (show Rep K H1 _ _ _ from e2)
/-- slots of the changed arguments -/
def mSlots (ams : List Am) : List Nat := ams.filterMap amM
theorem mSlots_mem {j : Nat} : j ∈ mSlots ams ↔ ∃ i : Nat, ams[i]? = some (.m j) := by
  unfold mSlots
  rw [List.mem_filterMap]
  constructor
  · rintro ⟨am, h1, h2⟩
    obtain ⟨i, hi⟩ := List.getElem?_of_mem h1
    refine ⟨i, ?_⟩
    cases am <;> simp [amM] at h2
    subst h2
    exact hi
  · rintro ⟨i, h⟩
    exact ⟨_, List.mem_of_getElem? h, rfl⟩
/-- the caller's slots behind a call -/
theorem put_cases (w : CallWf F cl ams) (lo : outs.length = F.mps.length) (lf : fr1.length = n) (hfr : ∀ i j : Nat, ams[i]? = some (.m j) → j < n) {s : Nat} :
    (s ∉ mSlots ams ∧ (putM (ams.map amM) outs fr1)[s]? = fr1[s]?) ∨ ∃ (i r : Nat) (o : Option PV), ams[i]? = some (.m s) ∧ F.mps[r]? = some i ∧ outs[r]? = some o ∧ (putM (ams.map amM) outs fr1)[s]? = some o := by
  by_cases h : s ∈ mSlots ams
  · obtain ⟨i, hi⟩ := mSlots_mem.mp h
    obtain ⟨r, hr⟩ := List.getElem?_of_mem (w.mem.mpr ⟨s, hi⟩)
    have hr' : r < outs.length := by rw [lo]; exact (List.getElem?_eq_some_iff.mp hr).1
    refine .inr ⟨i, r, outs[r], hi, hr, List.getElem?_eq_getElem hr', put_at (k := 0) (r := r) (i := i) (fun a b j e1 e2 => w.nd a b j (amM_at.mp e1) (amM_at.mp e2)) (by rw [← w.mps]; exact hr) (by simpa using amM_at.mpr hi) (List.getElem?_eq_getElem hr') (by rw [lf]; exact hfr i s hi)⟩
  · exact .inl ⟨h, put_off fun i e => h (mSlots_mem.mpr ⟨i, amM_at.mp e⟩)⟩
theorem call_fs (w : CallWf F cl ams) (wl : F.na ≤ F.ns) (p : AP' K cl n BL T ams σ H fr xs fr1 vs H1) (hf : fillM (ams.map amM) xs fr1 = some pvs) (lo : outs.length = F.mps.length) {BLx BLy : Addr → Prop} (hx : ∀ a, BLx a → BL a ∨ (H1 a = none ∧ H2 a ≠ none))
    (hy : ∀ a, BLe K F cl BL σ fr1 vs a → BLy a) (hxy : ∀ a, BLx a → BLy a ∨ BL a) (kp : Kp H1 H2 (fun a => ∃ i, i ∈ F.mps ∧ vs[i]? = some (.ref a))) (oo : outsOk K F outs vs BLy H2) :
    FS K cl n BLx σ H2 (putM (ams.map amM) outs fr1) ∧ (∀ a, bar cl BLx σ (putM (ams.map amM) outs fr1) a → fbar F outs vs BLy a) ∧ ∀ (i : Nat) y, (putM (ams.map amM) outs fr1)[i]? = some (some y) → ∃ y', fr1[i]? = some (some y') := by
  have f := p.fs
  have hfr : ∀ i j : Nat, ams[i]? = some (.m j) → j < n := fun i j h => by
    obtain ⟨a, y, _, _, q, _⟩ := arg_own w p hf h
    rw [← f.lf]; exact (List.getElem?_eq_some_iff.mp q).1
  have pc := fun s => put_cases (s := s) w lo f.lf hfr
  have margs : ∀ {i j : Nat} {a : Addr}, ams[i]? = some (.m j) → vs[i]? = some (.ref a) → ownAt cl σ fr1 j a := fun {i j a} h1 h2 => by
    obtain ⟨b, y, q1, q2, _⟩ := arg_own w p hf h1
    rw [h2] at q1; cases q1; exact q2
  have hO : ∀ a, (∃ i, i ∈ F.mps ∧ vs[i]? = some (.ref a)) → bar cl BL σ fr1 a := fun a ⟨i, h1, h2⟩ => by
    obtain ⟨j, hj⟩ := w.mem.mp h1
    exact .inr ⟨j, margs hj h2⟩
  have le : ∀ (s : Nat) y, (putM (ams.map amM) outs fr1)[s]? = some (some y) → ∃ y', fr1[s]? = some (some y') := fun s y h => by
    rcases pc s with ⟨_, e⟩ | ⟨i, r, o, h1, h2, h3, e⟩
    · exact ⟨y, by rw [← e]; exact h⟩
    · obtain ⟨a, y', _, _, q, _⟩ := arg_own w p hf h1
      exact ⟨y', q⟩
  have own2 : ∀ {s a}, ownAt cl σ (putM (ams.map amM) outs fr1) s a → ownAt cl σ fr1 s a := fun z => z.of le
  have offM : ∀ {s a}, s ∉ mSlots ams → ownAt cl σ fr1 s a → ¬ ∃ i, i ∈ F.mps ∧ vs[i]? = some (.ref a) := fun {s a} hs h ⟨i, h1, h2⟩ => by
    obtain ⟨j, hj⟩ := w.mem.mp h1
    have := f.inj s j a h (margs hj h2)
    exact hs (mSlots_mem.mpr ⟨i, this ▸ hj⟩)
  have hb : ∀ a, bar cl BLx σ (putM (ams.map amM) outs fr1) a → bar cl BL σ fr1 a ∨ H1 a = none := fun a z => by
    rcases z with z | ⟨j, z⟩
    · exact (hx a z).imp .inl (·.1)
    · exact .inl (.inr ⟨j, own2 z⟩)
  have hfb : ∀ a, bar cl BLx σ (putM (ams.map amM) outs fr1) a → fbar F outs vs BLy a := fun a z => by
    have bl : BL a → fbar F outs vs BLy a := fun h => .inl (hy a ⟨.inl h, fun ⟨i, h1, h2⟩ => by
      obtain ⟨j, hj⟩ := w.mem.mp h1
      exact f.sep j a (margs hj h2) h⟩)
    rcases z with z | ⟨s, z⟩
    · exact (hxy a z).elim .inl bl
    · rcases pc s with ⟨hs, e⟩ | ⟨i, r, o, h1, h2, h3, e⟩
      · exact .inl (hy a ⟨.inr ⟨s, own2 z⟩, offM hs (own2 z)⟩)
      · obtain ⟨c1, ⟨y, c2⟩, c3⟩ := id z
        rw [e] at c2; cases c2
        obtain ⟨b, y', q1, q2, _⟩ := arg_own w p hf h1
        have e9 := q2.2.2
        rw [c3] at e9; cases e9
        exact .inr ⟨r, i, y, h2, h3, q1⟩
  refine ⟨⟨f.lσ, by rw [put_len]; exact f.lf, fun s y hs => ?_, fun i j a h1 h2 => f.inj i j a (own2 h1) (own2 h2), fun i a h1 h2 => ?_, fun i j a h1 h2 => ?_, fun a h => ?_⟩, hfb, le⟩
  · rcases pc s with ⟨hs', e⟩ | ⟨i, r, o, h1, h2, h3, e⟩
    · rw [e] at hs
      obtain ⟨v, e1, e2⟩ := f.slot s y hs
      refine ⟨v, e1, ?_⟩
      cases hc : cl s with
      | P => rw [hc] at e2; exact Rep.move kp hO hb e2
      | L =>
        rw [hc] at e2
        refine RepT.move kp hO hb (fun a ea hm ⟨i, h1, h2⟩ => ?_) e2
        obtain ⟨j, hj⟩ := w.mem.mp h1
        exact f.lsp s j a ⟨hc, ⟨y, hs, hm⟩, by rw [e1, ea]⟩ (margs hj h2)
      | M =>
        rw [hc] at e2
        obtain ⟨a, ea, q⟩ := e2
        exact ⟨a, ea, q.move kp hO hb (offM hs' ⟨hc, ⟨y, hs⟩, by rw [e1, ea]⟩)⟩
    · rw [e] at hs; cases hs
      obtain ⟨a, y', q1, q2, q3, q4⟩ := arg_own w p hf h1
      obtain ⟨b, z1, z2⟩ := oo r i y h2 h3
      rw [q1] at z1; cases z1
      refine ⟨.ref a, q2.2.2, ?_⟩
      rw [q2.1]
      exact ⟨a, rfl, z2.move (O := fun _ => False) .refl (fun _ z => z.elim) (fun c z => .inl (hfb c z)) fun z => z⟩
  · rcases hx a h2 with z | ⟨z, _⟩
    · exact f.sep i a (own2 h1) z
    · exact f.bar_tr a (.inr ⟨i, own2 h1⟩) z
  · have h1' : lenAt cl σ fr1 i a := by
      obtain ⟨c1, ⟨y, c2, c3⟩, c4⟩ := h1
      rcases pc i with ⟨_, e⟩ | ⟨i', r, o, h1, h2, h3, e⟩
      · rw [e] at c2; exact ⟨c1, ⟨y, c2, c3⟩, c4⟩
      · obtain ⟨_, _, _, q2, _⟩ := arg_own w p hf h1
        rw [q2.1] at c1; cases c1
    exact f.lsp i j a h1' (own2 h2)
  · rcases hx a h with z | ⟨_, z⟩
    · exact fun e => f.blt a z (kp.tr a e)
    · exact z
end

section
variable {X : Cx} {cl : Nat → Cls} {n : Nat} {T : List Nat} {ams : List Am} {e : Expr} {es : List Expr} {ms : Fr → Option (List PV × Fr)} {pos : Pos}
def callM (ams : List Am) (R : List PV → Option (PV × List (Option PV))) (ms : Fr → Option (List PV × Fr)) : Fr → Option (PV × Fr) := fun fr => (ms fr).bind fun p => (fillM (ams.map amM) p.1 p.2).bind fun vs => (R vs).map fun r => (r.1, putM (ams.map amM) r.2 p.2)
theorem se_call {x : Str} {p : Pos} {F : Fn} {R : List PV → Option (PV × List (Option PV))} {k j : Nat} (c : Cal X.prog X.w X.K X.mg X.base k x (spF X.K F R) []) (hr : Room j X.A) (hk : k ≤ j) (hg : Gl X x) (ha : SA X cl n T ams (e :: es) ms) (w : CallWf F cl ams) (wl : F.na ≤ F.ns)
    (lR : ∀ vs r outs, R vs = some (r, outs) → outs.length = F.mps.length) (hdb : (x == ("__debug__" : Str)) = false) (he : starEach (e :: es) X.env = (false, eval e X.env) :: starEach es X.env) (hpl : (backTo pos (starEach es X.env)).any (·.1) = false) :
    SE X cl n (T ++ mSlots ams) (if F.fresh = true then .fresh else .val) (.Call (.Name x p) (e :: es) [] pos) (callM ams R ms) :=
  PE.weak (pe_c c hr hk hg ha hdb he hpl) fun σ H Q ⟨BL, fr, z, fr2, f, eq, kk⟩ => by
    obtain ⟨⟨xs, fr1⟩, e1, e2⟩ := Option.bind_eq_some_iff.mp eq
    obtain ⟨pvs, e3, e4⟩ := Option.bind_eq_some_iff.mp e2
    obtain ⟨⟨r, outs⟩, e5, e6⟩ := Option.map_eq_some_iff.mp e4
    cases e6
    refine ⟨BL, fr, xs, fr1, f, e1, fun vs H1 p => ?_⟩
    have lo := lR _ _ _ e5
    have hv : vs.length = F.na := by rw [p.res.length.2, w.len]
    refine ⟨BLe X.K F cl BL σ fr1 vs, pvs, r, outs, by rw [List.append_nil]; exact hv, by have := (fill_get e3).1; rw [List.length_map] at this; rw [this, w.len], by rw [List.append_nil]; exact call_start w wl p e3, e5, fun v H2 ce => kk v H2 ?_⟩
    rw [List.append_nil] at ce
    have kpT : Kp H H2 (ownT cl σ fr (T ++ mSlots ams)) := (p.kp.mono fun _ h => ownT.app (.inl h)).trans ce.kp fun a ⟨i, h1, h2⟩ => by
      obtain ⟨j, hj⟩ := w.mem.mp h1
      obtain ⟨b, y, q1, q2, _⟩ := arg_own w p e3 hj
      rw [h2] at q1; cases q1
      exact .inl ⟨j, List.mem_append_right _ (mSlots_mem.mpr ⟨i, hj⟩), q2.of p.le⟩
    have hfr : ∀ i j : Nat, ams[i]? = some (.m j) → j < n := fun i j h => by
      obtain ⟨a, y, _, _, q, _⟩ := arg_own w p e3 h
      rw [← p.fs.lf]; exact (List.getElem?_eq_some_iff.mp q).1
    have tch : ∀ i, i ∉ T ++ mSlots ams → (putM (ams.map amM) outs fr1)[i]? = fr[i]? := fun i hi => by
      rw [List.mem_append, not_or] at hi
      rw [← p.tch i hi.1]
      exact put_off fun i' e => hi.2 (mSlots_mem.mpr ⟨i', amM_at.mp e⟩)
    have leT : ∀ {fr2 : Fr}, (∀ (i : Nat) y, fr2[i]? = some (some y) → ∃ y', fr1[i]? = some (some y')) → ∀ (i : Nat) y, fr2[i]? = some (some y) → ∃ y', fr[i]? = some (some y') := fun le i y h => by
      obtain ⟨y', h'⟩ := le i y h
      exact p.le i y' h'
    rcases ce.res with ⟨rm, oo, rr⟩ | ⟨q, rfl, hq, oo, tp⟩
    · obtain ⟨f2, hb, le⟩ := call_fs w wl p e3 lo (BLx := BL) (fun a z => .inl z) (fun a z => z) (fun a z => .inr z) ce.kp oo
      have rr2 : Rep X.K H2 (bar cl BL σ (putM (ams.map amM) outs fr1)) r v := Rep.move (O := fun _ => False) .refl (fun _ z => z.elim) (fun a z => .inl (hb a z)) rr
      refine ⟨f2, kpT, leT le, tch, ?_⟩
      by_cases hF : F.fresh = true
      · rw [if_pos hF]; exact .inl ⟨rm hF, rr2⟩
      · rw [if_neg hF]; exact rr2
    · have hq2 : H2 q ≠ none := tp.ne_none
      obtain ⟨f2, hb, le⟩ := call_fs w wl p e3 lo (BLx := fun a => BL a ∨ a = q) (fun a z => z.imp id fun e => e ▸ ⟨hq, hq2⟩) (fun a z => .inl z) (fun a z => z.elim .inr fun e => .inl (.inr e)) ce.kp oo
      have tp2 : Top X.K H2 (bar cl (fun a => BL a ∨ a = q) σ (putM (ams.map amM) outs fr1)) q r := tp.move (O := fun _ => False) .refl (fun _ z => z.elim) (fun a z => .inl (hb a z)) fun z => z
      have ep : EP' X.K cl n BL (T ++ mSlots ams) .fresh σ H fr r (putM (ams.map amM) outs fr1) (.ref q) H2 := ⟨f2.less fun a z => .inl z, kpT, leT le, tch, .inr ⟨q, rfl, p.kp.tr q hq, f2, tp2⟩⟩
      by_cases hF : F.fresh = true
      · rw [if_pos hF]; exact ep
      · rw [if_neg hF]; exact ep.weak f rfl
end
end EV

set_option linter.all false
set_option Elab.async false
set_option maxRecDepth 100000
/-! Ev15: objects changed in place; several targets. -/
namespace EV
open PySem L2 PySem.Spec PyProof.Rows

section
variable {K : PySem.W.Frag} {cl : Nat → Cls} {n : Nat} {BL : Addr → Prop} {σ σ' : L2.St} {H H' H1 H2 : Hp} {fr fr' fr1 : Fr} {T T' : List Nat} {x y : PV} {u : V} {i : Nat} {a : Addr} {md : Md}
theorem own_upd_iff (h : ownAt cl σ fr i a) {y : PV} (j : Nat) (b : Addr) : ownAt cl σ (fr.set i (some y)) j b ↔ ownAt cl σ fr j b := by
  have hi : i < fr.length := by
    obtain ⟨x, e⟩ := h.2.1
    exact (List.getElem?_eq_some_iff.mp e).1
  unfold ownAt
  by_cases e : i = j
  · subst e
    constructor
    · rintro ⟨h1, _, h3⟩; exact ⟨h1, h.2.1, h3⟩
    · rintro ⟨h1, _, h3⟩; exact ⟨h1, ⟨y, by rw [set_get, if_pos rfl, if_pos hi]⟩, h3⟩
  · rw [List.getElem?_set_ne e]
theorem bar_upd (h : ownAt cl σ fr i a) {y : PV} : bar cl BL σ (fr.set i (some y)) = bar cl BL σ fr := by
  funext b
  apply propext
  unfold bar
  exact or_congr Iff.rfl (exists_congr fun j => own_upd_iff h j b)
/-- an object of the frame's own is changed -/
theorem fs_upd (f : FS K cl n BL σ H fr) (h : ownAt cl σ fr i a) (k : Kp H H' (· = a)) (t : Top K H' (bar cl BL σ fr) a y) : FS K cl n BL σ H' (fr.set i (some y)) := by
  have hb := bar_upd (BL := BL) (y := y) h
  have hO : ∀ b, b = a → bar cl BL σ fr b := fun b e => .inr ⟨i, e ▸ h⟩
  have hB : ∀ b, bar cl BL σ (fr.set i (some y)) b → bar cl BL σ fr b ∨ H b = none := fun b z => .inl (by rwa [hb] at z)
  have hi : i < fr.length := by
    obtain ⟨x, e⟩ := h.2.1
    exact (List.getElem?_eq_some_iff.mp e).1
  refine ⟨f.lσ, by rw [List.length_set]; exact f.lf, fun j x hj => ?_, fun j k b h1 h2 => f.inj j k b ((own_upd_iff h j b).mp h1) ((own_upd_iff h k b).mp h2), fun j b h1 => f.sep j b ((own_upd_iff h j b).mp h1), fun j k b h1 h2 => ?_, fun b z e => f.blt b z (k.tr b e)⟩
  · by_cases e : i = j
    · subst e
      rw [set_get, if_pos rfl, if_pos hi] at hj
      cases hj
      refine ⟨.ref a, h.2.2, ?_⟩
      rw [h.1]
      exact ⟨a, rfl, by rw [hb]; exact t⟩
    · rw [List.getElem?_set_ne e] at hj
      obtain ⟨v, e1, e2⟩ := f.slot j x hj
      refine ⟨v, e1, ?_⟩
      cases hc : cl j with
      | P => rw [hc] at e2; exact Rep.move k hO hB e2
      | L =>
        rw [hc] at e2
        exact RepT.move k hO hB (fun b eb hm z => f.lsp j i a ⟨hc, ⟨x, hj, hm⟩, by rw [e1, eb, z]⟩ h) e2
      | M =>
        rw [hc] at e2
        obtain ⟨b, eb, q⟩ := e2
        exact ⟨b, eb, q.move k hO hB fun z => e (f.inj i j a h ⟨hc, ⟨x, hj⟩, by rw [e1, eb, z]⟩)⟩
  · refine f.lsp j k b ?_ ((own_upd_iff h k b).mp h2)
    obtain ⟨z1, z2, z3⟩ := h1
    have e : i ≠ j := fun z => by rw [← z, h.1] at z1; cases z1
    rw [List.getElem?_set_ne e] at z2
    exact ⟨z1, z2, z3⟩
/-- behind an expression, slot i's object is changed -/
theorem ep_upd (p1 : EP' K cl n BL T md σ H fr x fr1 u H1) (h : ownAt cl σ fr1 i a) (k : Kp H1 H2 (· = a)) (t : Top K H2 (bar cl BL σ fr1) a y) {z : PV} {w : V} (r : Rep K H2 (bar cl BL σ fr1) z w) :
    EP' K cl n BL (i :: T) .val σ H fr z (fr1.set i (some y)) w H2 := by
  have h0 : ownAt cl σ fr i a := h.of p1.le
  refine ⟨fs_upd p1.fs h k t, (p1.kp.mono fun _ ⟨j, h1, h2⟩ => ⟨j, List.mem_cons_of_mem _ h1, h2⟩).trans k fun b e => .inl ⟨i, by simp, by rw [show b = a from e]; exact h0⟩, fun j y' hj => ?_, fun j hj => ?_, ?_⟩
  · by_cases e : i = j
    · subst e; exact h0.2.1
    · rw [List.getElem?_set_ne e] at hj
      exact p1.le j y' hj
  · rw [List.getElem?_set_ne fun e => hj (by simp [e])]
    exact p1.tch j fun z => hj (List.mem_cons_of_mem _ z)
  · show Rep K H2 (bar cl BL σ (fr1.set i (some y))) z w
    rw [bar_upd h]; exact r
theorem kp_updM {o u : HO} (h : H a = some u) (hm : (∃ xs, u = .lst xs) ∨ ∃ ws, u = .dK ws) : Kp H (upd H a o) (· = a) := by
  have hu : ∀ ys, u ≠ .tup ys ∧ ∀ ob v, u ≠ .frz ob v := by
    intro ys
    rcases hm with ⟨_, e⟩ | ⟨_, e⟩ <;> (subst e; exact ⟨fun z => (nomatch z), fun _ _ z => (nomatch z)⟩)
  refine ⟨fun b w e n => by rw [upd_ne n]; exact e, fun b ys r => ?_, fun b ob ys e => ?_, fun b e => ?_⟩
  · have : b ≠ a := fun z => by
      subst z
      rcases r with r | ⟨ob, r⟩
      · rw [h] at r; exact (hu ys).1 (Option.some.inj r)
      · rw [h] at r; exact (hu ys).2 ob _ (Option.some.inj r)
    rcases r with r | ⟨ob, r⟩
    · exact .inl (by rw [upd_ne this]; exact r)
    · exact .inr ⟨ob, by rw [upd_ne this]; exact r⟩
  · have : b ≠ a := fun z => by subst z; rw [h] at e; exact (hu []).2 ob _ (Option.some.inj e)
    rw [upd_ne this]; exact e
  · by_cases z : b = a
    · subst z; rw [upd_same] at e; cases e
    · rwa [upd_ne z] at e
/-- the elements, where their list is changed -/
theorem repL_upd {o u : HO} {B : Addr → Prop} {xs : List PV} {ys : List V} (h : H a = some u) (hm : (∃ xs, u = .lst xs) ∨ ∃ ws, u = .dK ws) (ha : B a) (r : RepL K H B xs ys) : RepL K (upd H a o) B xs ys :=
  RepL.move (kp_updM h hm) (fun b e => e ▸ ha) (fun b z => .inl z) r
theorem repD_upd {o u : HO} {B : Addr → Prop} {xs : List (PV × PV)} {ys : List (Key × V)} (h : H a = some u) (hm : (∃ xs, u = .lst xs) ∨ ∃ ws, u = .dK ws) (ha : B a) (r : RepD K H B xs ys) : RepD K (upd H a o) B xs ys :=
  RepD.move (kp_updM h hm) (fun b e => e ▸ ha) (fun b z => .inl z) r
theorem rep_upd {o u : HO} {B : Addr → Prop} {v : V} (h : H a = some u) (hm : (∃ xs, u = .lst xs) ∨ ∃ ws, u = .dK ws) (ha : B a) (r : Rep K H B x v) : Rep K (upd H a o) B x v :=
  Rep.move (kp_updM h hm) (fun b e => e ▸ ha) (fun b z => .inl z) r
theorem RepD.any {B : Addr → Prop} {k : Ky} : ∀ {kvs : List (PV × PV)} {ws : List (Key × V)}, RepD K H B kvs ws → (kvs.any fun p => decide (toKy p.1 = some k)) = ws.any fun kv => decide (kv.1 = kyOf k)
  | _, _, .nil => rfl
  | _, _, .cons (j := j) e h t => by
    rw [List.any_cons, List.any_cons, RepD.any t, e]
    congr 1
    by_cases q : j = k
    · subst q; simp
    · have : kyOf j ≠ kyOf k := fun z => q (kyOf_inj.mp z)
      simp [q, this]
theorem RepD.mapSet {B : Addr → Prop} {k : Ky} {v : PV} {w : V} (r : Rep K H B v w) : ∀ {kvs : List (PV × PV)} {ws : List (Key × V)}, RepD K H B kvs ws →
    RepD K H B (kvs.map fun p => if toKy p.1 = some k then (p.1, v) else p) (ws.map fun kv => if kv.1 = kyOf k then (kv.1, w) else kv)
  | _, _, .nil => .nil
  | _, _, .cons (j := j) e h t => by
    rw [List.map_cons, List.map_cons]
    by_cases q : j = k
    · subst q
      simp only [e, if_true]
      exact .cons e r (RepD.mapSet r t)
    · have : kyOf j ≠ kyOf k := fun z => q (kyOf_inj.mp z)
      simp only [e, Option.some.injEq, q, if_false, this]
      exact .cons e h (RepD.mapSet r t)
theorem RepD.app {B : Addr → Prop} : ∀ {kvs : List (PV × PV)} {ws : List (Key × V)} {kvs' : List (PV × PV)} {ws' : List (Key × V)}, RepD K H B kvs ws → RepD K H B kvs' ws' → RepD K H B (kvs ++ kvs') (ws ++ ws')
  | _, _, _, _, .nil, s => s
  | _, _, _, _, .cons e h t, s => .cons e h (RepD.app t s)
theorem RepD.put {B : Addr → Prop} {k : Ky} {kp v : PV} {w : V} {kvs : List (PV × PV)} {ws : List (Key × V)} (ek : toKy kp = some k) (r : Rep K H B v w) (h : RepD K H B kvs ws) : RepD K H B (dput kp v kvs) (putK ws (kyOf k) w) := by
  unfold dput putK
  rw [ek, h.any]
  split
  · exact RepD.mapSet r h
  · exact h.app (.cons ek r .nil)
end

section
variable {X : Cx} {cl : Nat → Cls} {n na : Nat} {rf : Bool} {T T' T1 T2 T3 A : List Nat} {md md' md1 md2 : Md} {a b c e o k : Expr} {ma mb mc m me mk : Fr → Option (PV × Fr)} {pos p cpos apos : Pos} {i : Nat}
/-- name.method(e): slot i's object changed -/
def mutM (i : Nat) (g : PV → PV → Option PV) (me : Fr → Option (PV × Fr)) : Fr → Option (PV × Fr) := fun fr => (getS fr i).bind fun o => (me fr).bind fun p => (g o p.1).map fun o' => (.non, p.2.set i (some o'))
theorem tyV_list {K : PySem.W.Frag} {H : Hp} {a : Addr} {xs : List V} (h : H a = some (.lst xs)) : tyV K "list" (.ref a) H := .inl ⟨rfl, xs, .of h⟩
theorem own_lst {K : PySem.W.Frag} {BL : Addr → Prop} {σ : L2.St} {H : Hp} {fr : Fr} {xs : List PV} (f : FS K cl n BL σ H fr) (hc : cl i = .M) (h : fr[i]? = some (some (.lst xs))) : ∃ a ys, σ[i]? = some (some (.ref a)) ∧ ownAt cl σ fr i a ∧ H a = some (.lst ys) ∧ ys.length ≤ sizeLine ∧ RepL K H (bar cl BL σ fr) xs ys := by
  obtain ⟨a, e1, e2, ys, e3, e4, e5⟩ := f.own_at h hc
  exact ⟨a, ys, e1, e2, e3, e4, e5⟩
theorem own_dct {K : PySem.W.Frag} {BL : Addr → Prop} {σ : L2.St} {H : Hp} {fr : Fr} {xs : List (PV × PV)} (f : FS K cl n BL σ H fr) (hc : cl i = .M) (h : fr[i]? = some (some (.dct xs))) : ∃ a ys, σ[i]? = some (some (.ref a)) ∧ ownAt cl σ fr i a ∧ H a = some (.dK ys) ∧ ys.length ≤ sizeLine ∧ RepD K H (bar cl BL σ fr) xs ys := by
  obtain ⟨a, e1, e2, ys, e3, e4, e5⟩ := f.own_at h hc
  exact ⟨a, ys, e1, e2, e3, e4, e5⟩
theorem σ_eq {σ : L2.St} {i : Nat} {a b : Addr} (h : σ[i]? = some (some (.ref a))) (h' : σ[i]? = some (some (.ref b))) : a = b := by
  rw [h] at h'; cases h'; rfl
/-- slot i's list, ahead of an expression that does not touch it -/
theorem se_app (ho : PE X o (tVar i)) (hc : cl i = .M) (he : SE X cl n T md e me) (hm : md.ok false = true) (hi : i ∉ T)
    (hbase : attributeBase o "append" X.env (eval o X.env) = eval o X.env)
    (hfew : ((backTo cpos (starEach [e] X.env)).all (fun x => !x.1) && (backToKw cpos (keywordEach [] X.env)).all (fun x => x.1.isSome)
      && decide (([e] : List Expr).length + ([] : List Keyword).length + (if ([] : List Keyword).isEmpty then 0 else 1) < 30)) = true)
    (hline : (apos.endLine == cpos.line) = true) (hs : starEach [e] X.env = (false, eval e X.env) :: starEach [] X.env) (hplain : (backTo cpos (starEach [] X.env)).any (·.1) = false) :
    SE X cl n (i :: T) .val (.Call (.Attribute o "append" apos) [e] [] cpos) (mutM i appV me) :=
  PE.weak (pe_bm PySem.F.plainAttrs_list PySem.F.slot_list_append PySem.F.type_list_append mt_append ho (pa_cons he pa_nil hs) hbase hfew hline hs hplain) fun σ H Q ⟨BL, fr, z, fr2, f, eq, kk⟩ => by
    obtain ⟨ov, e3, e4⟩ := Option.bind_eq_some_iff.mp eq
    obtain ⟨⟨x, fr1⟩, e1, e2⟩ := Option.bind_eq_some_iff.mp e4
    obtain ⟨o', e5, e6⟩ := Option.map_eq_some_iff.mp e2
    cases e6
    cases ov <;> first | (cases e5; done) | skip
    rename_i xs
    simp only [appV] at e5
    split at e5 <;> cases e5
    rename_i hz
    have h1 := getS_some.mp e3
    obtain ⟨a, ys, q1, q2, q3, q4, q5⟩ := own_lst f hc h1
    refine ⟨_, q1, tyV_list q3, BL, fr, x, fr1, f, e1, fun v H1 p1 => ?_⟩
    have h2 := h1
    rw [← p1.tch i hi] at h2
    obtain ⟨a', ys', r1, r2, r3, r4, r5⟩ := own_lst p1.fs hc h2
    obtain rfl := σ_eq q1 r1
    have hz' : ys'.length < sizeLine := by rw [sizeLine_eq, ← r5.length]; exact hz
    have km := kp_updM (o := .lst (ys' ++ [v])) r3 (.inl ⟨_, rfl⟩)
    refine ⟨a, ys', v, rfl, rfl, r3, hz', kk _ _ (ep_upd p1 r2 km ?_ .non)⟩
    exact ⟨ys' ++ [v], upd_same, by rw [List.length_append, List.length_singleton]; omega, repL_upd r3 (.inl ⟨_, rfl⟩) (.inr ⟨i, r2⟩) (r5.append (.cons (p1.rep f hm) .nil))⟩
/-! ### name[k] = e, name[k] op= e -/
def rSetIx (K : PySem.W.Frag) : TSet := fun o k v H Q => ∃ B a po pk pv po', o = .ref a ∧ B a ∧ Top K H B a po ∧ RepT K H B pk k ∧ Rep K H B pv v ∧ setIx po pk pv = some po' ∧ ∀ H', Kp H H' (· = a) → Top K H' B a po' → Q H'
theorem set_all (hu : X.A.units + 64 < cLine) : PSet X (rSetIx X.K) := by
  intro pins s σ H o k v ov kv u Q I ro rk rv ⟨B, a, po, pk, pv, po', eo, hB, ht, hk, hv, hg, q⟩
  subst eo
  cases po <;> first | exact ht.elim | skip
  · obtain ⟨ys, h1, h2, h3⟩ := ht
    obtain ⟨i, e1, e2⟩ := Option.bind_eq_some_iff.mp hg
    obtain ⟨j, e3, e4⟩ := Option.map_eq_some_iff.mp e2
    cases e4
    cases pk <;> first | (cases e1; done) | skip
    cases e1
    cases (show Rep X.K H B _ k from hk)
    refine set_list pins s σ H _ _ v ov kv u Q I ro rk rv ⟨a, ys, i, j, rfl, rfl, h1, by rw [← ixOf_ixN, ← h3.length]; exact e3, q _ (kp_updM h1 (.inl ⟨_, rfl⟩)) ⟨_, upd_same, by rw [List.length_set]; exact h2, ?_⟩⟩
    exact repL_upd h1 (.inl ⟨_, rfl⟩) hB (RepL.set hv j h3)
  · obtain ⟨ys, h1, h2, h3⟩ := ht
    obtain ⟨j, e1, e2⟩ := Option.bind_eq_some_iff.mp hg
    split at e2 <;> cases e2
    rename_i hz
    obtain rfl := ky_key hk e1
    have hz' : ys.length < sizeLine := by rw [sizeLine_eq, ← h3.length]; exact hz
    refine set_dict (by omega) pins s σ H _ _ v ov kv u Q I ro rk rv ⟨a, _, rfl, .inl ⟨ys, kyOf j, h1, rfl, hz', rfl⟩, q _ (kp_updM h1 (.inr ⟨_, rfl⟩)) ⟨_, upd_same, by have := length_putK ys (kyOf j) v; omega, ?_⟩⟩
    exact repD_upd h1 (.inr ⟨_, rfl⟩) hB (RepD.put e1 hv h3)
/-- a[k], by values -/
def rGetIx (K : PySem.W.Frag) : V → V → Hp → VK → Prop := fun o k H Q => ∃ B po pk px, RepT K H B po o ∧ RepT K H B pk k ∧ subop po pk = some px ∧ (∃ xs, po = .lst xs ∨ ∃ ys, po = .dct ys) ∧ ∀ v, Rep K H B px v → Q v H
theorem get_all (hu : X.A.units + 64 < cLine) : PGet X (rGetIx X.K) := by
  intro pins s σ H o k ov kv Q I ro rk ⟨B, po, pk, px, ho, hk, hg, hp, q⟩
  rcases hp with ⟨xs, hp⟩
  cases po <;> first | (rcases hp with e | ⟨_, e⟩ <;> cases e; done) | skip
  · obtain ⟨a, ys, eo, h1, h2, h3⟩ := ho
    subst eo
    cases ro
    cases pk <;> first | (simp [subop] at hg; done) | skip
    rename_i i
    cases (show Rep X.K H B _ k from hk)
    obtain ⟨t, rfl⟩ := rk
    obtain ⟨v, e1, e2⟩ := at_rep h3 (show ((ixOf i _).bind fun k => _) = some px from hg)
    obtain ⟨its, n, r, ho', hz⟩ := I.lst h1
    have pl : s.heap.IsList a its.toArray := PySem.IsL.isList ho'
    obtain ⟨j, g1, g2, g3, g4, g5⟩ := atI_get e1
    obtain ⟨w, ew, rw'⟩ := r.get g2
    have hl := r.length
    have hn := line63
    have fin : EP X pins σ Q w s := ⟨v, H, I, rw', q v e2⟩
    by_cases h0 : 0 ≤ i
    · have hj : i.toNat = j := by
        rw [seqIndex_of h0 g5] at g1
        exact Option.some.inj g1
      exact wpAny_getItem_list pl h0 (by omega) (by rw [hj]; simpa using ew) fin
    · have hj : (i + (its.toArray.size : Int)).toNat = j := by
        rw [seqIndex_neg (by omega) g4] at g1
        rw [List.size_toArray, ← hl]
        exact Option.some.inj g1
      exact wpAny_getItem_list_neg pl (by omega) (by rw [List.size_toArray] <;> omega) (by omega) (by rw [hj]; simpa using ew) fin
  · obtain ⟨a, ys, eo, h1, h2, h3⟩ := ho
    subst eo
    cases ro
    obtain ⟨j, e1, e2⟩ := Option.bind_eq_some_iff.mp (show ((toKy pk).bind fun k => dfind k _) = some px from hg)
    obtain rfl := ky_key hk e1
    obtain ⟨v, e3, e4⟩ := (RepD.val h3).1 px e2
    exact d_getItem (by omega) I (.inl ⟨ys, kyOf j, h1, rfl, e3.symm⟩) rk fun w' s3 I3 rw' => ⟨v, H, I3, rw', q v e4⟩
def rAug (K : PySem.W.Frag) (o : Bo) : TIp := fun x y H Q => ∃ B px py pz, RepT K H B px x ∧ RepT K H B py y ∧ augop o px py = some pz ∧ ∀ w, isMut pz = false → Rep K H B pz w → Q w H
theorem aug_add : PIp X .Add (rAug X.K .add) := by
  intro pins s σ H x y v u Q I r1 r2 ⟨B, px, py, pz, h1, h2, hg, k⟩
  cases px <;> cases py <;> first | (simp [augop] at hg; done) | skip
  cases (show Rep X.K H B _ x from h1)
  cases (show Rep X.K H B _ y from h2)
  cases hg
  exact ip_add pins s σ H _ _ v u Q I r1 r2 ⟨_, _, rfl, rfl, k _ rfl (.int _)⟩
theorem aug_sub : PIp X .Sub (rAug X.K .sub) := by
  intro pins s σ H x y v u Q I r1 r2 ⟨B, px, py, pz, h1, h2, hg, k⟩
  cases px <;> cases py <;> first | (simp [augop] at hg; done) | skip
  cases (show Rep X.K H B _ x from h1)
  cases (show Rep X.K H B _ y from h2)
  cases hg
  exact ip_sub pins s σ H _ _ v u Q I r1 r2 ⟨_, _, rfl, rfl, k _ rfl (.int _)⟩
theorem repT_ext {K : PySem.W.Frag} {H : Hp} {B B' : Addr → Prop} {x : PV} {v : V} (hB : ∀ a, B' a → B a) (h : RepT K H B x v) : RepT K H B' x v := RepT.move (O := fun _ => False) .refl (fun _ z => z.elim) (fun a z => .inl (hB a z)) (fun _ _ _ z => z) h
/-- a slot's object changed, at a statement's end -/
theorem sp_upd {K : PySem.W.Frag} {BL : Addr → Prop} {σ : L2.St} {H H1 H2 : Hp} {fr fr1 : Fr} {y : PV} {u : V} {x : PV} {a : Addr} (p1 : EP' K cl n BL T md σ H fr x fr1 u H1) (h : ownAt cl σ fr1 i a) (k : Kp H1 H2 (· = a)) (t : Top K H2 (bar cl BL σ fr1) a y) :
    SP' K cl n BL (i :: T) [] σ H fr (fr1.set i (some y)) σ H2 := (ep_upd p1 h k t (z := .non) (w := .non) .non).sp
theorem ss_setix {tpos npos : Pos} {e : Expr} (ho : PE X o (tVar i)) (hc : cl i = .M) (hk : SE X cl n T1 md1 k mk) (he : SE X cl n T md e me) (hm : md.ok false = true) (hi : i ∉ T1) (hu : X.A.units + 64 < cLine)
    (ha : ∀ v, assign (.Subscript o k tpos) X.env v = (do
      let ov ← holding [v] (eval o X.env)
      let iv ← holding [v, ov] (eval k X.env)
      standAt tpos
      holding [v, ov, iv] (setItem ov iv v)
      release [v, ov, iv] []))
    (hs : swapsWithSole [.Subscript o k tpos] e pos.line X.env = pure false) (hw : swappedStores [.Subscript o k tpos] e X.env = pure none) (h1 : (assignEach [.Subscript o k tpos] X.env).map (·.2) = [assign (.Subscript o k tpos) X.env]) :
    SS X cl n na rf (i :: (T ++ T1)) [] (.Assign [.Subscript o k tpos] e pos) (fun fr => (me fr).bind fun p => (getS p.2 i).bind fun ov => (mk p.2).bind fun q => (setIx ov q.1 p.1).map fun o' => (.nx, q.2.set i (some o'))) :=
  PS.weak (ps_asg he (pg_sub ho hk (set_all hu) ha) hs hw h1) fun D σ H ⟨BL, fr, fl, fr', f, eq, kk⟩ => by
    obtain ⟨⟨x, fr1⟩, e1, e2⟩ := Option.bind_eq_some_iff.mp eq
    obtain ⟨ov, e3, e4⟩ := Option.bind_eq_some_iff.mp e2
    obtain ⟨⟨kv, fr2⟩, e5, e6⟩ := Option.bind_eq_some_iff.mp e4
    obtain ⟨o', e7, e8⟩ := Option.map_eq_some_iff.mp e6
    cases e8
    refine ⟨BL, fr, x, fr1, f, e1, fun v H1 p1 => ?_⟩
    obtain ⟨a, q1, q2, q3⟩ := p1.fs.own_at (getS_some.mp e3) hc
    refine ⟨_, q1, BL, fr1, kv, fr2, p1.fs, e5, fun kw H2 p2 => ?_⟩
    have h2 := getS_some.mp e3
    rw [← p2.tch i hi] at h2
    obtain ⟨a', r1, r2, r3⟩ := p2.fs.own_at h2 hc
    obtain rfl := σ_eq q1 r1
    have hx : Rep X.K H2 (bar cl BL σ fr2) x v := Rep.over p1.fs p2 (p1.rep f hm)
    refine ⟨_, a, ov, kv, x, o', rfl, .inr ⟨i, r2⟩, r3, p2.repT p1.fs, hx, e7, fun H3 km t => kk _ _ ?_⟩
    exact sp_upd (p1.thenT f p2) r2 km t
theorem ss_augix {tpos : Pos} {e : Expr} {op : Operator} {bo : Bo} (ho : PE X o (tVar i)) (hc : cl i = .M) (hk : SE X cl n T1 md1 k mk) (he : SE X cl n T md e me) (hop : PIp X op (rAug X.K bo)) (hi : i ∉ T1) (hi2 : i ∉ T) (hk1 : md1.off T = true) (hk2 : md1.ok false = true) (hu : X.A.units + 64 < cLine)
    (ha : ∀ ov iv new, augStore k ov iv new = (do holding [new, ov, iv] (setItem ov iv new); release [new, ov, iv] []; pure .next)) :
    SS X cl n na rf (i :: (T1 ++ T)) [] (.AugAssign (.Subscript o k tpos) op e pos) (fun fr => (getS fr i).bind fun c => (mk fr).bind fun p => (subop c p.1).bind fun x => (me p.2).bind fun q =>
      (augop bo x q.1).bind fun v => (setIx c p.1 v).map fun c' => (.nx, q.2.set i (some c'))) :=
  PS.weak (ps_augS ho hk (get_all hu) he hop (set_all hu) ha) fun D σ H ⟨BL, fr, fl, fr', f, eq, kk⟩ => by
    obtain ⟨ov, e3, e4⟩ := Option.bind_eq_some_iff.mp eq
    obtain ⟨⟨kv, fr1⟩, e5, e6⟩ := Option.bind_eq_some_iff.mp e4
    obtain ⟨x, e7, e8⟩ := Option.bind_eq_some_iff.mp e6
    obtain ⟨⟨y, fr2⟩, e9, e10⟩ := Option.bind_eq_some_iff.mp e8
    obtain ⟨z, e11, e12⟩ := Option.bind_eq_some_iff.mp e10
    obtain ⟨o', e13, e14⟩ := Option.map_eq_some_iff.mp e12
    cases e14
    have h0 := getS_some.mp e3
    obtain ⟨a, q1, q2, q3⟩ := f.own_at h0 hc
    refine ⟨_, q1, BL, fr, kv, fr1, f, e5, fun kw H1 p1 => ?_⟩
    have h1 := h0
    rw [← p1.tch i hi] at h1
    obtain ⟨a', r1, r2, r3⟩ := p1.fs.own_at h1 hc
    obtain rfl := σ_eq q1 r1
    have rk := p1.rep f hk2
    have hov : ∃ xs, ov = .lst xs ∨ ∃ ys, ov = .dct ys := by
      cases ov <;> first | exact r3.elim | exact ⟨_, .inl rfl⟩ | exact ⟨[], .inr ⟨_, rfl⟩⟩
    refine ⟨_, ov, kv, x, r3.repT, rk.top, e7, hov, fun xv rx => ⟨BL, fr1, y, fr2, p1.fs, e9, fun yv H2 p2 => ?_⟩⟩
    have h2 := h1
    rw [← p2.tch i hi2] at h2
    obtain ⟨a', t1, t2, t3⟩ := p2.fs.own_at h2 hc
    obtain rfl := σ_eq q1 t1
    refine ⟨_, x, y, z, (Rep.over p1.fs p2 rx).top, p2.repT p1.fs, e11, fun w _ rw' => ?_⟩
    refine ⟨_, a, ov, kv, z, o', rfl, .inr ⟨i, t2⟩, t3, (Rep.over p1.fs p2 rk).top, rw', e13, fun H3 km t => kk _ _ ?_⟩
    exact sp_upd (p1.thenT f p2) t2 km t
/-- name op= e: numbers -/
theorem ss_aug {npos : Pos} {x : Str} {e : Expr} {op : Operator} {bo : Bo} (hN : X.N.Nodup) (hx : X.N[i]? = some x) (hl : Loc X.env.scope x) (hf : X.fn x = true ∨ X.env.scope.names.lookup x = some .local) (hc : cl i = .P) (he : SE X cl n T md e me) (hop : PIp X op (rAug X.K bo)) :
    SS X cl n na rf (i :: T) [i] (.AugAssign (.Name x npos) op e pos) (fun fr => (getS fr i).bind fun c => (me fr).bind fun p => (augop bo c p.1).map fun v => (.nx, p.2.set i (some v))) :=
  PS.weak (ps_aug hN hx hl he hop hf) fun D σ H ⟨BL, fr, fl, fr', f, eq, kk⟩ => by
    obtain ⟨c, e3, e4⟩ := Option.bind_eq_some_iff.mp eq
    obtain ⟨⟨y, fr1⟩, e5, e6⟩ := Option.bind_eq_some_iff.mp e4
    obtain ⟨z, e7, e8⟩ := Option.map_eq_some_iff.mp e6
    cases e8
    obtain ⟨v, q1, q2⟩ := f.slot i c (getS_some.mp e3)
    rw [hc] at q2
    refine ⟨v, q1, BL, fr, y, fr1, f, e5, fun yv H1 p1 => ?_⟩
    refine ⟨_, c, y, z, (Rep.over f p1 q2).top, p1.repT f, e7, fun w hm rw' => kk _ _ ?_⟩
    have e2 : EP' X.K cl n BL T .val σ H fr z fr1 w H1 := ⟨p1.fs, p1.kp, p1.le, p1.tch, rw'⟩
    exact sp_set f e2 rfl hc
end
end EV

set_option linter.all false
set_option Elab.async false
set_option maxRecDepth 100000
/-! Ev16: dict displays; several targets at once. -/
namespace EV
open PySem L2 PySem.Spec PyProof.Rows

/-! ### {k: v, ..} -/
inductive PairsR (K : PySem.W.Frag) (H : Hp) (B : Addr → Prop) : List PV → List (V × V) → Prop
  | nil : PairsR K H B [] []
  | cons {k v : PV} {xs : List PV} {u w : V} {ps : List (V × V)} : Rep K H B k u → Rep K H B v w → PairsR K H B xs ps → PairsR K H B (k :: v :: xs) ((u, w) :: ps)
structure DP' (K : PySem.W.Frag) (cl : Nat → Cls) (n : Nat) (BL : Addr → Prop) (T : List Nat) (σ : L2.St) (H : Hp) (fr : Fr) (xs : List PV) (fr' : Fr) (ps : List (V × V)) (H' : Hp) : Prop where
  fs : FS K cl n BL σ H' fr'
  kp : Kp H H' (ownT cl σ fr T)
  le : ∀ (i : Nat) y, fr'[i]? = some (some y) → ∃ y', fr[i]? = some (some y')
  tch : ∀ i, i ∉ T → fr'[i]? = fr[i]?
  res : PairsR K H' (bar cl BL σ fr') xs ps
def tD (K : PySem.W.Frag) (cl : Nat → Cls) (n : Nat) (T : List Nat) (m : Fr → Option (List PV × Fr)) : L2.St → Hp → (List (V × V) → Hp → Prop) → Prop := fun σ H Q =>
  ∃ BL fr xs fr', FS K cl n BL σ H fr ∧ m fr = some (xs, fr') ∧ ∀ ps H', DP' K cl n BL T σ H fr xs fr' ps H' → Q ps H'
structure SD (X : Cx) (cl : Nat → Cls) (n : Nat) (T : List Nat) (pos : Pos) (keys : List (Option Expr)) (values : List Expr) (m : Fr → Option (List PV × Fr)) : Prop where
  ex : ∃ trs, PPs X pos keys values trs ∧ ∀ σ H Q, tD X.K cl n T m σ H Q → tPairs trs σ H Q
section
variable {X : Cx} {cl : Nat → Cls} {n na : Nat} {rf : Bool} {T T' T1 T2 T3 : List Nat} {md md' md1 md2 : Md} {a b c e o k : Expr} {ma mb mc m me mk : Fr → Option (PV × Fr)} {ms : Fr → Option (List PV × Fr)} {pos p : Pos} {i : Nat}
theorem sd_nil : SD X cl n [] pos [] [] (fun fr => some ([], fr)) := ⟨[], pps_nil, fun σ H Q ⟨BL, fr, xs, fr', f, e, k⟩ => by
  cases e
  exact k [] H ⟨f, .refl, fun i y h => ⟨y, h⟩, fun _ _ => rfl, .nil⟩⟩
theorem sd_cons {ks : List (Option Expr)} {vs : List Expr} (hk : SE X cl n T1 md1 a ma) (hv : SE X cl n T2 md2 b mb) (hr : SD X cl n T3 pos ks vs ms) (h1 : md1.ok false = true) (h2 : md2.ok false = true) :
    SD X cl n (T1 ++ (T2 ++ T3)) pos (some a :: ks) (b :: vs) (fun fr => (ma fr).bind fun p => ((mb p.2).bind fun q => (ms q.2).map fun r => (q.1 :: r.1, r.2)).map fun q => (p.1 :: q.1, q.2)) := by
  obtain ⟨trs, hp, hw⟩ := hr.ex
  refine ⟨_, pps_cons hk hv hp, fun σ H Q ⟨BL, fr, xs, fr', f, e, kk⟩ => ?_⟩
  obtain ⟨⟨x, fr1⟩, e1, e2⟩ := Option.bind_eq_some_iff.mp e
  obtain ⟨⟨zs, fr4⟩, e3, e4⟩ := Option.map_eq_some_iff.mp e2
  cases e4
  obtain ⟨⟨y, fr2⟩, e5, e6⟩ := Option.bind_eq_some_iff.mp e3
  obtain ⟨⟨ws, fr3⟩, e7, e8⟩ := Option.map_eq_some_iff.mp e6
  cases e8
  refine ⟨BL, fr, x, fr1, f, e1, fun u H1 p1 => ⟨BL, fr1, y, fr2, p1.fs, e5, fun w H2 p2 => hw _ _ _ ⟨BL, fr2, ws, _, p2.fs, e7, fun ps H3 p3 => kk _ H3 ?_⟩⟩⟩
  have mv : ∀ {z v}, Rep X.K H2 (bar cl BL σ fr2) z v → Rep X.K H3 (bar cl BL σ fr3) z v := fun r => Rep.move p3.kp p2.fs.ownT_bar (fun a z => .inl (z.of p3.le)) r
  refine ⟨p3.fs, ((p1.kp.mono fun _ h => ownT.app (.inl h)).trans (p2.kp.mono fun _ h => ownT.app (T' := T3) (.inl h)) fun a ⟨i, h1, h2⟩ => .inl ⟨i, List.mem_append_right _ h1, h2.of p1.le⟩).trans p3.kp fun a ⟨i, h1, h2⟩ => .inl ⟨i, List.mem_append_right _ (List.mem_append_right _ h1), (h2.of p2.le).of p1.le⟩, fun i y h => ?_, fun i hi => ?_, .cons (mv (Rep.over p1.fs p2 (p1.rep f h1))) (mv (p2.rep p1.fs h2)) p3.res⟩
  · obtain ⟨y1, h⟩ := p3.le i y h
    obtain ⟨y2, h⟩ := p2.le i y1 h
    exact p1.le i y2 h
  · rw [List.mem_append, List.mem_append, not_or, not_or] at hi
    rw [p3.tch i hi.2.2, p2.tch i hi.2.1, p1.tch i hi.1]
theorem pairs_of {K : PySem.W.Frag} {H : Hp} {B : Addr → Prop} : ∀ {xs : List PV} {ps : List (V × V)} {kvs : List (PV × PV)}, PairsR K H B xs ps → pairUp xs = some kvs → ∃ ws : List (Key × V), ps = ws.map (fun kv => (kV kv.1, kv.2)) ∧ RepD K H B kvs ws
  | _, _, _, .nil, e => by cases e; exact ⟨[], rfl, .nil⟩
  | _, _, _, .cons h1 h2 t, e => by
    unfold pairUp at e
    split at e
    · rename_i j hj
      obtain ⟨r, e1, e2⟩ := Option.map_eq_some_iff.mp e
      subst e2
      obtain ⟨ws, q1, q2⟩ := pairs_of t e1
      exact ⟨(kyOf j, _) :: ws, by rw [q1, ky_key h1.top hj]; rfl, .cons hj h2 q2⟩
    · cases e
theorem RepD.merge {K : PySem.W.Frag} {H : Hp} {B : Addr → Prop} : ∀ {more : List (PV × PV)} {ms : List (Key × V)} {kvs : List (PV × PV)} {ws : List (Key × V)}, RepD K H B kvs ws → RepD K H B more ms → RepD K H B (dputAll kvs more) (mergeK ws ms)
  | _, _, _, _, h, .nil => h
  | _, _, kvs, ws, h, @RepD.cons _ _ _ k p j v r s e rr t => (RepD.merge (kvs := dput k p kvs) (ws := putK ws (kyOf j) v) (RepD.put e rr h) t : RepD K H B (dputAll (dput k p kvs) r) (mergeK (putK ws (kyOf j) v) s))
theorem se_dct {keys : List (Option Expr)} {values : List Expr} (h : SD X cl n T pos keys values ms) (hall : keys.all (·.isSome) = true) (hl : keys.length = values.length) (h0 : keys ≠ []) (h15 : keys.length ≤ 15) (hT : ∀ j ∈ T, cl j = .M) :
    SE X cl n T .fresh (.Dict keys values pos) (fun fr => (ms fr).bind fun p => (pairUp p.1).bind fun kvs => if kvs.length ≤ 15 then some (.dct (dputAll [] kvs), p.2) else none) := by
  obtain ⟨trs, hp, hw⟩ := h.ex
  refine PE.weak (pe_disp hp hall hl h0 h15) fun σ H Q ⟨BL, fr, x, fr', f, e, kk⟩ => fun q hq => ?_
  obtain ⟨⟨xs, fr1⟩, e1, e2⟩ := Option.bind_eq_some_iff.mp e
  obtain ⟨kvs, e3, e4⟩ := Option.bind_eq_some_iff.mp e2
  split at e4 <;> cases e4
  rename_i hz
  have k0 : Kp H (upd H q (.dK [])) (fun _ => False) := kp_upd hq
  have f0 := f.more k0 hq (by rw [upd_same]; exact fun z => nomatch z)
  refine hw _ _ _ ⟨_, fr, xs, _, f0, e1, fun ps H2 d => ?_⟩
  have hq2 : H2 q = some (.dK []) := d.kp.keep q _ upd_same fun ⟨i, _, h⟩ => f0.sep i q h (.inr rfl)
  obtain ⟨ws, w1, w2⟩ := pairs_of d.res e3
  have km := kp_updM (o := .dK (mergeK [] ws)) hq2 (.inr ⟨_, rfl⟩)
  refine ⟨hq2, ws, w1, by rw [← w2.length]; exact hz, kk _ _ ?_⟩
  have noLen : ∀ i, ¬ lenAt cl σ fr1 i q := fun i ⟨h1, ⟨y, h2, h3⟩, h4⟩ => by
    have nT : i ∉ T := fun z => by rw [hT i z] at h1; cases h1
    rw [d.tch i nT] at h2
    exact lenAt.tr f ⟨h1, ⟨y, h2, h3⟩, h4⟩ hq
  have f2 : FS X.K cl n (fun a => BL a ∨ a = q) σ (upd H2 q (.dK (mergeK [] ws))) fr1 := fs_updBL (o := .dK (mergeK [] ws)) d.fs (.inr rfl) noLen km (by rw [upd_same]; exact fun z => nomatch z)
  have kpT : Kp H (upd H2 q (.dK (mergeK [] ws))) (ownT cl σ fr T) := ((k0.mono fun _ z => z.elim).trans d.kp fun _ z => .inl z).trans km fun a ea => .inr ((show a = q from ea) ▸ hq)
  refine ⟨f2.less fun a h => .inl h, kpT, d.le, d.tch, .inr ⟨q, rfl, hq, f2, mergeK [] ws, upd_same, ?_, ?_⟩⟩
  · have := length_mergeK ws []
    rw [List.length_nil] at this
    rw [sizeLine_eq, ← show kvs.length = ws.length from w2.length] at *
    omega
  · exact repD_upd hq2 (.inr ⟨_, rfl⟩) (.inl (.inr rfl)) (RepD.merge .nil w2)
theorem se_dct0 : SE X cl n [] .fresh (.Dict [] [] pos) (fun fr => some (.dct [], fr)) :=
  PE.weak pe_dnewK fun σ H Q ⟨BL, fr, x, fr', f, e, kk⟩ => fun q hq => by
    cases e
    exact kk _ _ (ep_op0 f ⟨kp_upd hq, .inr ⟨q, rfl, hq, [], upd_same, Nat.zero_le _, .nil⟩⟩)
end

/-! ### a, b, .. = x, y, .. -/
/-- the values ahead of the stores; b: an object for a slot of its own -/
inductive FR (K : PySem.W.Frag) (B : Addr → Prop) (H : Hp) : List Bool → List PV → List V → List Addr → Prop
  | nil : FR K B H [] [] [] []
  | val {bs : List Bool} {x : PV} {xs : List PV} {v : V} {vs : List V} {ps : List Addr} : Rep K H B x v → FR K B H bs xs vs ps → FR K B H (false :: bs) (x :: xs) (v :: vs) ps
  | own {bs : List Bool} {x : PV} {xs : List PV} {p : Addr} {vs : List V} {ps : List Addr} : Top K H B p x → p ∉ ps → FR K B H bs xs vs ps → FR K B H (true :: bs) (x :: xs) (.ref p :: vs) (p :: ps)
structure FP' (K : PySem.W.Frag) (cl : Nat → Cls) (n : Nat) (BL : Addr → Prop) (T : List Nat) (bs : List Bool) (σ : L2.St) (H : Hp) (fr : Fr) (xs : List PV) (fr' : Fr) (vs : List V) (ps : List Addr) (H' : Hp) : Prop where
  fs : FS K cl n (fun a => BL a ∨ a ∈ ps) σ H' fr'
  kp : Kp H H' (ownT cl σ fr T)
  le : ∀ (i : Nat) y, fr'[i]? = some (some y) → ∃ y', fr[i]? = some (some y')
  tch : ∀ i, i ∉ T → fr'[i]? = fr[i]?
  new : ∀ p ∈ ps, H p = none
  res : FR K (bar cl (fun a => BL a ∨ a ∈ ps) σ fr') H' bs xs vs ps
def tF (K : PySem.W.Frag) (cl : Nat → Cls) (n : Nat) (T : List Nat) (bs : List Bool) (m : Fr → Option (List PV × Fr)) : TA := fun σ H Q =>
  ∃ BL fr xs fr', FS K cl n BL σ H fr ∧ m fr = some (xs, fr') ∧ ∀ vs H' ps, FP' K cl n BL T bs σ H fr xs fr' vs ps H' → Q vs H'
def SF (X : Cx) (cl : Nat → Cls) (n : Nat) (T : List Nat) (bs : List Bool) (es : List Expr) (m : Fr → Option (List PV × Fr)) : Prop := PA X es (tF X.K cl n T bs m)
def parOk (md : Md) (b : Bool) : Bool := if b then md.le .fresh else md.ok false
/-- rows of values; those for slots of their own are objects -/
def parM (b : Bool) (ma : Fr → Option (PV × Fr)) (ms : Fr → Option (List PV × Fr)) : Fr → Option (List PV × Fr) := fun fr => (ma fr).bind fun p => if (b && !isMut p.1) = true then none else (ms p.2).map fun q => (p.1 :: q.1, q.2)
section
variable {K : PySem.W.Frag} {cl : Nat → Cls} {n : Nat} {BL BL' : Addr → Prop} {σ σ' : L2.St} {H H' H1 H2 : Hp} {fr fr' fr1 : Fr} {T T' : List Nat} {bs : List Bool} {xs : List PV} {vs : List V} {ps : List Addr} {B B' O : Addr → Prop}
theorem FR.move (k : Kp H H' O) (hO : ∀ a, O a → B a) (hB : ∀ a, B' a → B a ∨ H a = none) (hp : ∀ p ∈ ps, ¬ O p) (h : FR K B H bs xs vs ps) : FR K B' H' bs xs vs ps := by
  induction h with
  | nil => exact .nil
  | val r _ ih => exact .val (Rep.move k hO hB r) (ih hp)
  | own t n _ ih => exact .own (t.move k hO hB (hp _ List.mem_cons_self)) n (ih fun p h => hp p (List.mem_cons_of_mem _ h))
theorem FR.len (h : FR K B H bs xs vs ps) : xs.length = bs.length ∧ vs.length = bs.length := by
  induction h with
  | nil => exact ⟨rfl, rfl⟩
  | val _ _ ih => exact ⟨congrArg (· + 1) ih.1, congrArg (· + 1) ih.2⟩
  | own _ _ _ ih => exact ⟨congrArg (· + 1) ih.1, congrArg (· + 1) ih.2⟩
theorem FS.bl (f : FS K cl n BL σ H fr) (h : ∀ a, BL' a ↔ BL a) : FS K cl n BL' σ H fr := by
  have : BL' = BL := funext fun a => propext (h a)
  rw [this]; exact f
/-- stores, from the left -/
def setS : List Nat → List V → L2.St → L2.St
  | i :: is, v :: vs, σ => setS is vs (σ.set i (some v))
  | _, _, σ => σ
/-- the frame behind the stores -/
theorem par_sets {H0 : Hp} {σ0 : L2.St} {fr0 : Fr} (f0 : FS K cl n BL σ0 H0 fr0) (lens : ∀ i a, lenAt cl σ fr i a → H0 a ≠ none) : ∀ {is : List Nat} {bs : List Bool} {xs : List PV} {vs : List V} {ps : List Addr} {σ : L2.St} {fr : Fr},
    (∀ i a, lenAt cl σ fr i a → H0 a ≠ none) → (∀ p ∈ ps, H0 p = none) → is.length = bs.length → (∀ (j i : Nat), is[j]? = some i → cl i = (if bs[j]? = some true then .M else .P) ∧ i < n) →
    FS K cl n (fun a => BL a ∨ a ∈ ps) σ H fr → FR K (bar cl (fun a => BL a ∨ a ∈ ps) σ fr) H bs xs vs ps →
    FS K cl n BL (setS is vs σ) H (setAll is xs fr) ∧ (∀ i, i ∉ is → (setS is vs σ)[i]? = σ[i]? ∧ (setAll is xs fr)[i]? = fr[i]?) ∧ ∀ i a, ownAt cl (setS is vs σ) (setAll is xs fr) i a → ownAt cl σ fr i a ∨ a ∈ ps
  | [], _, _, _, _, σ, fr, _, _, hl, _, f, r => by
    cases r with
    | nil => exact ⟨f.bl fun a => by simp, fun _ _ => ⟨rfl, rfl⟩, fun i a h => .inl h⟩
    | val => simp at hl
    | own => simp at hl
  | i :: is, _, _, _, _, σ, fr, hlen, hps, hl, hc, f, r => by
    cases r with
    | nil => simp at hl
    | @val bs x xs v vs ps rv r =>
      have hci : cl i = .P := by have := (hc 0 i rfl).1; simpa using this
      have off : ∀ j, i ≠ j → (σ.set i (some v))[j]? = σ[j]? ∧ (fr.set i (some x))[j]? = fr[j]? := fun j hj => by
        rw [List.getElem?_set_ne hj, List.getElem?_set_ne hj]; exact ⟨rfl, rfl⟩
      have offP : ∀ j, cl j ≠ .P → (σ.set i (some v))[j]? = σ[j]? ∧ (fr.set i (some x))[j]? = fr[j]? := fun j hj => off j fun z => hj (z ▸ hci)
      have hlen' : ∀ j a, lenAt cl (σ.set i (some v)) (fr.set i (some x)) j a → H0 a ≠ none := fun j a ⟨z1, z2, z3⟩ => by
        obtain ⟨o1, o2⟩ := offP j (by rw [z1]; exact fun z => nomatch z)
        rw [o1] at z3; rw [o2] at z2
        exact hlen j a ⟨z1, z2, z3⟩
      obtain ⟨g1, g2, g3⟩ := par_sets (is := is) f0 lens hlen' hps (by simpa using hl) (fun j k h => by simpa using hc (j + 1) k (by simpa using h)) (fs_set f hci rv) (by rw [bar_eq offP]; exact r)
      refine ⟨g1, fun j hj => ?_, fun j a h => ?_⟩
      · obtain ⟨q1, q2⟩ := g2 j fun z => hj (List.mem_cons_of_mem _ z)
        obtain ⟨o1, o2⟩ := off j fun z => hj (by simp [z])
        exact ⟨q1.trans o1, q2.trans o2⟩
      · exact (g3 j a h).imp (fun z => (own_iff offP j a).mp z) id
    | @own bs x xs p vs ps t np r =>
      have hci : cl i = .M ∧ i < n := by simpa using hc 0 i rfl
      have hp0 : H0 p = none := hps p List.mem_cons_self
      have f' : FS K cl n (fun a => (BL a ∨ a ∈ ps) ∨ a = p) σ H fr := f.bl fun a => by simp only [List.mem_cons]; exact ⟨fun z => z.elim (fun z => z.elim .inl fun z => .inr (.inr z)) fun z => .inr (.inl z), fun z => z.elim (fun z => .inl (.inl z)) fun z => z.elim .inr fun z => .inl (.inr z)⟩
      have hbar : bar cl (fun a => (BL a ∨ a ∈ ps) ∨ a = p) σ fr = bar cl (fun a => BL a ∨ a ∈ p :: ps) σ fr := by
        have : (fun a => (BL a ∨ a ∈ ps) ∨ a = p) = fun a => BL a ∨ a ∈ p :: ps := funext fun a => propext (by simp only [List.mem_cons]; exact ⟨fun z => z.elim (fun z => z.elim .inl fun z => .inr (.inr z)) fun z => .inr (.inl z), fun z => z.elim (fun z => .inl (.inl z)) fun z => z.elim .inr fun z => .inl (.inr z)⟩)
        rw [this]
      obtain ⟨g, ho⟩ := fs_own (BL := fun a => BL a ∨ a ∈ ps) hci.2 hci.1 f' (by rw [hbar]; exact t) (fun z => z.elim (fun z => f0.blt p z hp0) np) fun j h => hlen j p h hp0
      have off : ∀ j, i ≠ j → (σ.set i (some (.ref p)))[j]? = σ[j]? ∧ (fr.set i (some x))[j]? = fr[j]? := fun j hj => by
        rw [List.getElem?_set_ne hj, List.getElem?_set_ne hj]; exact ⟨rfl, rfl⟩
      have hlen' : ∀ j a, lenAt cl (σ.set i (some (.ref p))) (fr.set i (some x)) j a → H0 a ≠ none := fun j a ⟨z1, z2, z3⟩ => by
        obtain ⟨o1, o2⟩ := off j fun z => by rw [← z, hci.1] at z1; cases z1
        rw [o1] at z3; rw [o2] at z2
        exact hlen j a ⟨z1, z2, z3⟩
      have hb2 : ∀ a, bar cl (fun a => BL a ∨ a ∈ ps) (σ.set i (some (.ref p))) (fr.set i (some x)) a → bar cl (fun a => BL a ∨ a ∈ p :: ps) σ fr a ∨ H a = none := fun a z => .inl (by
        rcases z with z | ⟨j, z⟩
        · exact .inl (z.imp id fun z => List.mem_cons_of_mem _ z)
        · rcases ho j a z with z | ⟨_, z⟩
          · exact .inr ⟨j, z⟩
          · exact .inl (.inr (by simp [z])))
      obtain ⟨g1, g2, g3⟩ := par_sets (is := is) f0 lens hlen' (fun q hq => hps q (List.mem_cons_of_mem _ hq)) (by simpa using hl) (fun j k h => by simpa using hc (j + 1) k (by simpa using h)) g (r.move (O := fun _ => False) .refl (fun _ z => z.elim) hb2 fun _ _ z => z)
      refine ⟨g1, fun j hj => ?_, fun j a h => ?_⟩
      · obtain ⟨q1, q2⟩ := g2 j fun z => hj (List.mem_cons_of_mem _ z)
        obtain ⟨o1, o2⟩ := off j fun z => hj (by simp [z])
        exact ⟨q1.trans o1, q2.trans o2⟩
      · rcases g3 j a h with z | z
        · rcases ho j a z with z | ⟨_, z⟩
          · exact .inl z
          · exact .inr (by simp [z])
        · exact .inr (List.mem_cons_of_mem _ z)
theorem setAll_len : ∀ {is : List Nat} {xs : List PV} {fr : Fr}, (setAll is xs fr).length = fr.length
  | [], _, _ => rfl
  | _ :: _, [], _ => rfl
  | i :: is, x :: xs, fr => by unfold setAll; rw [setAll_len, List.length_set]
/-- .. as a statement's end -/
theorem sp_par {is : List Nat} {k2 : Hp} (f : FS K cl n BL σ H fr) (p : FP' K cl n BL T bs σ H fr xs fr1 vs ps H1) (kp : Kp H1 H2 fun _ => False) (hT : ∀ j ∈ T, cl j = .M) (hl : is.length = bs.length) (hc : ∀ (j i : Nat), is[j]? = some i → cl i = (if bs[j]? = some true then .M else .P) ∧ i < n) :
    SP' K cl n BL (is ++ T) is σ H fr (setAll is xs fr1) (setS is vs σ) H2 := by
  have lens : ∀ i a, lenAt cl σ fr1 i a → H a ≠ none := fun i a ⟨h1, ⟨y, h2, h3⟩, h4⟩ => by
    have nT : i ∉ T := fun z => by rw [hT i z] at h1; cases h1
    rw [p.tch i nT] at h2
    exact lenAt.tr f ⟨h1, ⟨y, h2, h3⟩, h4⟩
  obtain ⟨g1, g2, g3⟩ := par_sets (is := is) f lens lens p.new hl hc (p.fs.move kp) (p.res.move kp (fun _ z => z.elim) (fun _ z => .inl z) fun _ _ z => z)
  refine ⟨g1, (p.kp.mono fun _ ⟨i, h1, h2⟩ => ⟨i, List.mem_append_right _ h1, h2⟩).trans kp fun _ z => z.elim, fun i hi => ?_, fun i hi => (g2 i hi).1, fun i a h => ?_⟩
  · rw [List.mem_append, not_or] at hi
    rw [(g2 i hi.1).2, p.tch i hi.2]
  · rcases g3 i a h with z | z
    · exact .inl (z.of p.le)
    · exact .inr (p.new a z)
end
section
variable {X : Cx} {cl : Nat → Cls} {n na : Nat} {rf : Bool} {T T' T1 T2 T3 : List Nat} {md md' md1 md2 : Md} {a b c e o k : Expr} {es : List Expr} {ma mb mc m me mk : Fr → Option (PV × Fr)} {ms : Fr → Option (List PV × Fr)} {pos p : Pos} {i : Nat} {bs : List Bool}
theorem sf_nil : SF X cl n [] [] [] (fun fr => some ([], fr)) := PA.weak pa_nil fun σ H Q ⟨BL, fr, xs, fr', f, e, k⟩ => by
  cases e
  exact k [] H [] ⟨f.bl fun a => by simp, .refl, fun i y h => ⟨y, h⟩, fun _ _ => rfl, fun _ z => absurd z (by simp), .nil⟩
theorem sf_cons {bb : Bool} (ha : SE X cl n T1 md a ma) (hr : SF X cl n T2 bs es ms) (hm : parOk md bb = true) (hs : starEach (a :: es) X.env = (false, eval a X.env) :: starEach es X.env) :
    SF X cl n (T1 ++ T2) (bb :: bs) (a :: es) (parM bb ma ms) :=
  PA.weak (pa_cons ha hr hs) fun σ H Q ⟨BL, fr, zs, fr2, f, e, k⟩ => by
    obtain ⟨⟨x, fr1⟩, h1, h2⟩ := Option.bind_eq_some_iff.mp e
    by_cases hb : (bb && !isMut x) = true
    · dsimp only at h2; rw [if_pos hb] at h2; cases h2
    dsimp only at h2; rw [if_neg hb] at h2
    obtain ⟨⟨xs, fr3⟩, h3, h4⟩ := Option.map_eq_some_iff.mp h2
    cases h4
    refine ⟨BL, fr, x, fr1, f, h1, fun v H1 p1 => ?_⟩
    have tr : ∀ {H2 BL2 ps vs}, FP' X.K cl n BL2 T2 bs σ H1 fr1 xs fr3 vs ps H2 → Kp H H2 (ownT cl σ fr (T1 ++ T2)) ∧ (∀ (i : Nat) y, fr3[i]? = some (some y) → ∃ y', fr[i]? = some (some y')) ∧ ∀ i, i ∉ T1 ++ T2 → fr3[i]? = fr[i]? := fun p2 => by
      refine ⟨(p1.kp.mono fun _ h => ownT.app (.inl h)).trans p2.kp fun a ⟨i, h1, h2⟩ => .inl ⟨i, List.mem_append_right _ h1, h2.of p1.le⟩, fun i y h => ?_, fun i hi => ?_⟩
      · obtain ⟨y', h'⟩ := p2.le i y h
        exact p1.le i y' h'
      · rw [List.mem_append, not_or] at hi
        rw [p2.tch i hi.2, p1.tch i hi.1]
    cases bb with
    | false =>
      refine ⟨BL, fr1, xs, fr3, p1.fs, h3, fun vs H2 ps p2 => k (v :: vs) H2 ps ?_⟩
      obtain ⟨t1, t2, t3⟩ := tr p2
      refine ⟨p2.fs, t1, t2, t3, fun p hp => p1.kp.tr p (p2.new p hp), .val (Rep.move p2.kp p1.fs.ownT_bar (fun a z => ?_) (p1.rep f hm)) p2.res⟩
      rcases z with (z | z) | ⟨j, z⟩
      · exact .inl (.inl z)
      · exact .inr (p2.new a z)
      · exact .inl (.inr ⟨j, z.of p2.le⟩)
    | true =>
      have hx : isMut x = true := by
        cases q : isMut x with
        | true => rfl
        | false => rw [q] at hb; exact absurd rfl hb
      rcases (p1.weak f (md' := .fresh) hm).res with ⟨z, _⟩ | ⟨p, rfl, hp, g, t⟩
      · rw [z] at hx; cases hx
      refine ⟨_, fr1, xs, fr3, g, h3, fun vs H2 ps p2 => k _ H2 (p :: ps) ?_⟩
      obtain ⟨t1, t2, t3⟩ := tr p2
      have eB : (fun a => (BL a ∨ a = p) ∨ a ∈ ps) = fun a => BL a ∨ a ∈ p :: ps := funext fun a => propext (by simp only [List.mem_cons]; exact ⟨fun z => z.elim (fun z => z.elim .inl fun z => .inr (.inl z)) fun z => .inr (.inr z), fun z => z.elim (fun z => .inl (.inl z)) fun z => z.elim (fun z => .inl (.inr z)) .inr⟩)
      have fs2 := p2.fs
      have res2 := p2.res
      rw [eB] at fs2 res2
      refine ⟨fs2, t1, t2, t3, fun q hq => ?_, .own (t.move p2.kp g.ownT_bar (fun a z => ?_) fun ⟨i, _, h⟩ => g.sep i p h (.inr rfl)) (fun hq => t.ne_none (p2.new p hq)) res2⟩
      · rcases List.mem_cons.mp hq with z | z
        · rw [z]; exact hp
        · exact p1.kp.tr q (p2.new q z)
      · rcases z with (z | z) | ⟨j, z⟩
        · exact .inl (.inl (.inl z))
        · rcases List.mem_cons.mp z with z | z
          · exact .inl (.inl (.inr z))
          · exact .inr (p2.new a z)
        · exact .inl (.inr ⟨j, z.of p2.le⟩)
/-- the class of each target's slot -/
def parC (cl : Nat → Cls) (n : Nat) (is : List Nat) (bs : List Bool) : Prop := ∀ (j i : Nat), is[j]? = some i → cl i = (if bs[j]? = some true then .M else .P) ∧ i < n
def parS (is : List Nat) (ms : Fr → Option (List PV × Fr)) : Fr → Option (Fl × Fr) := fun fr => (ms fr).map fun p => (.nx, setAll is p.1 p.2)
theorem ss_par2 {i j : Nat} {x y : Str} {px py pt : Pos} {kt k2 pt2} (hcalm : X.calm = true) (hN : X.N.Nodup) (hi : X.N[i]? = some x) (hj : X.N[j]? = some y) (hij : i ≠ j)
    (hx : X.env.scope.names.lookup x = some .local) (hy : X.env.scope.names.lookup y = some .local) (ha : SF X cl n T bs [a, b] ms) (hT : ∀ j ∈ T, cl j = .M) (hl : bs.length = 2) (hc : parC cl n [i, j] bs)
    (hw : swappedStores [.Tuple [.Name x px, .Name y py] kt pt] (.Tuple [a, b] k2 pt2) X.env = pure (some [x, y]))
    (hs : swapsWithSole [.Tuple [.Name x px, .Name y py] kt pt] (.Tuple [a, b] k2 pt2) pos.line X.env = pure false) :
    SS X cl n na rf ([i, j] ++ T) [i, j] (.Assign [.Tuple [.Name x px, .Name y py] kt pt] (.Tuple [a, b] k2 pt2) pos) (parS [i, j] ms) :=
  PS.weak (ps_par hcalm hN hi hj hij hx hy ha hw hs) fun D σ H ⟨BL, fr, fl, fr', f, eq, kk⟩ => by
    obtain ⟨⟨xs, fr1⟩, e1, e2⟩ := Option.map_eq_some_iff.mp eq
    cases e2
    refine ⟨BL, fr, xs, fr1, f, e1, fun vs H1 ps p => ?_⟩
    have lv := p.res.len.2
    rw [hl] at lv
    match vs, lv with
    | [v, w], _ => exact ⟨v, w, rfl, kk _ _ (sp_par (k2 := H1) (is := [i, j]) f p .refl hT hl.symm hc)⟩
theorem ss_par3 {i j l : Nat} {x y z : Str} {px py pz pt : Pos} {kt k2 pt2} (hcalm : X.calm = true) (hN : X.N.Nodup) (hi : X.N[i]? = some x) (hj : X.N[j]? = some y) (hl' : X.N[l]? = some z) (hij : i ≠ j) (hil : i ≠ l) (hjl : j ≠ l)
    (hx : X.env.scope.names.lookup x = some .local) (hy : X.env.scope.names.lookup y = some .local) (hz : X.env.scope.names.lookup z = some .local) (ha : SF X cl n T bs [a, b, c] ms) (hT : ∀ j ∈ T, cl j = .M) (hl : bs.length = 3) (hc : parC cl n [i, j, l] bs)
    (hw : swappedStores [.Tuple [.Name x px, .Name y py, .Name z pz] kt pt] (.Tuple [a, b, c] k2 pt2) X.env = pure (some [x, y, z]))
    (hs : swapsWithSole [.Tuple [.Name x px, .Name y py, .Name z pz] kt pt] (.Tuple [a, b, c] k2 pt2) pos.line X.env = pure false) :
    SS X cl n na rf ([i, j, l] ++ T) [i, j, l] (.Assign [.Tuple [.Name x px, .Name y py, .Name z pz] kt pt] (.Tuple [a, b, c] k2 pt2) pos) (parS [i, j, l] ms) :=
  PS.weak (ps_par3 hcalm hN hi hj hl' hij hil hjl hx hy hz ha hw hs) fun D σ H ⟨BL, fr, fl, fr', f, eq, kk⟩ => by
    obtain ⟨⟨xs, fr1⟩, e1, e2⟩ := Option.map_eq_some_iff.mp eq
    cases e2
    refine ⟨BL, fr, xs, fr1, f, e1, fun vs H1 ps p => ?_⟩
    have lv := p.res.len.2
    rw [hl] at lv
    match vs, lv with
    | [v, w, u], _ => exact ⟨v, w, u, rfl, kk _ _ (sp_par (k2 := H1) (is := [i, j, l]) f p .refl hT hl.symm hc)⟩
theorem gNames_set {K : PySem.W.Frag} : ∀ {is : List Nat} {vs : List V} {σ : L2.St} {H : Hp} {Q : L2.St → Hp → Prop}, vs.length = is.length → Q (setS is vs σ) H → gNames is vs σ H Q
  | [], [], σ, H, Q, _, q => ⟨rfl, q⟩
  | i :: is, v :: vs, σ, H, Q, e, q => ⟨v, vs, rfl, gNames_set (K := K) (by simpa using e) q⟩
  | [], _ :: _, _, _, _, e, _ => by simp at e
  | _ :: _, [], _, _, _, e, _ => by simp at e
/-- any number of targets -/
theorem ss_parN {is : List Nat} {tgs : List Expr} {kt k2 pt pt2} (hcalm : X.calm = true) (hg : PGs X tgs (gNames is)) (ha : SF X cl n T bs es ms) (hT : ∀ j ∈ T, cl j = .M) (hl : is.length = bs.length) (hc : parC cl n is bs) (h30 : is.length ≤ 30)
    (hn : (assignEach tgs X.env).length = is.length) (hst : (assignEach tgs X.env).findIdx? (·.1) = none)
    (hs : swapsWithSole [.Tuple tgs kt pt] (.Tuple es k2 pt2) pos.line X.env = pure false) (hw : swappedStores [.Tuple tgs kt pt] (.Tuple es k2 pt2) X.env = pure none) (h1 : (assignEach [.Tuple tgs kt pt] X.env).map (·.2) = [assign (.Tuple tgs kt pt) X.env]) :
    SS X cl n na rf (is ++ T) is (.Assign [.Tuple tgs kt pt] (.Tuple es k2 pt2) pos) (parS is ms) :=
  PS.weak (ps_asg (pe_tup ha) (pg_tup hcalm hg hn hst) hs hw h1) fun D σ H ⟨BL, fr, fl, fr', f, eq, kk⟩ => by
    obtain ⟨⟨xs, fr1⟩, e1, e2⟩ := Option.map_eq_some_iff.mp eq
    cases e2
    refine ⟨BL, fr, xs, fr1, f, e1, fun vs H1 ps p => ?_⟩
    have lv := p.res.len.2
    refine ⟨by rw [lv, ← hl, sizeLine_eq]; omega, fun q hq => ⟨q, vs, rfl, .of upd_same, by rw [lv, hl], gNames_set (K := X.K) (by rw [lv, hl]) ?_⟩⟩
    exact kk _ _ (sp_par (k2 := H1) (is := is) f p (kp_upd hq) hT hl hc)
/-- target = e, plain slots -/
theorem ss_tgt {tg : Expr} {t : Tg} {is : List Nat} {g0 : TG} (he : SE X cl n T md e me) (hm : md.ok false = true) (hg : PG X tg g0) (hgr : GR X.K cl n t is g0) (his : ∀ i ∈ is, cl i = .P)
    (hs : swapsWithSole [tg] e pos.line X.env = pure false) (hw : swappedStores [tg] e X.env = pure none) (h1 : (assignEach [tg] X.env).map (·.2) = [assign tg X.env]) :
    SS X cl n na rf (is ++ T) is (.Assign [tg] e pos) (fun fr => (me fr).bind fun p => (bindTg t p.1 p.2).map fun fr => (.nx, fr)) :=
  PS.weak (ps_asg he hg hs hw h1) fun D σ H ⟨BL, fr, fl, fr', f, eq, kk⟩ => by
    obtain ⟨⟨x, fr1⟩, e1, e2⟩ := Option.bind_eq_some_iff.mp eq
    obtain ⟨fr2, e3, e4⟩ := Option.map_eq_some_iff.mp e2
    cases e4
    refine ⟨BL, fr, x, fr1, f, e1, fun v H1 p1 => hgr p1.fs (p1.rep f hm) e3 fun σ2 f2 off => kk _ _ ?_⟩
    exact (p1.sp.more (fun _ => List.mem_append_right _) fun _ z => absurd z (by simp)).trans ((sp_target f2 his off).more (fun _ => List.mem_append_left _) fun _ z => z)
end
end EV

set_option linter.all false
set_option Elab.async false
set_option maxRecDepth 100000
/-! Ev17: methods that only read. -/
namespace EV
open PySem L2 PySem.Spec PyProof.Rows

section
variable {X : Cx} {cl : Nat → Cls} {n na : Nat} {rf : Bool} {T T' T1 T2 T3 : List Nat} {md md' md1 md2 : Md} {a b c e o k : Expr} {ma mb mc m me mk mo : Fr → Option (PV × Fr)} {ms : Fr → Option (List PV × Fr)} {pos p cpos apos : Pos} {i : Nat} {am : Am}
theorem indexL_at {x : PV} : ∀ {ys : List PV} {k j : Nat}, indexL x ys k = some j → ∃ i y, j = k + i ∧ ys[i]? = some y ∧ pyEq y x = true ∧ ∀ (m : Nat) z, m < i → ys[m]? = some z → pyEq z x = false
  | [], _, _, h => by cases h
  | y :: ys, k, j, h => by
    unfold indexL at h
    by_cases e : pyEq y x = true
    · rw [if_pos e] at h; cases h
      exact ⟨0, y, rfl, rfl, e, fun m z hm => absurd hm (Nat.not_lt_zero _)⟩
    · rw [if_neg e] at h
      obtain ⟨i, z, h1, h2, h3, h4⟩ := indexL_at h
      refine ⟨i + 1, z, by omega, by simpa using h2, h3, fun m w hm hw => ?_⟩
      cases m with
      | zero => simp at hw; subst hw; simpa using e
      | succ m => exact h4 m w (by omega) (by simpa using hw)
theorem args_one {K : PySem.W.Frag} {B : Addr → Prop} {σ : L2.St} {H : Hp} {fr : Fr} {xs : List PV} {vs : List V} {am : Am} (h : ArgsR K B σ H fr [am] xs vs) : ∃ x v, xs = [x] ∧ vs = [v] ∧ ArgR K B σ H fr am x v := by
  cases h with
  | cons r t => cases t; exact ⟨_, _, rfl, rfl, r⟩
/-- a method's reading, by values: the receiver a list -/
theorem se_lidx (ho : SE X cl n T1 md1 o mo) (ha : SA X cl n T2 [am] [e] ms) (hoff : md1.off T2 = true) (ham : ∀ i, am ≠ .m i) (hu : X.A.units + 65 < cLine)
    (hbase : attributeBase o "index" X.env (eval o X.env) = eval o X.env)
    (hfew : ((backTo cpos (starEach [e] X.env)).all (fun x => !x.1) && (backToKw cpos (keywordEach [] X.env)).all (fun x => x.1.isSome)
      && decide (([e] : List Expr).length + ([] : List Keyword).length + (if ([] : List Keyword).isEmpty then 0 else 1) < 30)) = true)
    (hline : (apos.endLine == cpos.line) = true) (hs : starEach [e] X.env = (false, eval e X.env) :: starEach [] X.env) (hplain : (backTo cpos (starEach [] X.env)).any (·.1) = false) :
    SE X cl n (T1 ++ T2) .val (.Call (.Attribute o "index" apos) [e] [] cpos) (fun fr => (mo fr).bind fun p => if recvOk .index p.1 = true then (ms p.2).bind fun q => (methop .index p.1 q.1).map fun v => (v, q.2) else none) :=
  PE.weak (pe_bm PySem.F.plainAttrs_list PySem.F.slot_list_index PySem.F.type_list_index (mt_indexD hu) ho ha hbase hfew hline hs hplain) fun σ H Q ⟨BL, fr, z, fr2, f, eq, kk⟩ => by
    obtain ⟨⟨x, fr1⟩, e1, e2⟩ := Option.bind_eq_some_iff.mp eq
    by_cases hl : recvOk .index x = true
    case neg => dsimp only at e2; rw [if_neg hl] at e2; cases e2
    dsimp only at e2; rw [if_pos hl] at e2
    obtain ⟨⟨ys, fr3⟩, e3, e4⟩ := Option.bind_eq_some_iff.mp e2
    obtain ⟨w, e5, e6⟩ := Option.map_eq_some_iff.mp e4
    cases e6
    cases x <;> first | (cases hl; done) | skip
    rename_i xs
    refine ⟨BL, fr, _, fr1, f, e1, fun v H1 p1 => ?_⟩
    obtain ⟨a, zs, ev, r1, r2, r3⟩ := p1.repT f
    subst ev
    refine ⟨tyV_list r1, BL, fr1, ys, _, p1.fs, e3, fun vs H2 p2 => ?_⟩
    obtain ⟨y, u, ey, eu, ar⟩ := args_one p2.res
    subst ey eu
    have ry : RepT X.K H2 _ y u := ArgsR.repT p2.fs ar ham
    simp only [methop] at e5
    by_cases hd : (datOk y && datOkL xs && decide (depthL xs ≤ 40) && decide (depth y ≤ 40)) = true
    case neg => rw [if_neg hd] at e5; cases e5
    rw [if_pos hd] at e5
    simp only [Bool.and_eq_true, decide_eq_true_eq] at hd
    obtain ⟨⟨⟨d1, d2⟩, d3⟩, d4⟩ := hd
    obtain ⟨j, ej, ew⟩ := Option.map_eq_some_iff.mp e5
    subst ew
    obtain ⟨i, z, ei, hz, hzx, hno⟩ := indexL_at ej
    -- the receiver behind the argument
    have e2' : EP' X.K cl n BL T2 .val σ H1 fr1 .non _ .non H2 := ⟨p2.fs, p2.kp, p2.le, p2.tch, .non⟩
    have rl : RepT X.K H2 (bar cl BL σ _) (.lst xs) (.ref a) := p1.repT2 f e2' hoff
    have dl := rl.dp (show datOk (.lst xs) = true from d2)
    refine ⟨a, u, toD y, toDL xs, i, toD z, rfl, rfl, dl, ry.dp d1, ?_, ?_, ?_, ?_, fun m z' hm hz' => ?_, ?_⟩
    · show ((PyData.list (toDL xs)).canLay0 && decide ((PyData.list (toDL xs)).depth ≤ 64)) = true
      have c1 := lay_toD (.lst xs) d2
      have c2 := depth_toD (.lst xs) d2
      simp only [toD, depth] at c1 c2
      rw [c1, c2]; simp; omega
    · show ((toD y).canLay0 && decide ((toD y).depth ≤ 64)) = true
      rw [lay_toD y d1, depth_toD y d1]; simp; omega
    · rw [toDL_map, List.getElem?_map, hz]; rfl
    · rw [← pyEq_eqv z y (datOkL_mem d2 z (List.mem_of_getElem? hz)) d1]; exact hzx
    · rw [toDL_map, List.getElem?_map] at hz'
      cases q : xs[m]? with
      | none => rw [q] at hz'; cases hz'
      | some w =>
        rw [q] at hz'
        have : toD w = z' := by simpa using hz'
        rw [← this, ← pyEq_eqv w y (datOkL_mem d2 w (List.mem_of_getElem? q)) d1]
        exact hno m w hm q
    · have : j = i := by omega
      subst this
      exact kk _ _ ⟨p2.fs, (p1.kp.mono fun _ h => ownT.app (.inl h)).trans p2.kp fun a ⟨i, h1, h2⟩ => .inl ⟨i, List.mem_append_right _ h1, h2.of p1.le⟩, EP'.seq_le p1 e2', EP'.seq_tch p1 e2', .int _⟩
end
end EV

set_option linter.all false
set_option Elab.async false
set_option maxRecDepth 100000
/-! Ev18: chains of comparisons; facts of the text. -/
namespace EV
open PySem L2 PySem.Spec PyProof.Rows

section
variable {X : Cx} {cl : Nat → Cls} {n na : Nat} {rf : Bool} {T T' T1 T2 T3 : List Nat} {md md' md1 md2 md3 : Md} {a b c e o k : Expr} {es : List Expr} {ma mb mc m me mk mo : Fr → Option (PV × Fr)} {ms : Fr → Option (List PV × Fr)} {pos p cpos apos : Pos} {i : Nat}
def chnM (g g' : PV → PV → Option PV) (ma mb mc : Fr → Option (PV × Fr)) : Fr → Option (PV × Fr) := fun fr => (ma fr).bind fun p => (mb p.2).bind fun q => ((g p.1 q.1).bind blOf).bind fun t =>
      if t = true then (mc q.2).bind fun r => (g' q.1 r.1).map fun v => (v, r.2) else some (.bl false, q.2)
theorem blB {K : PySem.W.Frag} {H H' : Hp} {B : Addr → Prop} {t : Bool} {w : V} (o : OR' K H H' B (.bl t) w) : w = .bl t ∧ Kp H H' (fun _ => False) := by
  rcases o.res with ⟨_, r⟩ | ⟨p, _, _, z⟩
  · cases r; exact ⟨rfl, o.kp⟩
  · exact z.elim
theorem se_chn {o o' : CmpOp} {g g' : PV → PV → Option PV} (ho : BinS X (compareOp o) g) (ho' : BinS X (compareOp o') g') (ha : SE X cl n T1 md1 a ma) (hb : SE X cl n T2 md2 b mb) (hc : SE X cl n T3 md3 c mc) (h1 : md1.off T2 = true) (h2 : md2.ok false = true)
    (hm : lastMarks [o, o'] [b, c] = false) : SE X cl n (T1 ++ (T2 ++ T3)) .val (.Compare a [o, o'] [b, c] pos) (chnM g g' ma mb mc) :=
  PE.weak (pe_chain ho ho' ha hb hc hm) fun σ H Q ⟨BL, fr, z, fr2, f, e, k⟩ => by
    obtain ⟨⟨x, fr1⟩, e1, e2⟩ := Option.bind_eq_some_iff.mp e
    obtain ⟨⟨y, fr3⟩, e3, e4⟩ := Option.bind_eq_some_iff.mp e2
    obtain ⟨t, e5, e6⟩ := Option.bind_eq_some_iff.mp e4
    obtain ⟨bt, e7, e8⟩ := Option.bind_eq_some_iff.mp e5
    obtain rfl := blOf_some e8
    refine ⟨BL, fr, x, fr1, f, e1, fun v H1 p1 => ⟨BL, fr1, y, fr3, p1.fs, e3, fun u H2 p2 => ?_⟩⟩
    refine ⟨_, x, y, _, p2.fs.bar_tr, p1.repT2 f p2 h1, p2.repT p1.fs, e7, fun w H3 o3 => ?_⟩
    obtain ⟨rfl, kp3⟩ := blB o3
    have p12 : EP' X.K cl n BL (T1 ++ T2) .val σ H fr (.bl t) fr3 (.bl t) H3 := (ep_bl f (ep_op2 f p1 p2 o3)).2
    refine ⟨t, rfl, ?_⟩
    cases t with
    | false =>
      cases e6
      exact k _ _ (p12.more (T' := T1 ++ (T2 ++ T3)) fun i h => by simp only [List.mem_append] at h ⊢; rcases h with h | h <;> simp [h])
    | true =>
      obtain ⟨⟨x3, fr4⟩, e9, e10⟩ := Option.bind_eq_some_iff.mp e6
      obtain ⟨w3, e11, e12⟩ := Option.map_eq_some_iff.mp e10
      cases e12
      have f3 : FS X.K cl n BL σ H3 fr3 := p12.fs
      have ry : Rep X.K H3 (bar cl BL σ fr3) y u := Rep.move kp3 (fun _ z => z.elim) (fun _ z => .inl z) (p2.rep p1.fs h2)
      refine ⟨BL, fr3, x3, _, f3, e9, fun v3 H4 p3 => ?_⟩
      have ry4 : Rep X.K H4 (bar cl BL σ _) y u := Rep.over f3 p3 ry
      refine ⟨_, y, x3, _, p3.fs.bar_tr, ry4.top, p3.repT f3, e11, fun w4 H5 o5 => ?_⟩
      exact k _ _ (((ep_op2 f p12 p3 o5).weak f (md' := .val) rfl).more (T' := T1 ++ (T2 ++ T3)) fun i h => by simp only [List.mem_append] at h ⊢; rcases h with (h | h) | h <;> simp [h])
end
/-! ### facts of the text -/
def notStar : Expr → Bool
  | .Starred _ _ => false | _ => true
def isSlc : Expr → Bool
  | .Slice _ _ _ _ => true | _ => false
def isSt : Expr → Bool
  | .Set _ _ _ => true | _ => false
def isCompr : Expr → Bool
  | .ListComp .. => true | .SetComp .. => true | .DictComp .. => true | _ => false
def isTest : Expr → Bool
  | .UnaryOp .Not _ _ => true | .BoolOp .. => true | .IfExp .. => true | .Compare .. => true | _ => false
def isSup : Expr → Bool
  | .Call (.Name _ _) [] [] _ => true | _ => false
section
variable {env : Env} {e a : Expr} {es : List Expr} {pos : Pos}
theorem star_ok (h : notStar e = true) : starEach (e :: es) env = (false, eval e env) :: starEach es env := by
  cases e <;> first | rfl | (cases h; done)
theorem starF : ∀ {es : List Expr}, (es.all notStar) = true → ∀ p ∈ starEach es env, p.1 = false
  | [], _, p, hp => by cases hp
  | e :: es, h, p, hp => by
    simp only [List.all_cons, Bool.and_eq_true] at h
    rw [star_ok h.1] at hp
    rcases List.mem_cons.mp hp with z | z
    · rw [z]
    · exact starF h.2 p z
theorem plain_ok (h : (es.all notStar) = true) : (backTo pos (starEach es env)).any (·.1) = false := by
  rw [List.any_eq_false]
  intro p hp
  obtain ⟨q, hq, e⟩ := List.mem_map.mp hp
  have := starF h q hq
  obtain ⟨q1, q2⟩ := q
  subst e
  simpa using this
theorem few_ok (h : (es.all notStar) = true) (hl : es.length < 30) : ((backTo pos (starEach es env)).all (fun x => !x.1) && (backToKw pos (keywordEach [] env)).all (fun x => x.1.isSome)
      && decide (es.length + ([] : List Keyword).length + (if ([] : List Keyword).isEmpty then 0 else 1) < 30)) = true := by
  have h1 : ((backTo pos (starEach es env)).all fun x => !x.1) = true := by
    rw [List.all_eq_true]
    intro p hp
    obtain ⟨q, hq, e⟩ := List.mem_map.mp hp
    have := starF h q hq
    obtain ⟨q1, q2⟩ := q
    subst e
    simpa using this
  rw [h1]
  simpa [keywordEach, backToKw] using hl
theorem plainIx_ok (h : isSlc e = false) : PlainIx e := by
  intro o i
  cases e <;> first | rfl | (cases h; done)
theorem isTrue_ok (h : isTest e = false) : ∀ whole, isTrue e env whole = (do let v ← whole; standAt e.pos; holding [v] (truthy v)) := by
  intro whole
  cases e <;> first | rfl | (cases h; done) | skip
  rename_i op _ _
  cases op <;> first | rfl | (cases h; done)
theorem folded_ok (h : isSt e = false) : ∀ x, foldedSetIterable e env x = pure x := by
  intro x
  cases e <;> first | rfl | (cases h; done)
theorem marks_ok {op : CmpOp} (h : isSt e = false) : behindInMarks op e = false := by
  cases e <;> first | rfl | (cases h; done)
theorem base_ok {attr : Str} {whole : Sem Value} (h : isSup e = false) : attributeBase e attr env whole = whole := by
  cases e <;> first | rfl | skip
  rename_i f args kws p
  cases f <;> first | rfl | skip
  cases args <;> first | rfl | skip
  cases kws <;> first | rfl | (cases h; done)
theorem swaps_no {tg : Option Expr} {l : Nat} (h : isCompr e = false) : swapsWith e tg l env = pure false := by
  cases e <;> first | rfl | (cases h; done)
theorem sole_no {tg : Expr} {l : Nat} (h : isCompr e = false) : swapsWithSole [tg] e l env = pure false := swaps_no h
def isNm : Expr → Bool
  | .Name _ _ => true | _ => false
theorem sole_tg {tg : Expr} {l : Nat} (h : isNm tg = false) : swapsWithSole [tg] e l env = pure false := by
  show swapsWith e (some tg) l env = pure false
  cases e <;> first | rfl | (cases tg <;> first | rfl | (cases h; done))
theorem sub_asg {o k : Expr} {p : Pos} (h : isSlc k = false) : ∀ v, assign (.Subscript o k p) env v = (do
      let ov ← holding [v] (eval o env)
      let iv ← holding [v, ov] (eval k env)
      standAt p
      holding [v, ov, iv] (setItem ov iv v)
      release [v, ov, iv] []) := by
  intro v
  cases k <;> first | rfl | (cases h; done)
theorem sub_aug {k : Expr} (h : isSlc k = false) : ∀ ov iv new, augStore k ov iv new = (do holding [new, ov, iv] (setItem ov iv new); release [new, ov, iv] []; pure .next) := by
  intro ov iv new
  cases k <;> first | rfl | (cases h; done)
def isTupE : Expr → Bool
  | .Tuple .. => true | _ => false
def isSeqTg : Expr → Bool
  | .Tuple .. => true | .List .. => true | _ => false
theorem stores_no {tg : Expr} (h : (isSeqTg tg && isTupE e) = false) : swappedStores [tg] e env = pure none := by
  cases tg <;> first | rfl | (cases e <;> first | rfl | (cases h; done))
end
end EV

set_option linter.all false
set_option Elab.async false
set_option maxRecDepth 100000
/-! Ev19: a chain as a test; calls without arguments; facts of the text for tuple assignments. -/
namespace EV
open PySem L2 PySem.Spec PyProof.Rows

section
variable {X : Cx} {cl : Nat → Cls} {n na : Nat} {rf : Bool} {T T' T1 T2 T3 : List Nat} {md md' md1 md2 md3 : Md} {a b c e o k : Expr} {es : List Expr} {ma mb mc m me mk mo : Fr → Option (PV × Fr)} {ms : Fr → Option (List PV × Fr)} {pos p cpos apos : Pos} {i : Nat}
theorem st_chn {o o' : CmpOp} {g g' : PV → PV → Option PV} (ho : BinS X (compareOp o) g) (ho' : BinS X (compareOp o') g') (ha : SE X cl n T1 md1 a ma) (hb : SE X cl n T2 md2 b mb) (hc : SE X cl n T3 md3 c mc) (h1 : md1.off T2 = true) (h2 : md2.ok false = true)
    (hm : lastMarks [o, o'] [b, c] = false) : ST X cl n (T1 ++ (T2 ++ T3)) (.Compare a [o, o'] [b, c] pos) (chnM g g' ma mb mc) :=
  PT.weak (pt_chain ho ho' ha hb hc hm) fun σ H Q ⟨BL, fr, z, fr2, f, e, k⟩ => by
    obtain ⟨⟨x, fr1⟩, e1, e2⟩ := Option.bind_eq_some_iff.mp e
    obtain ⟨⟨y, fr3⟩, e3, e4⟩ := Option.bind_eq_some_iff.mp e2
    obtain ⟨t, e5, e6⟩ := Option.bind_eq_some_iff.mp e4
    obtain ⟨bt, e7, e8⟩ := Option.bind_eq_some_iff.mp e5
    obtain rfl := blOf_some e8
    refine ⟨BL, fr, x, fr1, f, e1, fun v H1 p1 => ⟨BL, fr1, y, fr3, p1.fs, e3, fun u H2 p2 => ?_⟩⟩
    refine ⟨_, x, y, _, p2.fs.bar_tr, p1.repT2 f p2 h1, p2.repT p1.fs, e7, fun w H3 o3 => ?_⟩
    obtain ⟨rfl, kp3⟩ := blB o3
    have p12 : EP' X.K cl n BL (T1 ++ T2) .val σ H fr (.bl t) fr3 (.bl t) H3 := (ep_bl f (ep_op2 f p1 p2 o3)).2
    refine ⟨t, rfl, ?_⟩
    cases t with
    | false =>
      cases e6
      exact ⟨_, rfl, k _ (p12.more (T' := T1 ++ (T2 ++ T3)) fun i h => by simp only [List.mem_append] at h ⊢; rcases h with h | h <;> simp [h])⟩
    | true =>
      obtain ⟨⟨x3, fr4⟩, e9, e10⟩ := Option.bind_eq_some_iff.mp e6
      obtain ⟨w3, e11, e12⟩ := Option.map_eq_some_iff.mp e10
      cases e12
      have f3 : FS X.K cl n BL σ H3 fr3 := p12.fs
      have ry : Rep X.K H3 (bar cl BL σ fr3) y u := Rep.move kp3 (fun _ z => z.elim) (fun _ z => .inl z) (p2.rep p1.fs h2)
      refine ⟨BL, fr3, x3, _, f3, e9, fun v3 H4 p3 => ?_⟩
      have ry4 : Rep X.K H4 (bar cl BL σ _) y u := Rep.over f3 p3 ry
      refine ⟨_, y, x3, _, p3.fs.bar_tr, ry4.top, p3.repT f3, e11, fun w4 H5 o5 => ?_⟩
      obtain ⟨rfl, p5⟩ := ep_bl f (ep_op2 f p12 p3 o5)
      exact ⟨_, rfl, k _ (p5.more (T' := T1 ++ (T2 ++ T3)) fun i h => by simp only [List.mem_append] at h ⊢; rcases h with (h | h) | h <;> simp [h])⟩
end
/-! ### names -/
def fdIx (x : Str) : List Str → Option Nat
  | [] => none
  | y :: r => if x = y then some 0 else (fdIx x r).map (· + 1)
theorem fdIx_get {x : Str} : ∀ {N : List Str} {i : Nat}, fdIx x N = some i → N[i]? = some x
  | y :: r, i, h => by
    unfold fdIx at h
    split at h
    · cases h; rename_i e; rw [e]; rfl
    · obtain ⟨j, h1, h2⟩ := Option.map_eq_some_iff.mp h
      subst h2
      simpa using fdIx_get h1
theorem get_lt {α : Type} {l : List α} {i : Nat} {x : α} (h : l[i]? = some x) : i < l.length := (List.getElem?_eq_some_iff.mp h).1
/-- kinds of names that can be read, stored -/
def visK : Option NameKind → Bool
  | some .local => true | some .cell => true | some .free => true | _ => false
def locK : Option NameKind → Bool
  | some .local => true | some .cell => true | _ => false
def isLoc : Option NameKind → Bool
  | some .local => true | _ => false
def isGlob : Option NameKind → Bool
  | some .globalImplicit => true | _ => false
theorem vis_of {sc : Scope} {x : Str} (h : visK (sc.names.lookup x) = true) : Vis sc x := by
  unfold Vis
  revert h
  cases sc.names.lookup x with
  | none => exact fun h => nomatch h
  | some k => cases k <;> simp [visK]
theorem loc_of {sc : Scope} {x : Str} (h : locK (sc.names.lookup x) = true) : L2.Loc sc x := by
  unfold L2.Loc
  revert h
  cases sc.names.lookup x with
  | none => exact fun h => nomatch h
  | some k => cases k <;> simp [locK]
theorem isLoc_of {o : Option NameKind} (h : isLoc o = true) : o = some .local := by
  cases o with
  | none => cases h
  | some k => cases k <;> first | rfl | cases h
theorem isGlob_of {o : Option NameKind} (h : isGlob o = true) : o = some .globalImplicit := by
  cases o with
  | none => cases h
  | some k => cases k <;> first | rfl | cases h
/-- plain names -/
def nmOf : Expr → Option (Str × Pos)
  | .Name x p => some (x, p) | _ => none
theorem nmOf_eq {e : Expr} {x : Str} {p : Pos} (h : nmOf e = some (x, p)) : e = .Name x p := by
  cases e <;> first | (simp [nmOf] at h; done) | skip
  cases h; rfl
theorem each_nm {env : Env} : ∀ {tgs : List Expr}, (tgs.all isNm) = true → (assignEach tgs env).length = tgs.length ∧ (assignEach tgs env).findIdx? (·.1) = none ∧ (assignEach tgs env).map (·.2) = tgs.map fun t => assign t env
  | [], _ => ⟨rfl, rfl, rfl⟩
  | e :: es, h => by
    simp only [List.all_cons, Bool.and_eq_true] at h
    obtain ⟨h1, h2, h3⟩ := each_nm (env := env) h.2
    have he : assignEach (e :: es) env = (false, assign e env) :: assignEach es env := by
      cases e <;> first | rfl | (cases h.1; done)
    rw [he]
    refine ⟨by simp [h1], ?_, by simp [h3]⟩
    rw [List.findIdx?_cons]
    simp [h2]
theorem each_one {tg : Expr} {env : Env} (h : notStar tg = true) : (assignEach [tg] env).map (·.2) = [assign tg env] := by
  cases tg <;> first | rfl | (cases h; done)
/-- two, three plain local names stored from the right -/
def bkF (sc : Scope) : Bool := (match sc.kind with | .function => true | _ => false)
theorem bk_of {env : Env} (h : bkF env.scope = true) : env.blockKind = .function := by
  unfold Env.blockKind
  unfold bkF at h
  split at h
  · rename_i e; rw [e]; rfl
  · cases h
end EV

set_option linter.all false
set_option Elab.async false
set_option maxRecDepth 100000
/-! Ev20: what the compiler knows of a def; the compiler's cases for expressions, each sound. -/
namespace EV
open PySem L2 PySem.Spec PyProof.Rows C8

/-- what is known of a block: slots' names, their kinds, classes; arguments; an own object is returned; names whose cells are its own; constants; defs; places where a slot is read for good -/
structure Gm where
  N : List Str
  sc : Scope
  cls : List Cls
  na : Nat
  rf : Bool
  fn : Str → Bool
  cst : List (Str × Nat × PV)
  tab : List (Str × Nat × Fn)
  mvs : List (Nat × Nat)
def clG (Γ : Gm) : Nat → Cls := fun i => (Γ.cls[i]?).getD .P
def bltNms : List Str := ["abs", "len", "int", "bool", "str", "tuple", "list", "dict", "sorted", "min", "max", "sum", "all", "any", "range", "zip", "isinstance", "set", "ord", "reversed", "enumerate", "ValueError"]
structure Good (Γ : Gm) (C : Calls) (X : Cx) : Prop where
  calm : X.calm = true
  N : X.N = Γ.N
  nd : X.N.Nodup
  sc : X.env.scope = Γ.sc
  units : X.A.units + 65 < cLine
  mg : ∀ x, bltNms.contains x = true → X.mg x = none
  fn : X.fn = Γ.fn
  cst : ∀ x k v, Γ.cst.lookup x = some (k, v) → ∃ u w, X.mg x = some u ∧ RelV w u ∧ ∀ H B, Rep X.K H B v w
  cal : ∀ x i F, Γ.tab.lookup x = some (i, F) → ∃ k j, Cal X.prog X.w X.K X.mg X.base k x (spF X.K F (C i)) [] ∧ Room j X.A ∧ k ≤ j
  lR : ∀ x i F, Γ.tab.lookup x = some (i, F) → ∀ vs r outs, C i vs = some (r, outs) → outs.length = F.mps.length

theorem SE.cg {X : Cx} {cl : Nat → Cls} {n : Nat} {T : List Nat} {md : Md} {e : Expr} {m m' : Fr → Option (PV × Fr)} (h : SE X cl n T md e m) (q : ∀ fr, m' fr = m fr) : SE X cl n T md e m' := by
  rw [funext q]; exact h
theorem ST.cg {X : Cx} {cl : Nat → Cls} {n : Nat} {T : List Nat} {e : Expr} {m m' : Fr → Option (PV × Fr)} (h : ST X cl n T e m) (q : ∀ fr, m' fr = m fr) : ST X cl n T e m' := by
  rw [funext q]; exact h
theorem SW.cg {X : Cx} {cl : Nat → Cls} {n : Nat} {T : List Nat} {e : Expr} {m m' : Fr → Option (PV × Fr)} (h : SW X cl n T e m) (q : ∀ fr, m' fr = m fr) : SW X cl n T e m' := by
  rw [funext q]; exact h
theorem SA.cg {X : Cx} {cl : Nat → Cls} {n : Nat} {T : List Nat} {ams : List Am} {e : List Expr} {m m' : Fr → Option (List PV × Fr)} (h : SA X cl n T ams e m) (q : ∀ fr, m' fr = m fr) : SA X cl n T ams e m' := by
  rw [funext q]; exact h
theorem SI.cg {X : Cx} {cl : Nat → Cls} {n : Nat} {T : List Nat} {md : Md} {tg e : Expr} {m m' : Fr → Option (List PV × Fr)} (h : SI X cl n T md tg e m) (q : ∀ fr, m' fr = m fr) : SI X cl n T md tg e m' := by
  rw [funext q]; exact h
theorem SQ.cg {X : Cx} {cl : Nat → Cls} {n : Nat} {T : List Nat} {ifs : List Expr} {m m' : Fr → Option (Bool × Fr)} (h : SQ X cl n T ifs m) (q : ∀ fr, m' fr = m fr) : SQ X cl n T ifs m' := by
  rw [funext q]; exact h
theorem SO.cg {X : Cx} {cl : Nat → Cls} {n : Nat} {T : List Nat} {e : Option Expr} {m m' : Fr → Option (Option Int × Fr)} (h : SO X cl n T e m) (q : ∀ fr, m' fr = m fr) : SO X cl n T e m' := by
  rw [funext q]; exact h

abbrev RE := Ex × List Nat × Md
abbrev RT := Ex × List Nat
abbrev RA := List Ex × List Nat × List Am
def AllM (Γ : Gm) (T : List Nat) : Prop := ∀ i ∈ T, clG Γ i = .M
theorem AllM.app {Γ : Gm} {T T' : List Nat} (h : AllM Γ T) (h' : AllM Γ T') : AllM Γ (T ++ T') := fun i hi => (List.mem_append.mp hi).elim (h i) (h' i)
theorem AllM.nil {Γ : Gm} : AllM Γ [] := fun i hi => absurd hi (by simp)

section
variable (C : Calls) (Γ : Gm)
def OkE (e : Expr) (r : RE) : Prop := AllM Γ r.2.1 ∧ ∀ X, Good Γ C X → SE X (clG Γ) Γ.N.length r.2.1 r.2.2 e (ev C r.1)
def OkT (e : Expr) (r : RT) : Prop := AllM Γ r.2 ∧ ∀ X, Good Γ C X → ST X (clG Γ) Γ.N.length r.2 e (ev C r.1)
def OkW (e : Expr) (r : RT) : Prop := AllM Γ r.2 ∧ ∀ X, Good Γ C X → SW X (clG Γ) Γ.N.length r.2 e (ev C r.1)
def OkA (es : List Expr) (r : RA) : Prop := AllM Γ r.2.1 ∧ (es.all notStar) = true ∧ r.2.2.length = es.length ∧ ∀ X, Good Γ C X → SA X (clG Γ) Γ.N.length r.2.1 r.2.2 es (evs C r.1)
/-- a source: a list of items -/
def OkI (tg e : Expr) (r : RE) : Prop := AllM Γ r.2.1 ∧ ∀ X, Good Γ C X → SI X (clG Γ) Γ.N.length r.2.1 r.2.2 tg e (fun fr => (ev C r.1 fr).bind fun p => (iterV p.1).map fun xs => (xs, p.2))
def OkO (e : Option Expr) (r : Option Ex × List Nat) : Prop := AllM Γ r.2 ∧ ∀ X, Good Γ C X → SO X (clG Γ) Γ.N.length r.2 e (evo C r.1)
def OkQ (e : List Expr) (r : Option Ex × List Nat) : Prop := AllM Γ r.2 ∧ ∀ X, Good Γ C X → SQ X (clG Γ) Γ.N.length r.2 e (evc C r.1)
def OkG (e : Expr) (r : Tg × List Nat) : Prop := (∀ i ∈ r.2, clG Γ i = .P) ∧ ∃ g0 : PySem.W.Frag → TG, (∀ X, Good Γ C X → PG X e (g0 X.K)) ∧ ∀ K, GR K (clG Γ) Γ.N.length r.1 r.2 (g0 K)
end

section
variable {C : Calls} {Γ : Gm} {X : Cx} {e a b c : Expr} {es : List Expr} {ra rb rc : RE} {rt rt' : RT} {pos p p1 p2 p3 : Pos} {k : Nat} {x : Str}
theorem Good.nd' (g : Good Γ C X) : Γ.N.Nodup := g.N ▸ g.nd
theorem Good.gl (g : Good Γ C X) (h : isGlob (Γ.sc.names.lookup x) = true) : Gl X x := by
  show X.env.scope.names.lookup x = _
  rw [g.sc]; exact isGlob_of h
theorem Good.hu (g : Good Γ C X) : X.A.units + 64 < cLine := by have := g.units; omega
theorem se_conK {cl : Nat → Cls} {n : Nat} {e : Expr} {w : V} {x : PV} (h : PE X e (tC w)) (r : ∀ H B, Rep X.K H B x w) : SE X cl n [] .val e (fun fr => some (x, fr)) := PE.weak h fun σ H Q ⟨BL, fr, y, fr', f, e, k⟩ => by
  cases e
  exact k w H (ep_self f (r H _))
/-! ### names, constants -/
def cNm (Γ : Gm) (x : Str) (p : Pos) : Option RE :=
  match fdIx x Γ.N with
  | some i => if (visK (Γ.sc.names.lookup x) && !(x == ("__debug__" : Str)) && !(x == ("__classdict__" : Str))) = true then
      match clG Γ i with
      | .P => some (.sl i, [], .val)
      | .L => some (.sl i, [], .pl i)
      | .M => if Γ.mvs.contains (p.line, p.col) = true then some (.mv i, [i], .val) else some (.sl i, [], .pl i)
    else none
  | none => if (isGlob (Γ.sc.names.lookup x) && !(x == ("__debug__" : Str))) = true then (Γ.cst.lookup x).map fun kv => (.cst kv.1 kv.2, [], .val) else none
theorem not_tt {b : Bool} (h : (!b) = true) : b = false := by simpa using h
theorem pe_nm (g : Good Γ C X) {i : Nat} (h : fdIx x Γ.N = some i) (hv : (visK (Γ.sc.names.lookup x) && !(x == ("__debug__" : Str)) && !(x == ("__classdict__" : Str))) = true) : PE X (.Name x p) (tVar i) := by
  simp only [Bool.and_eq_true] at hv
  obtain ⟨⟨h1, h2⟩, h3⟩ := hv
  exact pe_var (by rw [g.N]; exact fdIx_get h) (by rw [g.sc]; exact vis_of h1) (not_tt h2) (not_tt h3)
theorem ok_nm (h : cNm Γ x p = some ra) : OkE C Γ (.Name x p) ra := by
  unfold cNm at h
  split at h
  · rename_i i hi
    split at h
    · rename_i hv
      split at h
      · cases h
        rename_i hc
        exact ⟨.nil, fun X g => (se_slP (pe_nm g hi hv) hc).cg fun fr => by simp only [ev]⟩
      · cases h
        exact ⟨.nil, fun X g => (se_sl (pe_nm g hi hv)).cg fun fr => by simp only [ev]⟩
      · rename_i hc
        split at h
        · cases h
          exact ⟨fun j hj => by rw [List.mem_singleton.mp hj]; exact hc, fun X g => (se_mv (pe_nm g hi hv) hc).cg fun fr => by simp only [ev]⟩
        · cases h
          exact ⟨.nil, fun X g => (se_sl (pe_nm g hi hv)).cg fun fr => by simp only [ev]⟩
    · cases h
  · split at h
    · rename_i hv
      simp only [Bool.and_eq_true] at hv
      obtain ⟨⟨j, v⟩, h1, h2⟩ := Option.map_eq_some_iff.mp h
      subst h2
      refine ⟨.nil, fun X g => ?_⟩
      obtain ⟨u, w, q1, q2, q3⟩ := g.cst _ _ _ h1
      exact (se_conK (pe_glob (g.gl hv.1) q1 q2 (not_tt hv.2)) fun H B => q3 H B).cg fun fr => by simp only [ev]
    · cases h
end
end EV

set_option linter.all false
set_option Elab.async false
set_option maxRecDepth 100000
/-! Ev21: the compiler's cases, each sound: operators, tests, displays, subscripts. -/
namespace EV
open PySem L2 PySem.Spec PyProof.Rows C8

def boOf : Operator → Option Bo
  | .Add => some .add | .Sub => some .sub | .Mult => some .mul | .FloorDiv => some .fdiv | .Mod => some .mod | .Pow => some .pow | .LShift => some .shl | _ => none
def coOf : CmpOp → Co
  | .Eq => .eq | .NotEq => .ne | .Lt => .lt | .LtE => .le | .Gt => .gt | .GtE => .ge | .Is => .is | .IsNot => .isnt | .In => .isin | .NotIn => .notin
section
variable {C : Calls} {Γ : Gm} {X : Cx} {e a b c : Expr} {es : List Expr} {ra rb rc : RE} {rt rt' : RT} {pos p p1 p2 p3 : Pos} {k : Nat} {x : Str}
theorem bo_ok {o : Operator} {bo : Bo} (h : boOf o = some bo) : BinS X (binaryOp o) (binop bo) := by
  cases o <;> first | (cases h; done) | skip
  all_goals cases h
  · exact bin_add
  · exact bin_sub
  · exact bin_mul
  · exact bin_mod
  · exact bin_pow
  · exact bin_shl
  · exact bin_fdiv
theorem co_ok (hu : X.A.units + 64 < cLine) (o : CmpOp) : BinS X (compareOp o) (cmpop (coOf o)) := by
  cases o
  · exact cmp_eq hu
  · exact cmp_ne hu
  · exact cmp_lt
  · exact cmp_le
  · exact cmp_gt
  · exact cmp_ge
  · exact cmp_is
  · exact cmp_isnt
  · exact cmp_in hu
  · exact cmp_notin hu
/-! each case: what it makes, if it makes something -/
def kNone : RE := (.non, [], .val)
theorem ok_none : OkE C Γ (.Constant .none k pos) kNone := ⟨.nil, fun X g => (se_con pe_non .non).cg fun fr => by simp only [kNone, ev]⟩
theorem ok_bool {b : Bool} : OkE C Γ (.Constant (.bool b) k pos) (.bl b, [], .val) := ⟨.nil, fun X g => (se_con pe_bl (.bl b)).cg fun fr => by simp only [ev]⟩
theorem ok_int {i : Int} : OkE C Γ (.Constant (.int i) k pos) (.int i, [], .val) := ⟨.nil, fun X g => (se_con pe_int (.int i)).cg fun fr => by simp only [ev]⟩
theorem tStr_tl (x : Str) : tStr x.cps.toList = x := TL.mk_tl x
theorem ok_str : OkE C Γ (.Constant (.str x) k pos) (.str x.cps.toList, [], .val) := ⟨.nil, fun X g => (se_con pe_str (by
  intro K H B
  have := Rep.str (K := K) (H := H) (B := B) x.cps.toList
  rw [tStr_tl] at this
  exact this)).cg fun fr => by simp only [ev]⟩
def kBin (o : Operator) (ra rb : RE) : Option RE := (boOf o).bind fun bo => if ra.2.2.off rb.2.1 = true then some (.bin bo ra.1 rb.1, ra.2.1 ++ rb.2.1, .fresh) else none
theorem ok_bin {o : Operator} {r : RE} (ha : OkE C Γ a ra) (hb : OkE C Γ b rb) (h : kBin o ra rb = some r) : OkE C Γ (.BinOp a o b pos) r := by
  obtain ⟨bo, h1, h2⟩ := Option.bind_eq_some_iff.mp h
  split at h2 <;> cases h2
  rename_i ho
  exact ⟨ha.1.app hb.1, fun X g => (se_bin (bo_ok h1) (ha.2 X g) (hb.2 X g) ho).cg fun fr => by simp only [ev]⟩
theorem ok_neg (ha : OkE C Γ a ra) : OkE C Γ (.UnaryOp .USub a pos) (.neg ra.1, ra.2.1, .val) := ⟨ha.1, fun X g => (se_neg (ha.2 X g)).cg fun fr => by simp only [ev]⟩
theorem ok_not (ha : OkE C Γ a ra) : OkE C Γ (.UnaryOp .Not a pos) (.not ra.1, ra.2.1, .val) := ⟨ha.1, fun X g => (se_not (ha.2 X g)).cg fun fr => by simp only [ev]⟩
def kCmp (o : CmpOp) (b : Expr) (ra rb : RE) : Option RE := if (ra.2.2.off rb.2.1 && !isSt b) = true then some (.cmp (coOf o) ra.1 rb.1, ra.2.1 ++ rb.2.1, .fresh) else none
theorem ok_cmp {o : CmpOp} {r : RE} (ha : OkE C Γ a ra) (hb : OkE C Γ b rb) (h : kCmp o b ra rb = some r) : OkE C Γ (.Compare a [o] [b] pos) r := by
  unfold kCmp at h
  split at h <;> cases h
  rename_i ho
  simp only [Bool.and_eq_true] at ho
  exact ⟨ha.1.app hb.1, fun X g => (se_cmp (co_ok g.hu o) (ha.2 X g) (hb.2 X g) ho.1 (marks_ok (not_tt ho.2))).cg fun fr => by simp only [ev]⟩
theorem ok_cmpT {o : CmpOp} {r : RE} (ha : OkE C Γ a ra) (hb : OkE C Γ b rb) (h : kCmp o b ra rb = some r) : OkT C Γ (.Compare a [o] [b] pos) (r.1, r.2.1) := by
  unfold kCmp at h
  split at h <;> cases h
  rename_i ho
  simp only [Bool.and_eq_true] at ho
  exact ⟨ha.1.app hb.1, fun X g => (st_cmp (co_ok g.hu o) (ha.2 X g) (hb.2 X g) ho.1 (marks_ok (not_tt ho.2))).cg fun fr => by simp only [ev]⟩
theorem last_ok {o o' : CmpOp} (h : isSt c = false) : lastMarks [o, o'] [b, c] = false := marks_ok h
def kChn (o o' : CmpOp) (b c : Expr) (ra rb rc : RE) : Option RE := if (ra.2.2.off rb.2.1 && rb.2.2.ok false && !isSt c) = true then some (.chn (coOf o) (coOf o') ra.1 rb.1 rc.1, ra.2.1 ++ (rb.2.1 ++ rc.2.1), .val) else none
theorem ok_chn {o o' : CmpOp} {r : RE} (ha : OkE C Γ a ra) (hb : OkE C Γ b rb) (hc : OkE C Γ c rc) (h : kChn o o' b c ra rb rc = some r) : OkE C Γ (.Compare a [o, o'] [b, c] pos) r := by
  unfold kChn at h
  split at h <;> cases h
  rename_i ho
  simp only [Bool.and_eq_true] at ho
  exact ⟨ha.1.app (hb.1.app hc.1), fun X g => (se_chn (co_ok g.hu o) (co_ok g.hu o') (ha.2 X g) (hb.2 X g) (hc.2 X g) ho.1.1 ho.1.2 (last_ok (not_tt ho.2))).cg fun fr => by simp only [ev, chnM]⟩
theorem ok_chnT {o o' : CmpOp} {r : RE} (ha : OkE C Γ a ra) (hb : OkE C Γ b rb) (hc : OkE C Γ c rc) (h : kChn o o' b c ra rb rc = some r) : OkT C Γ (.Compare a [o, o'] [b, c] pos) (r.1, r.2.1) := by
  unfold kChn at h
  split at h <;> cases h
  rename_i ho
  simp only [Bool.and_eq_true] at ho
  exact ⟨ha.1.app (hb.1.app hc.1), fun X g => (st_chn (co_ok g.hu o) (co_ok g.hu o') (ha.2 X g) (hb.2 X g) (hc.2 X g) ho.1.1 ho.1.2 (last_ok (not_tt ho.2))).cg fun fr => by simp only [ev, chnM]⟩
/-! and, or -/
theorem ok_one {o : BoolOp} (ha : OkE C Γ a ra) : OkE C Γ (.BoolOp o [a] pos) ra := ⟨ha.1, fun X g => se_one (ha.2 X g)⟩
def kBool (o : BoolOp) (ra rb : RE) : Option RE := if rb.2.2.le .val = true then some ((match o with | .And => Ex.and ra.1 rb.1 | .Or => .or ra.1 rb.1), ra.2.1 ++ rb.2.1, .val) else none
theorem ok_bop {o : BoolOp} {rest : List Expr} {r : RE} (ha : OkE C Γ a ra) (hb : OkE C Γ (.BoolOp o (b :: rest) pos) rb) (h : kBool o ra rb = some r) : OkE C Γ (.BoolOp o (a :: b :: rest) pos) r := by
  unfold kBool at h
  split at h <;> cases h
  rename_i ho
  refine ⟨ha.1.app hb.1, fun X g => ?_⟩
  cases o
  · exact (se_and (ha.2 X g) (hb.2 X g) ho).cg fun fr => by simp only [ev]
  · exact (se_or (ha.2 X g) (hb.2 X g) ho).cg fun fr => by simp only [ev]
theorem ok_oneT {o : BoolOp} (ha : OkT C Γ a rt) : OkW C Γ (.BoolOp o [a] pos) rt := ⟨ha.1, fun X g => by
  cases o
  · exact sw_and1 (ha.2 X g)
  · exact sw_or1 (ha.2 X g)⟩
def kBoolT (o : BoolOp) (ra rb : RT) : RT := ((match o with | .And => Ex.and ra.1 rb.1 | .Or => .or ra.1 rb.1), ra.2 ++ rb.2)
theorem ok_bopT {o : BoolOp} {rest : List Expr} (ha : OkT C Γ a rt) (hb : OkW C Γ (.BoolOp o (b :: rest) pos) rt') : OkW C Γ (.BoolOp o (a :: b :: rest) pos) (kBoolT o rt rt') := by
  refine ⟨ha.1.app hb.1, fun X g => ?_⟩
  cases o
  · exact (sw_and (ha.2 X g) (hb.2 X g)).cg fun fr => by simp only [kBoolT, ev]
  · exact (sw_or (ha.2 X g) (hb.2 X g)).cg fun fr => by simp only [kBoolT, ev]
theorem ok_W (h : OkW C Γ e rt) : OkT C Γ e rt := ⟨h.1, fun X g => (h.2 X g).st⟩
theorem ok_notT (ha : OkT C Γ a rt) : OkT C Γ (.UnaryOp .Not a pos) (.not rt.1, rt.2) := ⟨ha.1, fun X g => (st_not (ha.2 X g)).cg fun fr => by simp only [ev]⟩
theorem ok_val (ha : OkE C Γ a ra) (h : isTest a = false) : OkT C Γ a (ra.1, ra.2.1) := ⟨ha.1, fun X g => st_val (ha.2 X g) (isTrue_ok h)⟩
def kIfe (rt : RT) (ra rb : RE) : Option RE :=
  if (ra.2.2.le .fresh && rb.2.2.le .fresh) = true then some (.ife rt.1 ra.1 rb.1, rt.2 ++ (ra.2.1 ++ rb.2.1), .fresh)
  else if (ra.2.2.le .val && rb.2.2.le .val) = true then some (.ife rt.1 ra.1 rb.1, rt.2 ++ (ra.2.1 ++ rb.2.1), .val) else none
theorem ok_ife {r : RE} (hc : OkT C Γ c rt) (ha : OkE C Γ a ra) (hb : OkE C Γ b rb) (h : kIfe rt ra rb = some r) : OkE C Γ (.IfExp c a b pos) r := by
  unfold kIfe at h
  split at h
  · cases h
    rename_i ho
    simp only [Bool.and_eq_true] at ho
    exact ⟨hc.1.app (ha.1.app hb.1), fun X g => (se_ife (hc.2 X g) (ha.2 X g) (hb.2 X g) ho.1 ho.2).cg fun fr => by simp only [ev]⟩
  · split at h <;> cases h
    rename_i ho
    simp only [Bool.and_eq_true] at ho
    exact ⟨hc.1.app (ha.1.app hb.1), fun X g => (se_ife (hc.2 X g) (ha.2 X g) (hb.2 X g) ho.1 ho.2).cg fun fr => by simp only [ev]⟩
/-! subscripts -/
def kSub (i : Expr) (ra rb : RE) : Option RE := if (ra.2.2.off rb.2.1 && !isSlc i) = true then some (.sub ra.1 rb.1, ra.2.1 ++ rb.2.1, .val) else none
theorem ok_sub {r : RE} (ha : OkE C Γ a ra) (hb : OkE C Γ b rb) (h : kSub b ra rb = some r) : OkE C Γ (.Subscript a b pos) r := by
  unfold kSub at h
  split at h <;> cases h
  rename_i ho
  simp only [Bool.and_eq_true] at ho
  exact ⟨ha.1.app hb.1, fun X g => (se_sub g.hu (ha.2 X g) (hb.2 X g) ho.1 (plainIx_ok (not_tt ho.2))).cg fun fr => by simp only [ev]⟩
theorem ok_so0 : OkO C Γ none (none, []) := ⟨.nil, fun X g => so_none.cg fun fr => by simp only [evo]⟩
theorem ok_so1 (ha : OkE C Γ a ra) : OkO C Γ (some a) (some ra.1, ra.2.1) := ⟨ha.1, fun X g => (so_some (ha.2 X g)).cg fun fr => by simp only [evo]⟩
abbrev RO := Option Ex × List Nat
def kCut (ra : RE) (rl rh : RO) : Option RE := if ra.2.2.off (rl.2 ++ rh.2) = true then some (.cut ra.1 rl.1 rh.1, ra.2.1 ++ (rl.2 ++ rh.2), .fresh) else none
theorem ok_cut {lo hi : Option Expr} {rl rh : RO} {r : RE} (ha : OkE C Γ a ra) (hl : OkO C Γ lo rl) (hh : OkO C Γ hi rh) (h : kCut ra rl rh = some r) : OkE C Γ (.Subscript a (.Slice lo hi none p2) pos) r := by
  unfold kCut at h
  split at h <;> cases h
  rename_i ho
  exact ⟨ha.1.app (hl.1.app hh.1), fun X g => (se_cut (ha.2 X g) (hl.2 X g) (hh.2 X g) ho).cg fun fr => by simp only [ev]⟩
theorem ok_rev (ha : OkE C Γ a ra) : OkE C Γ (.Subscript a (.Slice none none (some (.UnaryOp .USub (.Constant (.int 1) k p1) p2)) p3) pos) (.rev ra.1, ra.2.1, .fresh) :=
  ⟨ha.1, fun X g => (se_rev (ha.2 X g)).cg fun fr => by simp only [ev]⟩
/-! rows -/
def amOf : Cls → Md → Option Am
  | .P, .val => some .v | .P, .fresh => some .v | .P, .pl _ => none
  | .L, .pl i => some (.l i) | .L, _ => some .v
  | .M, .pl i => some (.m i) | .M, _ => none
def kArg (c : Cls) (a : Expr) (ra : RE) (q : RA) : Option RA := (amOf c ra.2.2).bind fun am => if (amOk ra.2.2 am q.2.1 && notStar a) = true then some (ra.1 :: q.1, ra.2.1 ++ q.2.1, am :: q.2.2) else none
theorem ok_a0 : OkA C Γ [] ([], [], []) := ⟨.nil, rfl, rfl, fun X g => sa_nil.cg fun fr => by simp only [evs]⟩
theorem ok_a1 {q r : RA} {cw : Cls} (ha : OkE C Γ a ra) (hq : OkA C Γ es q) (h : kArg cw a ra q = some r) : OkA C Γ (a :: es) r := by
  obtain ⟨am, h1, h2⟩ := Option.bind_eq_some_iff.mp h
  split at h2 <;> cases h2
  rename_i ho
  simp only [Bool.and_eq_true] at ho
  exact ⟨ha.1.app hq.1, by simp only [List.all_cons, Bool.and_eq_true]; exact ⟨ho.2, hq.2.1⟩, by simp [hq.2.2.1], fun X g => (sa_cons (ha.2 X g) (hq.2.2.2 X g) ho.1 (star_ok ho.2)).cg fun fr => by simp only [evs]⟩
def allV (ams : List Am) : Bool := ams.all fun a => match a with | .v => true | _ => false
theorem allV_ok {ams : List Am} (h : allV ams = true) : ∀ a ∈ ams, a = .v := fun a ha => by
  have := List.all_eq_true.mp h a ha
  cases a <;> first | rfl | cases this
def noM (ams : List Am) : Bool := ams.all fun a => match a with | .m _ => false | _ => true
theorem noM_ok {ams : List Am} (h : noM ams = true) : ∀ a ∈ ams, ∀ i, a ≠ .m i := fun a ha i e => by
  have := List.all_eq_true.mp h a ha
  rw [e] at this
  cases this
def kRow (f : List Ex → Ex) (q : RA) : Option RE := if (allV q.2.2 && decide (q.2.2.length ≤ 1000)) = true then some (f q.1, q.2.1, .fresh) else none
theorem ok_tup {q : RA} {r : RE} (hq : OkA C Γ es q) (h : kRow .tup q = some r) : OkE C Γ (.Tuple es k pos) r := by
  unfold kRow at h
  split at h <;> cases h
  rename_i ho
  simp only [Bool.and_eq_true, decide_eq_true_eq] at ho
  exact ⟨hq.1, fun X g => (se_tup (hq.2.2.2 X g) (allV_ok ho.1) ho.2).cg fun fr => by simp only [ev]⟩
theorem ok_lst {q : RA} {r : RE} (hq : OkA C Γ es q) (h : kRow .lst q = some r) : OkE C Γ (.List es pos) r := by
  unfold kRow at h
  split at h <;> cases h
  rename_i ho
  simp only [Bool.and_eq_true, decide_eq_true_eq] at ho
  exact ⟨hq.1, fun X g => (se_lst (hq.2.2.2 X g) (allV_ok ho.1) ho.2).cg fun fr => by simp only [ev]⟩
/-! dict displays -/
abbrev RD := List Ex × List Nat
def OkD (C : Calls) (Γ : Gm) (pos : Pos) (keys : List (Option Expr)) (vals : List Expr) (r : RD) : Prop := AllM Γ r.2 ∧ keys.all (·.isSome) = true ∧ keys.length = vals.length ∧ r.1.length = 2 * keys.length ∧ ∀ X, Good Γ C X → SD X (clG Γ) Γ.N.length r.2 pos keys vals (evs C r.1)
theorem SD.cg {X : Cx} {cl : Nat → Cls} {n : Nat} {T : List Nat} {pos : Pos} {keys : List (Option Expr)} {vals : List Expr} {m m' : Fr → Option (List PV × Fr)} (h : SD X cl n T pos keys vals m) (q : ∀ fr, m' fr = m fr) : SD X cl n T pos keys vals m' := by
  rw [funext q]; exact h
theorem ok_d0 : OkD C Γ pos [] [] ([], []) := ⟨.nil, rfl, rfl, rfl, fun X g => sd_nil.cg fun fr => by simp only [evs]⟩
def kPair (ra rb : RE) (q : RD) : Option RD := if (ra.2.2.ok false && rb.2.2.ok false) = true then some (ra.1 :: rb.1 :: q.1, ra.2.1 ++ (rb.2.1 ++ q.2)) else none
theorem ok_d1 {keys : List (Option Expr)} {vals : List Expr} {q r : RD} (ha : OkE C Γ a ra) (hb : OkE C Γ b rb) (hq : OkD C Γ pos keys vals q) (h : kPair ra rb q = some r) : OkD C Γ pos (some a :: keys) (b :: vals) r := by
  unfold kPair at h
  split at h <;> cases h
  rename_i ho
  simp only [Bool.and_eq_true] at ho
  exact ⟨ha.1.app (hb.1.app hq.1), by simpa using hq.2.1, by simp [hq.2.2.1], by simp [hq.2.2.2.1]; omega, fun X g => (sd_cons (ha.2 X g) (hb.2 X g) (hq.2.2.2.2 X g) ho.1 ho.2).cg fun fr => by simp only [evs]⟩
theorem evs_len : ∀ {es : List Ex} {fr fr' : Fr} {xs : List PV}, evs C es fr = some (xs, fr') → xs.length = es.length
  | [], _, _, _, h => by simp only [evs] at h; cases h; rfl
  | e :: es, _, _, _, h => by
    simp only [evs] at h
    obtain ⟨p, h1, h2⟩ := Option.bind_eq_some_iff.mp h
    obtain ⟨q, h3, h4⟩ := Option.map_eq_some_iff.mp h2
    cases h4
    simpa using evs_len h3
theorem pairUp_len : ∀ {xs : List PV} {kvs : List (PV × PV)}, pairUp xs = some kvs → xs.length = 2 * kvs.length
  | [], _, h => by cases h; rfl
  | [_], _, h => by cases h
  | k :: v :: r, _, h => by
    unfold pairUp at h
    split at h
    · obtain ⟨q, h1, h2⟩ := Option.map_eq_some_iff.mp h
      subst h2
      have := pairUp_len h1
      simp only [List.length_cons]
      omega
    · cases h
def kDct (n : Nat) (q : RD) : Option RE := if n = 0 then some (.dct [], [], .fresh) else if n ≤ 15 then some (.dct q.1, q.2, .fresh) else none
theorem ok_dct {keys : List (Option Expr)} {vals : List Expr} {q : RD} {r : RE} (hq : OkD C Γ pos keys vals q) (h : kDct keys.length q = some r) : OkE C Γ (.Dict keys vals pos) r := by
  obtain ⟨h1, h2, h3, h4, h5⟩ := hq
  unfold kDct at h
  split at h
  · cases h
    rename_i h0
    obtain rfl := List.eq_nil_of_length_eq_zero h0
    obtain rfl := List.eq_nil_of_length_eq_zero (h3.symm.trans h0)
    exact ⟨.nil, fun X g => se_dct0.cg fun fr => by simp [ev, evs, pairUp, dputAll]⟩
  · split at h <;> cases h
    rename_i h0 h15
    refine ⟨h1, fun X g => (se_dct (h5 X g) h2 h3 (fun z => h0 (by rw [z]; rfl)) h15 h1).cg fun fr => ?_⟩
    simp only [ev]
    cases he : evs C q.1 fr with
    | none => rfl
    | some p =>
      simp only [Option.bind_some]
      cases hp : pairUp p.1 with
      | none => rfl
      | some kvs =>
        have := evs_len he
        have := pairUp_len hp
        simp only [Option.map_some, Option.bind_some]
        rw [if_pos (by omega)]
end
end EV

set_option linter.all false
set_option Elab.async false
set_option maxRecDepth 100000
/-! Ev22: the compiler's cases: calls, sources, targets. -/
namespace EV
open PySem L2 PySem.Spec PyProof.Rows C8

def biOf (x : Str) (n : Nat) : Option Bi :=
  if x = ("abs" : Str) ∧ n = 1 then some .abs else if x = ("len" : Str) ∧ n = 1 then some .len else if x = ("sum" : Str) ∧ n = 1 then some .sum
  else if x = ("all" : Str) ∧ n = 1 then some .all else if x = ("any" : Str) ∧ n = 1 then some .any else if x = ("sorted" : Str) ∧ n = 1 then some .sorted
  else if x = ("min" : Str) ∧ n = 1 then some .min else if x = ("max" : Str) ∧ n = 1 then some .max else if x = ("min" : Str) ∧ n = 2 then some .min2 else if x = ("max" : Str) ∧ n = 2 then some .max2 else none
def biTy (x : Str) (n : Nat) : Option Bi :=
  if x = ("int" : Str) ∧ n = 1 then some .int else if x = ("tuple" : Str) ∧ n = 1 then some .tuple else if x = ("list" : Str) ∧ n = 1 then some .list else none
def tyOf (x : Str) : Option Ty :=
  if x = ("int" : Str) then some .int else if x = ("bool" : Str) then some .bool else if x = ("str" : Str) then some .str else if x = ("tuple" : Str) then some .tuple else if x = ("list" : Str) then some .list else if x = ("dict" : Str) then some .dict else none
section
variable {C : Calls} {Γ : Gm} {X : Cx} {e a b c : Expr} {es : List Expr} {ra rb rc : RE} {rt rt' : RT} {pos p p1 p2 p3 : Pos} {k : Nat} {x : Str}
structure BNm (x : Str) : Prop where
  blt : bltNms.contains x = true
  nn : x ≠ "__name__"
  db : (x == ("__debug__" : Str)) = false
theorem bi_of {n : Nat} {b : Bi} (h : biOf x n = some b) (g : Good Γ C X) : BNm x ∧ ∃ id, bootBuiltins x = some (.builtin id) ∧ BiS X (.builtin id) (biop b) := by
  unfold biOf at h
  split at h
  · rename_i e; obtain ⟨rfl, _⟩ := e; cases h; exact ⟨⟨by decide +kernel, by decide +kernel, by decide +kernel⟩, "abs", by decide +kernel, bi_abs⟩
  split at h
  · rename_i e; obtain ⟨rfl, _⟩ := e; cases h; exact ⟨⟨by decide +kernel, by decide +kernel, by decide +kernel⟩, "len", by decide +kernel, bi_len⟩
  split at h
  · rename_i e; obtain ⟨rfl, _⟩ := e; cases h; exact ⟨⟨by decide +kernel, by decide +kernel, by decide +kernel⟩, "sum", by decide +kernel, bi_sum g.calm⟩
  split at h
  · rename_i e; obtain ⟨rfl, _⟩ := e; cases h; exact ⟨⟨by decide +kernel, by decide +kernel, by decide +kernel⟩, "all", by decide +kernel, bi_all g.calm⟩
  split at h
  · rename_i e; obtain ⟨rfl, _⟩ := e; cases h; exact ⟨⟨by decide +kernel, by decide +kernel, by decide +kernel⟩, "any", by decide +kernel, bi_any g.calm⟩
  split at h
  · rename_i e; obtain ⟨rfl, _⟩ := e; cases h; exact ⟨⟨by decide +kernel, by decide +kernel, by decide +kernel⟩, "sorted", by decide +kernel, bi_sorted g.hu⟩
  split at h
  · rename_i e; obtain ⟨rfl, _⟩ := e; cases h; exact ⟨⟨by decide +kernel, by decide +kernel, by decide +kernel⟩, "min", by decide +kernel, bi_min g.calm g.hu⟩
  split at h
  · rename_i e; obtain ⟨rfl, _⟩ := e; cases h; exact ⟨⟨by decide +kernel, by decide +kernel, by decide +kernel⟩, "max", by decide +kernel, bi_max g.calm g.hu⟩
  split at h
  · rename_i e; obtain ⟨rfl, _⟩ := e; cases h; exact ⟨⟨by decide +kernel, by decide +kernel, by decide +kernel⟩, "min", by decide +kernel, bi_min2 g.calm⟩
  split at h
  · rename_i e; obtain ⟨rfl, _⟩ := e; cases h; exact ⟨⟨by decide +kernel, by decide +kernel, by decide +kernel⟩, "max", by decide +kernel, bi_max2 g.calm⟩
  · cases h
theorem ty_of' {n : Nat} {b : Bi} (h : biTy x n = some b) : BNm x ∧ ∃ id, bootBuiltins x = some (.type id) ∧ BiS X (.type id) (biop b) := by
  unfold biTy at h
  split at h
  · rename_i e; obtain ⟨rfl, _⟩ := e; cases h; exact ⟨⟨by decide +kernel, by decide +kernel, by decide +kernel⟩, "int", by decide +kernel, bi_int⟩
  split at h
  · rename_i e; obtain ⟨rfl, _⟩ := e; cases h; exact ⟨⟨by decide +kernel, by decide +kernel, by decide +kernel⟩, "tuple", by decide +kernel, bi_tuple⟩
  split at h
  · rename_i e; obtain ⟨rfl, _⟩ := e; cases h; exact ⟨⟨by decide +kernel, by decide +kernel, by decide +kernel⟩, "list", by decide +kernel, bi_list⟩
  · cases h
theorem tyOf_ok {t : Ty} (h : tyOf x = some t) : BNm x ∧ bootBuiltins x = some (.type (tyName t)) := by
  unfold tyOf at h
  split at h
  · rename_i e; subst e; cases h; exact ⟨⟨by decide +kernel, by decide +kernel, by decide +kernel⟩, by decide +kernel⟩
  split at h
  · rename_i e; subst e; cases h; exact ⟨⟨by decide +kernel, by decide +kernel, by decide +kernel⟩, by decide +kernel⟩
  split at h
  · rename_i e; subst e; cases h; exact ⟨⟨by decide +kernel, by decide +kernel, by decide +kernel⟩, by decide +kernel⟩
  split at h
  · rename_i e; subst e; cases h; exact ⟨⟨by decide +kernel, by decide +kernel, by decide +kernel⟩, by decide +kernel⟩
  split at h
  · rename_i e; subst e; cases h; exact ⟨⟨by decide +kernel, by decide +kernel, by decide +kernel⟩, by decide +kernel⟩
  split at h
  · rename_i e; subst e; cases h; exact ⟨⟨by decide +kernel, by decide +kernel, by decide +kernel⟩, by decide +kernel⟩
  · cases h
/-- a built-in's call -/
def kBi (Γ : Gm) (x : Str) (n : Nat) (q : RA) : Option RE := if (isGlob (Γ.sc.names.lookup x) && noM q.2.2) = true then
    match biOf x n with
    | some b => some (.bi b q.1, q.2.1, .fresh)
    | none => match biTy x n with
      | some b => some (.bi b q.1, q.2.1, .fresh)
      | none => none
  else none
theorem ok_bi {q : RA} {r : RE} (hq : OkA C Γ (a :: es) q) (h : kBi Γ x (a :: es).length q = some r) : OkE C Γ (.Call (.Name x p) (a :: es) [] pos) r := by
  unfold kBi at h
  split at h
  case isFalse => cases h
  rename_i ho
  simp only [Bool.and_eq_true] at ho
  obtain ⟨q1, q2, q3, q4⟩ := hq
  simp only [List.all_cons, Bool.and_eq_true] at q2
  split at h
  · rename_i bb hb
    cases h
    refine ⟨q1, fun X g => ?_⟩
    obtain ⟨nm, id, h1, h2⟩ := bi_of hb g
    exact (se_bi h2 (g.gl ho.1) (g.mg x nm.blt) h1 (q4 X g) (noM_ok ho.2) nm.nn nm.db (star_ok q2.1) (plain_ok q2.2)).cg fun fr => by simp only [ev]
  · split at h
    · rename_i bb hb
      cases h
      refine ⟨q1, fun X g => ?_⟩
      obtain ⟨nm, id, h1, h2⟩ := ty_of' (X := X) hb
      exact (se_biT h2 (g.gl ho.1) (g.mg x nm.blt) h1 (q4 X g) (noM_ok ho.2) nm.nn nm.db (star_ok q2.1) (plain_ok q2.2)).cg fun fr => by simp only [ev]
    · cases h
def kIsi (Γ : Gm) (a : Expr) (x : Str) (ra : RE) : Option RE := if (isGlob (Γ.sc.names.lookup ("isinstance" : Str)) && isGlob (Γ.sc.names.lookup x) && notStar a) = true then (tyOf x).map fun t => (.isi t ra.1, ra.2.1, .val) else none
theorem ok_isi {r : RE} (ha : OkE C Γ a ra) (h : kIsi Γ a x ra = some r) : OkE C Γ (.Call (.Name "isinstance" p) [a, .Name x p2] [] pos) r := by
  unfold kIsi at h
  split at h
  case isFalse => cases h
  rename_i ho
  simp only [Bool.and_eq_true] at ho
  obtain ⟨t, h1, h2⟩ := Option.map_eq_some_iff.mp h
  subst h2
  obtain ⟨nm, hv⟩ := tyOf_ok h1
  exact ⟨ha.1, fun X g => (se_isi (t := t) (ha.2 X g) (pe_bltn (g.gl ho.1.2) (g.mg x nm.blt) hv (show RelV (.ty (tyName t)) _ from rfl) nm.nn nm.db) (g.gl ho.1.1) (g.mg _ (by decide +kernel)) (star_ok ho.2) rfl).cg fun fr => by simp only [ev]⟩
/-- a def's call -/
def ixOk (F : Fn) (cl : Nat → Cls) (ams : List Am) : Bool := (List.range ams.length).all fun i => match ams[i]? with
  | none => true
  | some am => match clF F i with
    | .P => decide (am = .v)
    | .L => match am with | .m _ => false | _ => true
    | .M => match am with | .m j => decide (cl j = .M) | _ => false
def ndOk (ams : List Am) : Bool := (List.range ams.length).all fun i => (List.range ams.length).all fun i' => match ams[i]?, ams[i']? with
  | some (.m j), some (.m j') => decide (j = j' → i = i')
  | some (.l j), some (.m j') => decide (j ≠ j')
  | _, _ => true
def callOk (F : Fn) (cl : Nat → Cls) (ams : List Am) : Bool := decide (ams.length = F.na ∧ F.na ≤ F.ns ∧ F.mps = posM (ams.map amM) 0) && ixOk F cl ams && ndOk ams
theorem range_all {n : Nat} {f : Nat → Bool} (h : (List.range n).all f = true) {i : Nat} (hi : i < n) : f i = true := List.all_eq_true.mp h i (List.mem_range.mpr hi)
theorem callOk_wf {F : Fn} {cl : Nat → Cls} {ams : List Am} (h : callOk F cl ams = true) : CallWf F cl ams ∧ F.na ≤ F.ns := by
  unfold callOk at h
  simp only [Bool.and_eq_true, decide_eq_true_eq] at h
  obtain ⟨⟨⟨h1, h2, h3⟩, h4⟩, h5⟩ := h
  refine ⟨⟨h1, fun i am e => ?_, h3, fun i i' j e e' => ?_, fun i i' j j' e e' => ?_⟩, h2⟩
  · have := range_all h4 (get_lt e)
    rw [e] at this
    dsimp only at this
    split at this
    · rename_i hc; (try rw [hc]); exact of_decide_eq_true this
    · rename_i hc; (try rw [hc]); cases am with
      | v => exact .inl rfl
      | l j => exact .inr ⟨j, rfl⟩
      | m j => cases this
    · rename_i hc; (try rw [hc]); cases am with
      | v => cases this
      | l j => cases this
      | m j => exact ⟨j, rfl, of_decide_eq_true this⟩
  · have := range_all (range_all h5 (get_lt e)) (get_lt e')
    rw [e, e'] at this
    exact of_decide_eq_true this rfl
  · have := range_all (range_all h5 (get_lt e)) (get_lt e')
    rw [e, e'] at this
    exact of_decide_eq_true this
def kCall (Γ : Gm) (x : Str) (i : Nat) (F : Fn) (q : RA) : Option RE := if (isGlob (Γ.sc.names.lookup x) && !(x == ("__debug__" : Str)) && callOk F (clG Γ) q.2.2) = true then some (.call i (q.2.2.map amM) q.1, q.2.1 ++ mSlots q.2.2, if F.fresh = true then .fresh else .val) else none
theorem ok_call {i : Nat} {F : Fn} {q : RA} {r : RE} (hq : OkA C Γ (a :: es) q) (ht : Γ.tab.lookup x = some (i, F)) (h : kCall Γ x i F q = some r) : OkE C Γ (.Call (.Name x p) (a :: es) [] pos) r := by
  unfold kCall at h
  split at h
  case isFalse => cases h
  rename_i ho
  simp only [Bool.and_eq_true] at ho
  cases h
  obtain ⟨q1, q2, q3, q4⟩ := hq
  simp only [List.all_cons, Bool.and_eq_true] at q2
  obtain ⟨wf, wl⟩ := callOk_wf ho.2
  refine ⟨q1.app fun j hj => ?_, fun X g => ?_⟩
  · obtain ⟨i', hi'⟩ := mSlots_mem.mp hj
    have := wf.ix i' _ hi'
    revert this
    cases clF F i' with
    | P => exact fun z => nomatch z
    | L => exact fun z => by rcases z with z | ⟨_, z⟩ <;> cases z
    | M => exact fun ⟨j', e, z⟩ => by cases e; exact z
  · obtain ⟨k, j, h1, h2, h3⟩ := g.cal _ _ _ ht
    exact (se_call h1 h2 h3 (g.gl ho.1.1) (q4 X g) wf wl (g.lR _ _ _ ht) (not_tt ho.1.2) (star_ok q2.1) (plain_ok q2.2)).cg fun fr => by simp only [ev, callM]
/-! methods -/
def isSupE (a : Expr) : Bool := isSup a
def kIdx (o e : Expr) (apos cpos : Pos) (ro : RE) (q : RA) : Option RE := if (ro.2.2.off q.2.1 && noM q.2.2 && !isSup o && (apos.endLine == cpos.line)) = true then
    match q.2.2 with
    | [_] => some (.meth .index ro.1 q.1, ro.2.1 ++ q.2.1, .val)
    | _ => none
  else none
theorem ok_idx {o e : Expr} {apos cpos : Pos} {ro r : RE} {q : RA} (ho : OkE C Γ o ro) (hq : OkA C Γ [e] q) (h : kIdx o e apos cpos ro q = some r) : OkE C Γ (.Call (.Attribute o "index" apos) [e] [] cpos) r := by
  unfold kIdx at h
  split at h
  case isFalse => cases h
  rename_i hh
  simp only [Bool.and_eq_true] at hh
  obtain ⟨⟨⟨h1, h2⟩, h3⟩, h4⟩ := hh
  split at h
  case h_2 => cases h
  rename_i am ham
  cases h
  obtain ⟨q1, q2, q3, q4⟩ := hq
  rw [ham] at q4 h2
  refine ⟨ho.1.app q1, fun X g => (se_lidx (ho.2 X g) (q4 X g) h1 (fun i => noM_ok h2 am (by simp) i) g.units (base_ok (not_tt h3)) (few_ok q2 (by simp)) h4 (star_ok (by simpa using q2)) (plain_ok rfl)).cg fun fr => by simp only [ev]⟩
/-! targets -/
def kTg1 (Γ : Gm) (x : Str) : Option Nat := (fdIx x Γ.N).bind fun i => if (locK (Γ.sc.names.lookup x) && (Γ.fn x || isLoc (Γ.sc.names.lookup x)) && decide (clG Γ i = .P)) = true then some i else none
theorem fn_or {b : Bool} {o : Option NameKind} (h : (b || isLoc o) = true) : b = true ∨ o = some .local := by
  rcases Bool.or_eq_true _ _ ▸ h with h | h
  · exact .inl h
  · exact .inr (isLoc_of h)
theorem kTg1_ok {i : Nat} (h : kTg1 Γ x = some i) : clG Γ i = .P ∧ ∀ X, Good Γ C X → PG X (.Name x p) (gName i) := by
  obtain ⟨j, h1, h2⟩ := Option.bind_eq_some_iff.mp h
  split at h2 <;> cases h2
  rename_i ho
  simp only [Bool.and_eq_true, decide_eq_true_eq] at ho
  refine ⟨ho.2, fun X g => pg_name g.nd (by rw [g.N]; exact fdIx_get h1) (by rw [g.sc]; exact loc_of ho.1.1) ?_⟩
  rw [g.fn, g.sc]
  exact fn_or ho.1.2
def kTgs (Γ : Gm) : List Expr → Option (List Nat)
  | [] => some []
  | e :: es => (nmOf e).bind fun xp => (kTg1 Γ xp.1).bind fun i => (kTgs Γ es).map (i :: ·)
theorem kTgs_ok : ∀ {es : List Expr} {is : List Nat}, kTgs Γ es = some is → (es.all isNm) = true ∧ es.length = is.length ∧ (∀ i ∈ is, clG Γ i = .P) ∧ ∀ X, Good Γ C X → PGs X es (gNames is)
  | [], _, h => by cases h; exact ⟨rfl, rfl, fun _ z => absurd z (by simp), fun X g => pgs_nil⟩
  | e :: es, _, h => by
    obtain ⟨⟨x, p⟩, h1, h2⟩ := Option.bind_eq_some_iff.mp h
    obtain ⟨i, h3, h4⟩ := Option.bind_eq_some_iff.mp h2
    obtain ⟨is, h5, h6⟩ := Option.map_eq_some_iff.mp h4
    subst h6
    obtain rfl := nmOf_eq h1
    obtain ⟨q1, q2, q3, q4⟩ := kTgs_ok h5
    obtain ⟨q5, q6⟩ := kTg1_ok (C := C) (p := p) h3
    refine ⟨by simp only [List.all_cons, Bool.and_eq_true]; exact ⟨rfl, q1⟩, by simp [q2], fun j hj => ?_, fun X g => pgs_cons (q6 X g) (q4 X g)⟩
    rcases List.mem_cons.mp hj with hj | hj
    · rw [hj]; exact q5
    · exact q3 j hj
def cG (Γ : Gm) : Expr → Option (Tg × List Nat)
  | .Name x _ => (kTg1 Γ x).map fun i => (.nm i, [i])
  | .Tuple es _ _ => (kTgs Γ es).map fun is => (.tp is, is)
  | _ => none
theorem cG_ok {r : Tg × List Nat} (h : cG Γ e = some r) : OkG C Γ e r := by
  unfold cG at h
  split at h
  · obtain ⟨i, h1, h2⟩ := Option.map_eq_some_iff.mp h
    subst h2
    obtain ⟨q1, q2⟩ := kTg1_ok (C := C) h1
    exact ⟨fun j hj => by rw [List.mem_singleton.mp hj]; exact q1, fun _ => gName i, q2, fun K => gr_name q1⟩
  · obtain ⟨is, h1, h2⟩ := Option.map_eq_some_iff.mp h
    subst h2
    obtain ⟨q1, q2, q3, q4⟩ := kTgs_ok (C := C) h1
    refine ⟨q3, fun K => gTup K is.length (gNames is), fun X g => ?_, fun K => gr_tup q3⟩
    obtain ⟨n1, n2, _⟩ := each_nm (env := X.env) q1
    exact pg_tup g.calm (q4 X g) (n1.trans q2) n2
  · cases h
/-! sources -/
theorem ok_src (ha : OkE C Γ a ra) {tg : Expr} : OkI C Γ tg a ra := ⟨ha.1, fun X g => si_ex (ha.2 X g)⟩
def rgOk (Γ : Gm) (es : List Expr) : Bool := isGlob (Γ.sc.names.lookup ("range" : Str)) && es.all notStar
theorem ok_rg1 (ha : OkE C Γ a ra) {tg : Expr} (h : rgOk Γ [a] = true) : OkI C Γ tg (.Call (.Name "range" p) [a] [] pos) (.rg1 ra.1, ra.2.1, .val) := by
  unfold rgOk at h
  simp only [Bool.and_eq_true, List.all_cons] at h
  refine ⟨ha.1, fun X g => (si_rg1 (g.gl h.1) (g.mg _ (by decide +kernel)) (ha.2 X g) (star_ok h.2.1)).cg fun fr => ?_⟩
  simp only [ev]
  cases ev C ra.1 fr with
  | none => rfl
  | some q =>
    simp only [Option.bind_some]
    cases intOf q.1 with
    | none => rfl
    | some n =>
      simp only [Option.bind_some]
      split <;> rfl
theorem ok_rg2 (ha : OkE C Γ a ra) (hb : OkE C Γ b rb) {tg : Expr} (h : rgOk Γ [a, b] = true) : OkI C Γ tg (.Call (.Name "range" p) [a, b] [] pos) (.rg2 ra.1 rb.1, ra.2.1 ++ rb.2.1, .val) := by
  unfold rgOk at h
  simp only [Bool.and_eq_true, List.all_cons] at h
  refine ⟨ha.1.app hb.1, fun X g => (si_rg2 (g.gl h.1) (g.mg _ (by decide +kernel)) (ha.2 X g) (hb.2 X g) (by rw [star_ok h.2.1, star_ok h.2.2.1]; rfl) (by rw [star_ok h.2.2.1]; rfl)).cg fun fr => ?_⟩
  simp only [ev]
  cases ev C ra.1 fr with
  | none => rfl
  | some q =>
    simp only [Option.bind_some]
    cases ev C rb.1 q.2 with
    | none => rfl
    | some r =>
      simp only [Option.bind_some]
      cases intOf q.1 with
      | none => rfl
      | some m =>
        cases intOf r.1 with
        | none => rfl
        | some n =>
          simp only [Option.bind_some]
          split <;> rfl
theorem ok_rg3 (ha : OkE C Γ a ra) (hb : OkE C Γ b rb) (hc : OkE C Γ c rc) {tg : Expr} (h : rgOk Γ [a, b, c] = true) : OkI C Γ tg (.Call (.Name "range" p) [a, b, c] [] pos) (.rg3 ra.1 rb.1 rc.1, ra.2.1 ++ (rb.2.1 ++ rc.2.1), .val) := by
  unfold rgOk at h
  simp only [Bool.and_eq_true, List.all_cons] at h
  refine ⟨ha.1.app (hb.1.app hc.1), fun X g => (si_rg3 (g.gl h.1) (g.mg _ (by decide +kernel)) (ha.2 X g) (hb.2 X g) (hc.2 X g) (star_ok h.2.1) (star_ok h.2.2.1) (by rw [star_ok h.2.2.2.1]; rfl)).cg fun fr => ?_⟩
  simp only [ev]
  cases ev C ra.1 fr with
  | none => rfl
  | some q =>
    simp only [Option.bind_some]
    cases ev C rb.1 q.2 with
    | none => rfl
    | some r =>
      simp only [Option.bind_some]
      cases ev C rc.1 r.2 with
      | none => rfl
      | some w =>
        simp only [Option.bind_some]
        cases intOf q.1 with
        | none => rfl
        | some m =>
          cases intOf r.1 with
          | none => rfl
          | some n =>
            cases intOf w.1 with
            | none => rfl
            | some d =>
              simp only [Option.bind_some]
              split <;> rfl
def zipOk (Γ : Gm) (a b : Expr) (ra rb : RE) : Bool := isGlob (Γ.sc.names.lookup ("zip" : Str)) && notStar a && notStar b && ra.2.2.ok false && rb.2.2.ok false
theorem ok_zip {elts : List Expr} {kk : Nat} {tpos : Pos} (ha : OkE C Γ a ra) (hb : OkE C Γ b rb) (h : zipOk Γ a b ra rb = true) : OkI C Γ (.Tuple elts kk tpos) (.Call (.Name "zip" p) [a, b] [] pos) (.zip ra.1 rb.1, ra.2.1 ++ rb.2.1, .val) := by
  unfold zipOk at h
  simp only [Bool.and_eq_true] at h
  refine ⟨ha.1.app hb.1, fun X g => (si_zip (g.gl h.1.1.1.1) (g.mg _ (by decide +kernel)) (ha.2 X g) (hb.2 X g) h.1.2 h.2 (star_ok h.1.1.1.2) (by rw [star_ok h.1.1.2]; rfl)).cg fun fr => ?_⟩
  simp only [ev]
  cases ev C ra.1 fr with
  | none => rfl
  | some q =>
    simp only [Option.bind_some]
    cases ev C rb.1 q.2 with
    | none => rfl
    | some r =>
      simp only [Option.bind_some]
      obtain ⟨q1, q2⟩ := q
      obtain ⟨r1, r2⟩ := r
      cases q1 <;> cases r1 <;> rfl
theorem ok_q0 : OkQ C Γ [] (none, []) := ⟨.nil, fun X g => sq_nil.cg fun fr => by simp only [evc]⟩
theorem ok_q1 (h : OkT C Γ c rt) : OkQ C Γ [c] (some rt.1, rt.2) := ⟨h.1, fun X g => (sq_one (h.2 X g)).cg fun fr => by simp only [evc]⟩
end
end EV

set_option linter.all false
set_option Elab.async false
set_option maxRecDepth 100000
/-! Ev23: the compiler's cases: comprehensions. -/
namespace EV
open PySem L2 PySem.Spec PyProof.Rows C8

/-- the block of a comprehension -/
def blkG (Γ : Gm) (scope : Scope) : Gm := { Γ with sc := relS scope Γ.sc, fn := fun x => scope.names.lookup x == some .cell }
def ownL (N : List Str) : List (Str × NameKind) → List (Str × Nat)
  | [] => []
  | (x, k) :: r => if locK (some k) = true then (match fdIx x N with | some i => (x, i) :: ownL N r | none => ownL N r) else ownL N r
section
variable {C : Calls} {Γ : Gm} {X : Cx} {e a b c elt iter iter1 tg tg1 : Expr} {es ifs ifs1 : List Expr} {ra rb rc ri ri1 re : RE} {rt rt' : RT} {rg rg1 : Tg × List Nat} {rq rq1 : RO} {pos p p1 p2 p3 : Pos} {k : Nat} {x : Str} {scope : Scope}
theorem Good.blk (g : Good Γ C X) (s : Shared) (H : Hp) (D : Addr) (cl : List (Str × Addr)) (fp : List Addr) : Good (blkG Γ scope) C (X.blk s H scope (compEnvC scope cl D X.env) fp) := by
  refine ⟨g.calm, g.N, g.nd, ?_, g.units, g.mg, rfl, g.cst, g.cal, g.lR⟩
  show relS scope X.env.scope = relS scope Γ.sc
  rw [g.sc]
def CompS (X : Cx) (cl : Nat → Cls) (n : Nat) (T : List Nat) (e : Expr) (m : Fr → Option (PV × Fr)) : Prop :=
  SE X cl n T .fresh e m ∧ ∀ (i : Nat) (y : Str) (py spos : Pos), X.N[i]? = some y → X.env.scope.names.lookup y = some .local → swapsWith e (some (.Name y py)) spos.line X.env = pure true →
    ∃ te, PS X (.Assign [.Name y py] e spos) (tAsg te (gName i)) ∧ ∀ σ H Q, tE X.K cl n T .fresh m σ H Q → te σ H Q
theorem CompS.cg {cl : Nat → Cls} {n : Nat} {T : List Nat} {m m' : Fr → Option (PV × Fr)} (h : CompS X cl n T e m) (q : ∀ fr, m' fr = m fr) : CompS X cl n T e m' := by
  rw [funext q]; exact h
variable (C Γ) in
def OkC (e : Expr) (r : RT) : Prop := AllM Γ r.2 ∧ ∀ X, Good Γ C X → CompS X (clG Γ) Γ.N.length r.2 e (ev C r.1)
theorem ok_comp (h : OkC C Γ e rt) : OkE C Γ e (rt.1, rt.2, .fresh) := ⟨h.1, fun X g => (h.2 X g).1⟩
def subL (a b : List Nat) : Bool := a.all fun i => b.contains i
theorem subL_ok {a b : List Nat} (h : subL a b = true) : ∀ i ∈ a, i ∈ b := fun i hi => by simpa using List.all_eq_true.mp h i hi
def allP (Γ : Gm) (a : List Nat) : Bool := a.all fun i => decide (clG Γ i = .P)
theorem allP_ok {a : List Nat} (h : allP Γ a = true) : ∀ i ∈ a, clG Γ i = .P := fun i hi => of_decide_eq_true (List.all_eq_true.mp h i hi)
def kC1 (Γ : Gm) (scope : Scope) (iter : Expr) (ri : RE) (rg : Tg × List Nat) (rq : RO) (re : RE) : Option RT :=
  if (blkC Γ.N Γ.sc scope (ownL Γ.N scope.names) && allP Γ ((ownL Γ.N scope.names).map (·.2)) && subL rg.2 ((ownL Γ.N scope.names).map (·.2)) && re.2.2.ok false && ri.2.2.off (rq.2 ++ re.2.1) && !isSt iter) = true then
    some (.comp ri.1 rg.1 rq.1 re.1 ((ownL Γ.N scope.names).map (·.2)), ri.2.1 ++ (rq.2 ++ re.2.1)) else none
theorem ok_c1 {r : RT} (hi : OkI C Γ tg iter ri) (hg : OkG C (blkG Γ scope) tg rg) (hq : OkQ C (blkG Γ scope) ifs rq) (he : OkE C (blkG Γ scope) elt re) (h : kC1 Γ scope iter ri rg rq re = some r) :
    OkC C Γ (.ListComp elt [⟨tg, iter, ifs, 0⟩] scope pos) r := by
  unfold kC1 at h
  split at h
  case isFalse => cases h
  rename_i ho
  simp only [Bool.and_eq_true] at ho
  obtain ⟨⟨⟨⟨⟨h1, h2⟩, h3⟩, h4⟩, h5⟩, h6⟩ := ho
  cases h
  obtain ⟨hg1, g0, hg2, hg3⟩ := hg
  have hT : AllM Γ (rq.2 ++ re.2.1) := hq.1.app he.1
  refine ⟨hi.1.app hT, fun X g => ?_⟩
  have ok : BlkOk X.N X.env.scope scope (ownL Γ.N scope.names) := by rw [g.N, g.sc]; exact blkOk_by h1
  have m : ∀ fr, ev C (.comp ri.1 rg.1 rq.1 re.1 ((ownL Γ.N scope.names).map (·.2))) fr = compM (fun fr => (ev C ri.1 fr).bind fun p => (iterV p.1).map fun xs => (xs, p.2)) (stepF rg.1 ((ownL Γ.N scope.names).map (·.2)) (evc C rq.1) (ev C re.1)) ((ownL Γ.N scope.names).map (·.2)) fr := fun fr => by
    simp only [ev]
    unfold compM
    dsimp only
    cases ev C ri.1 fr with
    | none => rfl
    | some p =>
      simp only [Option.bind_some]
      cases iterV p.1 <;> rfl
  refine CompS.cg ⟨se_lc g.calm g.nd (hi.2 X g) ok (allP_ok h2) (subL_ok h3) h4 hT h5 (hg3 X.K) (fun s H D cl fp => hg2 _ (g.blk s H D cl fp)) (fun s H D cl fp => hq.2 _ (g.blk s H D cl fp)) (fun s H D cl fp => he.2 _ (g.blk s H D cl fp)) (folded_ok (not_tt h6)), ?_⟩ m
  intro i y py spos e1 e2 e3
  exact ⟨_, ps_setLc (wi := tI X.K (clG Γ) Γ.N.length ri.2.1 ri.2.2 _) (tt := tQ X.K (clG Γ) Γ.N.length rq.2 (evc C rq.1)) (te := tE X.K (clG Γ) Γ.N.length re.2.1 re.2.2 (ev C re.1)) g.calm g.nd e1 e2 e3 (hi.2 X g) ok (fun s H D cl fp => hg2 _ (g.blk s H D cl fp)) (fun s H D cl fp => hq.2 _ (g.blk s H D cl fp)) (fun s H D cl fp => he.2 _ (g.blk s H D cl fp)) (folded_ok (not_tt h6)), fun σ H Q q => lc_w (allP_ok h2) (subL_ok h3) h4 hT h5 (hg3 X.K) q⟩
def kC2 (Γ : Gm) (scope : Scope) (iter iter1 : Expr) (ri : RE) (rg : Tg × List Nat) (rq : RO) (ri1 : RE) (rg1 : Tg × List Nat) (rq1 : RO) (re : RE) : Option RT :=
  if (blkC Γ.N Γ.sc scope (ownL Γ.N scope.names) && allP Γ ((ownL Γ.N scope.names).map (·.2)) && subL rg.2 ((ownL Γ.N scope.names).map (·.2)) && subL rg1.2 ((ownL Γ.N scope.names).map (·.2)) && re.2.2.ok false && ri.2.2.off ((rq.2 ++ ri1.2.1) ++ (rq1.2 ++ re.2.1)) && ri1.2.2.off (rq1.2 ++ re.2.1) && !isSt iter && !isSt iter1) = true then
    some (.comp2 ri.1 rg.1 rq.1 ri1.1 rg1.1 rq1.1 re.1 ((ownL Γ.N scope.names).map (·.2)) rg1.2, ri.2.1 ++ ((rq.2 ++ ri1.2.1) ++ (rq1.2 ++ re.2.1))) else none
theorem compL_cg {f g : PV → Fr → Option (List PV × Fr)} (h : ∀ x fr, f x fr = g x fr) : ∀ xs fr, compL f xs fr = compL g xs fr := by
  have : f = g := funext fun x => funext fun fr => h x fr
  intro xs fr; rw [this]
theorem ok_c2 {r : RT} (hi : OkI C Γ tg iter ri) (hg : OkG C (blkG Γ scope) tg rg) (hq : OkQ C (blkG Γ scope) ifs rq) (hi1 : OkI C (blkG Γ scope) tg1 iter1 ri1) (hg' : OkG C (blkG Γ scope) tg1 rg1) (hq1 : OkQ C (blkG Γ scope) ifs1 rq1) (he : OkE C (blkG Γ scope) elt re)
    (h : kC2 Γ scope iter iter1 ri rg rq ri1 rg1 rq1 re = some r) : OkC C Γ (.ListComp elt [⟨tg, iter, ifs, 0⟩, ⟨tg1, iter1, ifs1, 0⟩] scope pos) r := by
  unfold kC2 at h
  split at h
  case isFalse => cases h
  rename_i ho
  simp only [Bool.and_eq_true] at ho
  obtain ⟨⟨⟨⟨⟨⟨⟨⟨h1, h2⟩, h3⟩, h3'⟩, h4⟩, h5⟩, h5'⟩, h6⟩, h7⟩ := ho
  cases h
  obtain ⟨hg1, g0, hg2, hg3⟩ := hg
  obtain ⟨hg1', g0', hg2', hg3'⟩ := hg'
  have hT : AllM Γ ((rq.2 ++ ri1.2.1) ++ (rq1.2 ++ re.2.1)) := AllM.app (AllM.app (Γ := Γ) hq.1 hi1.1) (AllM.app (Γ := Γ) hq1.1 he.1)
  refine ⟨hi.1.app hT, fun X g => ?_⟩
  have ok : BlkOk X.N X.env.scope scope (ownL Γ.N scope.names) := by rw [g.N, g.sc]; exact blkOk_by h1
  have m : ∀ fr, ev C (.comp2 ri.1 rg.1 rq.1 ri1.1 rg1.1 rq1.1 re.1 ((ownL Γ.N scope.names).map (·.2)) rg1.2) fr =
      comp2M (fun fr => (ev C ri.1 fr).bind fun p => (iterV p.1).map fun xs => (xs, p.2)) (step2F rg.1 ((ownL Γ.N scope.names).map (·.2)) (evc C rq.1) (fun fr => (ev C ri1.1 fr).bind fun p => (iterV p.1).map fun xs => (xs, p.2)) (stepF rg1.1 rg1.2 (evc C rq1.1) (ev C re.1))) ((ownL Γ.N scope.names).map (·.2)) fr := fun fr => by
    simp only [ev]
    unfold comp2M
    dsimp only
    cases ev C ri.1 fr with
    | none => rfl
    | some p =>
      simp only [Option.bind_some]
      cases iterV p.1 with
      | none => rfl
      | some xs =>
        simp only [Option.bind_some, Option.map_some]
        refine congrArg (fun z => Option.bind z _) (compL_cg (fun x g => ?_) xs p.2)
        unfold step2F
        cases bindTg rg.1 x (wipeF g ((ownL Γ.N scope.names).map (·.2))) with
        | none => rfl
        | some g1 =>
          simp only [Option.bind_some]
          cases evc C rq.1 g1 with
          | none => rfl
          | some c =>
            simp only [Option.bind_some]
            by_cases hc : c.1 = true
            · rw [if_pos hc, if_pos hc]
              cases ev C ri1.1 c.2 with
              | none => rfl
              | some p2 =>
                simp only [Option.bind_some]
                cases iterV p2.1 <;> rfl
            · rw [if_neg hc, if_neg hc]
  refine CompS.cg ⟨se_lc2 g.calm g.nd (hi.2 X g) ok (allP_ok h2) (subL_ok h3) (subL_ok h3') (fun i hi => hi) h4 hT h5 h5' (hg3 X.K) (hg3' X.K) (fun s H D cl fp => hg2 _ (g.blk s H D cl fp)) (fun s H D cl fp => hq.2 _ (g.blk s H D cl fp))
    (fun s H D cl fp => hi1.2 _ (g.blk s H D cl fp)) (fun s H D cl fp => hg2' _ (g.blk s H D cl fp)) (fun s H D cl fp => hq1.2 _ (g.blk s H D cl fp)) (fun s H D cl fp => he.2 _ (g.blk s H D cl fp)) (folded_ok (not_tt h6)) (fun env => folded_ok (not_tt h7)), ?_⟩ m
  intro i y py spos e1 e2 e3
  exact ⟨_, ps_setLc2 (wi := tI X.K (clG Γ) Γ.N.length ri.2.1 ri.2.2 _) (wi1 := tI X.K (clG Γ) Γ.N.length ri1.2.1 ri1.2.2 _) (vs1 := rg1.2) (tt := tQ X.K (clG Γ) Γ.N.length rq.2 (evc C rq.1)) (tt1 := tQ X.K (clG Γ) Γ.N.length rq1.2 (evc C rq1.1)) (te := tE X.K (clG Γ) Γ.N.length re.2.1 re.2.2 (ev C re.1)) g.calm g.nd e1 e2 e3 (hi.2 X g) ok (subL_ok h3') (fun s H D cl fp => hg2 _ (g.blk s H D cl fp)) (fun s H D cl fp => hq.2 _ (g.blk s H D cl fp))
    (fun s H D cl fp => hi1.2 _ (g.blk s H D cl fp)) (fun s H D cl fp => hg2' _ (g.blk s H D cl fp)) (fun s H D cl fp => hq1.2 _ (g.blk s H D cl fp)) (fun s H D cl fp => he.2 _ (g.blk s H D cl fp)) (folded_ok (not_tt h6)) (fun env => folded_ok (not_tt h7)),
    fun σ H Q q => lc2_w (allP_ok h2) (subL_ok h3) (subL_ok h3') (fun i hi => hi) h4 hT h5 h5' (hg3 X.K) (hg3' X.K) q⟩
end
end EV

set_option linter.all false
set_option Elab.async false
set_option maxRecDepth 100000
/-! Ev24: the compiler of expressions; it is sound. -/
namespace EV
open PySem L2 PySem.Spec PyProof.Rows C8

mutual
def cE : Nat → Gm → Expr → Option RE
  | 0, _, _ => none
  | k + 1, Γ, e => match e with
    | .Constant .none _ _ => some kNone
    | .Constant (.bool b) _ _ => some (.bl b, [], .val)
    | .Constant (.int i) _ _ => some (.int i, [], .val)
    | .Constant (.str x) _ _ => some (.str x.cps.toList, [], .val)
    | .Name x p => cNm Γ x p
    | .BinOp a o b _ => (cE k Γ a).bind fun ra => (cE k Γ b).bind fun rb => kBin o ra rb
    | .UnaryOp .USub a _ => (cE k Γ a).map fun ra => (.neg ra.1, ra.2.1, .val)
    | .UnaryOp .Not a _ => (cE k Γ a).map fun ra => (.not ra.1, ra.2.1, .val)
    | .BoolOp o es _ => cV k Γ o es
    | .Compare a [o] [b] _ => (cE k Γ a).bind fun ra => (cE k Γ b).bind fun rb => kCmp o b ra rb
    | .Compare a [o, o'] [b, c] _ => (cE k Γ a).bind fun ra => (cE k Γ b).bind fun rb => (cE k Γ c).bind fun rc => kChn o o' b c ra rb rc
    | .IfExp c a b _ => (cT k Γ c).bind fun rc => (cE k Γ a).bind fun ra => (cE k Γ b).bind fun rb => kIfe rc ra rb
    | .Subscript a (.Slice none none (some (.UnaryOp .USub (.Constant (.int 1) _ _) _)) _) _ => (cE k Γ a).map fun ra => (.rev ra.1, ra.2.1, .fresh)
    | .Subscript a (.Slice lo hi none _) _ => (cE k Γ a).bind fun ra => (cO k Γ lo).bind fun rl => (cO k Γ hi).bind fun rh => kCut ra rl rh
    | .Subscript a i _ => (cE k Γ a).bind fun ra => (cE k Γ i).bind fun ri => kSub i ra ri
    | .Tuple es _ _ => (cA k Γ (List.replicate es.length .P) es).bind fun q => kRow .tup q
    | .List es _ => (cA k Γ (List.replicate es.length .P) es).bind fun q => kRow .lst q
    | .Dict keys vals _ => (cD k Γ keys vals).bind fun q => kDct keys.length q
    | .ListComp a gs sc p => (cC k Γ (.ListComp a gs sc p)).map fun r => (r.1, r.2, .fresh)
    | .Call (.Name x _) es [] _ => match es with
      | [] => none
      | a :: es => match Γ.tab.lookup x with
        | some (i, F) => (cA k Γ ((List.range F.na).map (clF F)) (a :: es)).bind fun q => kCall Γ x i F q
        | none => if x = ("isinstance" : Str) then (match es with
            | [.Name t _] => (cE k Γ a).bind fun ra => kIsi Γ a t ra
            | _ => none)
          else (cA k Γ (List.replicate (a :: es).length .L) (a :: es)).bind fun q => kBi Γ x (a :: es).length q
    | .Call (.Attribute o m apos) [e] [] cpos => if m = ("index" : Str) then (cE k Γ o).bind fun ro => (cA k Γ [.L] [e]).bind fun q => kIdx o e apos cpos ro q else none
    | _ => none
def cV : Nat → Gm → BoolOp → List Expr → Option RE
  | 0, _, _, _ => none
  | k + 1, Γ, o, es => match es with
    | [a] => cE k Γ a
    | a :: b :: rest => (cE k Γ a).bind fun ra => (cV k Γ o (b :: rest)).bind fun rb => kBool o ra rb
    | [] => none
def cT : Nat → Gm → Expr → Option RT
  | 0, _, _ => none
  | k + 1, Γ, e => match e with
    | .UnaryOp .Not a _ => (cT k Γ a).map fun ra => (.not ra.1, ra.2)
    | .BoolOp o es _ => cW k Γ o es
    | .Compare a [o] [b] _ => (cE k Γ a).bind fun ra => (cE k Γ b).bind fun rb => (kCmp o b ra rb).map fun r => (r.1, r.2.1)
    | .Compare a [o, o'] [b, c] _ => (cE k Γ a).bind fun ra => (cE k Γ b).bind fun rb => (cE k Γ c).bind fun rc => (kChn o o' b c ra rb rc).map fun r => (r.1, r.2.1)
    | e => if isTest e = false then (cE k Γ e).map fun r => (r.1, r.2.1) else none
def cW : Nat → Gm → BoolOp → List Expr → Option RT
  | 0, _, _, _ => none
  | k + 1, Γ, o, es => match es with
    | [a] => cT k Γ a
    | a :: b :: rest => (cT k Γ a).bind fun ra => (cW k Γ o (b :: rest)).map fun rb => kBoolT o ra rb
    | [] => none
def cO : Nat → Gm → Option Expr → Option RO
  | 0, _, _ => none
  | k + 1, Γ, e => match e with
    | none => some (none, [])
    | some a => (cE k Γ a).map fun r => (some r.1, r.2.1)
def cA : Nat → Gm → List Cls → List Expr → Option RA
  | 0, _, _, _ => none
  | k + 1, Γ, cs, es => match es with
    | [] => some ([], [], [])
    | a :: es => (cE k Γ a).bind fun ra => (cA k Γ cs.tail es).bind fun q => kArg (cs.head?.getD .P) a ra q
def cD : Nat → Gm → List (Option Expr) → List Expr → Option RD
  | 0, _, _, _ => none
  | k + 1, Γ, keys, vals => match keys, vals with
    | [], [] => some ([], [])
    | some a :: keys, b :: vals => (cE k Γ a).bind fun ra => (cE k Γ b).bind fun rb => (cD k Γ keys vals).bind fun q => kPair ra rb q
    | _, _ => none
def cI : Nat → Gm → Expr → Expr → Option RE
  | 0, _, _, _ => none
  | k + 1, Γ, tg, e => match e with
    | .Call (.Name x p) es [] pos => if x = ("range" : Str) then (if rgOk Γ es = true then (match es with
          | [a] => (cE k Γ a).map fun ra => (.rg1 ra.1, ra.2.1, .val)
          | [a, b] => (cE k Γ a).bind fun ra => (cE k Γ b).map fun rb => (.rg2 ra.1 rb.1, ra.2.1 ++ rb.2.1, .val)
          | [a, b, c] => (cE k Γ a).bind fun ra => (cE k Γ b).bind fun rb => (cE k Γ c).map fun rc => (.rg3 ra.1 rb.1 rc.1, ra.2.1 ++ (rb.2.1 ++ rc.2.1), .val)
          | _ => none) else none)
        else if x = ("zip" : Str) then (match es, tg with
          | [a, b], .Tuple _ _ _ => (cE k Γ a).bind fun ra => (cE k Γ b).bind fun rb => if zipOk Γ a b ra rb = true then some (.zip ra.1 rb.1, ra.2.1 ++ rb.2.1, .val) else none
          | _, _ => none)
        else cE k Γ e
    | e => cE k Γ e
def cQ : Nat → Gm → List Expr → Option RO
  | 0, _, _ => none
  | k + 1, Γ, es => match es with
    | [] => some (none, [])
    | [c] => (cT k Γ c).map fun r => (some r.1, r.2)
    | _ => none
def cC : Nat → Gm → Expr → Option RT
  | 0, _, _ => none
  | k + 1, Γ, e => match e with
    | .ListComp elt [⟨tg, iter, ifs, 0⟩] scope _ => (cI k Γ tg iter).bind fun ri => (cG (blkG Γ scope) tg).bind fun rg => (cQ k (blkG Γ scope) ifs).bind fun rq => (cE k (blkG Γ scope) elt).bind fun re => kC1 Γ scope iter ri rg rq re
    | .ListComp elt [⟨tg, iter, ifs, 0⟩, ⟨tg1, iter1, ifs1, 0⟩] scope _ => (cI k Γ tg iter).bind fun ri => (cG (blkG Γ scope) tg).bind fun rg => (cQ k (blkG Γ scope) ifs).bind fun rq =>
        (cI k (blkG Γ scope) tg1 iter1).bind fun ri1 => (cG (blkG Γ scope) tg1).bind fun rg1 => (cQ k (blkG Γ scope) ifs1).bind fun rq1 => (cE k (blkG Γ scope) elt).bind fun re => kC2 Γ scope iter iter1 ri rg rq ri1 rg1 rq1 re
    | _ => none
end

structure Snd (C : Calls) (k : Nat) : Prop where
  E : ∀ {Γ e r}, cE k Γ e = some r → OkE C Γ e r
  V : ∀ {Γ o es r pos}, cV k Γ o es = some r → OkE C Γ (.BoolOp o es pos) r
  T : ∀ {Γ e r}, cT k Γ e = some r → OkT C Γ e r
  W : ∀ {Γ o es r pos}, cW k Γ o es = some r → OkW C Γ (.BoolOp o es pos) r
  O : ∀ {Γ e r}, cO k Γ e = some r → OkO C Γ e r
  A : ∀ {Γ cs es r}, cA k Γ cs es = some r → OkA C Γ es r
  D : ∀ {Γ keys vals r pos}, cD k Γ keys vals = some r → OkD C Γ pos keys vals r
  I : ∀ {Γ tg e r}, cI k Γ tg e = some r → OkI C Γ tg e r
  Q : ∀ {Γ es r}, cQ k Γ es = some r → OkQ C Γ es r
  Cc : ∀ {Γ e r}, cC k Γ e = some r → OkC C Γ e r

section
variable {C : Calls} {k : Nat}
theorem snd_E (S : Snd C k) {Γ : Gm} {e : Expr} {r : RE} (h : cE (k + 1) Γ e = some r) : OkE C Γ e r := by
  unfold cE at h
  split at h
  · cases h; exact ok_none
  · cases h; exact ok_bool
  · cases h; exact ok_int
  · cases h; exact ok_str
  · exact ok_nm h
  · obtain ⟨ra, h1, h⟩ := Option.bind_eq_some_iff.mp h
    obtain ⟨rb, h2, h⟩ := Option.bind_eq_some_iff.mp h
    exact ok_bin (S.E h1) (S.E h2) h
  · obtain ⟨ra, h1, h⟩ := Option.map_eq_some_iff.mp h
    subst h; exact ok_neg (S.E h1)
  · obtain ⟨ra, h1, h⟩ := Option.map_eq_some_iff.mp h
    subst h; exact ok_not (S.E h1)
  · exact S.V h
  · obtain ⟨ra, h1, h⟩ := Option.bind_eq_some_iff.mp h
    obtain ⟨rb, h2, h⟩ := Option.bind_eq_some_iff.mp h
    exact ok_cmp (S.E h1) (S.E h2) h
  · obtain ⟨ra, h1, h⟩ := Option.bind_eq_some_iff.mp h
    obtain ⟨rb, h2, h⟩ := Option.bind_eq_some_iff.mp h
    obtain ⟨rc, h3, h⟩ := Option.bind_eq_some_iff.mp h
    exact ok_chn (S.E h1) (S.E h2) (S.E h3) h
  · obtain ⟨rc, h3, h⟩ := Option.bind_eq_some_iff.mp h
    obtain ⟨ra, h1, h⟩ := Option.bind_eq_some_iff.mp h
    obtain ⟨rb, h2, h⟩ := Option.bind_eq_some_iff.mp h
    exact ok_ife (S.T h3) (S.E h1) (S.E h2) h
  · obtain ⟨ra, h1, h⟩ := Option.map_eq_some_iff.mp h
    subst h; exact ok_rev (S.E h1)
  · obtain ⟨ra, h1, h⟩ := Option.bind_eq_some_iff.mp h
    obtain ⟨rl, h2, h⟩ := Option.bind_eq_some_iff.mp h
    obtain ⟨rh, h3, h⟩ := Option.bind_eq_some_iff.mp h
    exact ok_cut (S.E h1) (S.O h2) (S.O h3) h
  · obtain ⟨ra, h1, h⟩ := Option.bind_eq_some_iff.mp h
    obtain ⟨rb, h2, h⟩ := Option.bind_eq_some_iff.mp h
    exact ok_sub (S.E h1) (S.E h2) h
  · obtain ⟨q, h1, h⟩ := Option.bind_eq_some_iff.mp h
    exact ok_tup (S.A h1) h
  · obtain ⟨q, h1, h⟩ := Option.bind_eq_some_iff.mp h
    exact ok_lst (S.A h1) h
  · obtain ⟨q, h1, h⟩ := Option.bind_eq_some_iff.mp h
    exact ok_dct (S.D h1) h
  · obtain ⟨q, h1, h⟩ := Option.map_eq_some_iff.mp h
    subst h
    exact ok_comp (S.Cc h1)
  · split at h
    · cases h
    · split at h
      · rename_i ht
        obtain ⟨q, h1, h⟩ := Option.bind_eq_some_iff.mp h
        exact ok_call (S.A h1) ht h
      · split at h
        · rename_i hx
          split at h
          · obtain ⟨ra, h1, h⟩ := Option.bind_eq_some_iff.mp h
            subst hx
            exact ok_isi (S.E h1) h
          · cases h
        · obtain ⟨q, h1, h⟩ := Option.bind_eq_some_iff.mp h
          exact ok_bi (S.A h1) h
  · split at h
    · rename_i hx
      subst hx
      obtain ⟨ro, h1, h⟩ := Option.bind_eq_some_iff.mp h
      obtain ⟨q, h2, h⟩ := Option.bind_eq_some_iff.mp h
      exact ok_idx (S.E h1) (S.A h2) h
    · cases h
  · cases h
theorem snd_V (S : Snd C k) {Γ : Gm} {o : BoolOp} {es : List Expr} {r : RE} {pos : Pos} (h : cV (k + 1) Γ o es = some r) : OkE C Γ (.BoolOp o es pos) r := by
  unfold cV at h
  split at h
  · exact ok_one (S.E h)
  · obtain ⟨ra, h1, h⟩ := Option.bind_eq_some_iff.mp h
    obtain ⟨rb, h2, h⟩ := Option.bind_eq_some_iff.mp h
    exact ok_bop (S.E h1) (S.V h2) h
  · cases h
theorem snd_T (S : Snd C k) {Γ : Gm} {e : Expr} {r : RT} (h : cT (k + 1) Γ e = some r) : OkT C Γ e r := by
  unfold cT at h
  split at h
  · obtain ⟨ra, h1, h⟩ := Option.map_eq_some_iff.mp h
    subst h; exact ok_notT (S.T h1)
  · exact ok_W (S.W h)
  · obtain ⟨ra, h1, h⟩ := Option.bind_eq_some_iff.mp h
    obtain ⟨rb, h2, h⟩ := Option.bind_eq_some_iff.mp h
    obtain ⟨r, h3, h⟩ := Option.map_eq_some_iff.mp h
    subst h; exact ok_cmpT (S.E h1) (S.E h2) h3
  · obtain ⟨ra, h1, h⟩ := Option.bind_eq_some_iff.mp h
    obtain ⟨rb, h2, h⟩ := Option.bind_eq_some_iff.mp h
    obtain ⟨rc, h3, h⟩ := Option.bind_eq_some_iff.mp h
    obtain ⟨r, h4, h⟩ := Option.map_eq_some_iff.mp h
    subst h; exact ok_chnT (S.E h1) (S.E h2) (S.E h3) h4
  · split at h
    · rename_i hx
      obtain ⟨r, h4, h⟩ := Option.map_eq_some_iff.mp h
      subst h; exact ok_val (S.E h4) hx
    · cases h
theorem snd_W (S : Snd C k) {Γ : Gm} {o : BoolOp} {es : List Expr} {r : RT} {pos : Pos} (h : cW (k + 1) Γ o es = some r) : OkW C Γ (.BoolOp o es pos) r := by
  unfold cW at h
  split at h
  · exact ok_oneT (S.T h)
  · obtain ⟨ra, h1, h⟩ := Option.bind_eq_some_iff.mp h
    obtain ⟨rb, h2, h⟩ := Option.map_eq_some_iff.mp h
    subst h
    exact ok_bopT (S.T h1) (S.W h2)
  · cases h
theorem snd_O (S : Snd C k) {Γ : Gm} {e : Option Expr} {r : RO} (h : cO (k + 1) Γ e = some r) : OkO C Γ e r := by
  unfold cO at h
  split at h
  · cases h; exact ok_so0
  · obtain ⟨ra, h1, h⟩ := Option.map_eq_some_iff.mp h
    subst h; exact ok_so1 (S.E h1)
theorem snd_A (S : Snd C k) {Γ : Gm} {cs : List Cls} {e : List Expr} {r : RA} (h : cA (k + 1) Γ cs e = some r) : OkA C Γ e r := by
  unfold cA at h
  split at h
  · cases h; exact ok_a0
  · obtain ⟨ra, h1, h⟩ := Option.bind_eq_some_iff.mp h
    obtain ⟨q, h2, h⟩ := Option.bind_eq_some_iff.mp h
    exact ok_a1 (S.E h1) (S.A h2) h
theorem snd_D (S : Snd C k) {Γ : Gm} {keys : List (Option Expr)} {vals : List Expr} {r : RD} {pos : Pos} (h : cD (k + 1) Γ keys vals = some r) : OkD C Γ pos keys vals r := by
  unfold cD at h
  split at h
  · cases h; exact ok_d0
  · obtain ⟨ra, h1, h⟩ := Option.bind_eq_some_iff.mp h
    obtain ⟨rb, h2, h⟩ := Option.bind_eq_some_iff.mp h
    obtain ⟨q, h3, h⟩ := Option.bind_eq_some_iff.mp h
    exact ok_d1 (S.E h1) (S.E h2) (S.D h3) h
  · cases h
theorem snd_I (S : Snd C k) {Γ : Gm} {tg e : Expr} {r : RE} (h : cI (k + 1) Γ tg e = some r) : OkI C Γ tg e r := by
  unfold cI at h
  split at h
  · split at h
    · rename_i hx
      subst hx
      split at h
      · rename_i hr
        split at h
        · obtain ⟨ra, h1, h⟩ := Option.map_eq_some_iff.mp h
          subst h; exact ok_rg1 (S.E h1) hr
        · obtain ⟨ra, h1, h⟩ := Option.bind_eq_some_iff.mp h
          obtain ⟨rb, h2, h⟩ := Option.map_eq_some_iff.mp h
          subst h; exact ok_rg2 (S.E h1) (S.E h2) hr
        · obtain ⟨ra, h1, h⟩ := Option.bind_eq_some_iff.mp h
          obtain ⟨rb, h2, h⟩ := Option.bind_eq_some_iff.mp h
          obtain ⟨rc, h3, h⟩ := Option.map_eq_some_iff.mp h
          subst h; exact ok_rg3 (S.E h1) (S.E h2) (S.E h3) hr
        · cases h
      · cases h
    · split at h
      · rename_i hx
        subst hx
        split at h
        · obtain ⟨ra, h1, h⟩ := Option.bind_eq_some_iff.mp h
          obtain ⟨rb, h2, h⟩ := Option.bind_eq_some_iff.mp h
          split at h
          · rename_i hz
            cases h; exact ok_zip (S.E h1) (S.E h2) hz
          · cases h
        · cases h
      · exact ok_src (S.E h)
  · exact ok_src (S.E h)
theorem snd_Q (S : Snd C k) {Γ : Gm} {es : List Expr} {r : RO} (h : cQ (k + 1) Γ es = some r) : OkQ C Γ es r := by
  unfold cQ at h
  split at h
  · cases h; exact ok_q0
  · obtain ⟨ra, h1, h⟩ := Option.map_eq_some_iff.mp h
    subst h; exact ok_q1 (S.T h1)
  · cases h
theorem snd_C (S : Snd C k) {Γ : Gm} {e : Expr} {r : RT} (h : cC (k + 1) Γ e = some r) : OkC C Γ e r := by
  unfold cC at h
  split at h
  · obtain ⟨ri, h1, h⟩ := Option.bind_eq_some_iff.mp h
    obtain ⟨rg, h2, h⟩ := Option.bind_eq_some_iff.mp h
    obtain ⟨rq, h3, h⟩ := Option.bind_eq_some_iff.mp h
    obtain ⟨re, h4, h⟩ := Option.bind_eq_some_iff.mp h
    exact ok_c1 (S.I h1) (cG_ok h2) (S.Q h3) (S.E h4) h
  · obtain ⟨ri, h1, h⟩ := Option.bind_eq_some_iff.mp h
    obtain ⟨rg, h2, h⟩ := Option.bind_eq_some_iff.mp h
    obtain ⟨rq, h3, h⟩ := Option.bind_eq_some_iff.mp h
    obtain ⟨ri1, h1', h⟩ := Option.bind_eq_some_iff.mp h
    obtain ⟨rg1, h2', h⟩ := Option.bind_eq_some_iff.mp h
    obtain ⟨rq1, h3', h⟩ := Option.bind_eq_some_iff.mp h
    obtain ⟨re, h4, h⟩ := Option.bind_eq_some_iff.mp h
    exact ok_c2 (S.I h1) (cG_ok h2) (S.Q h3) (S.I h1') (cG_ok h2') (S.Q h3') (S.E h4) h
  · cases h
theorem snd_all : ∀ k, Snd C k
  | 0 => by
    constructor <;> intros <;> rename_i h
    · unfold cE at h; cases h
    · unfold cV at h; cases h
    · unfold cT at h; cases h
    · unfold cW at h; cases h
    · unfold cO at h; cases h
    · unfold cA at h; cases h
    · unfold cD at h; cases h
    · unfold cI at h; cases h
    · unfold cQ at h; cases h
    · unfold cC at h; cases h
  | k + 1 =>
    have S := snd_all k
    ⟨snd_E S, snd_V S, snd_T S, snd_W S, snd_O S, snd_A S, snd_D S, snd_I S, snd_Q S, snd_C S⟩
end
end EV

set_option linter.all false
set_option Elab.async false
set_option maxRecDepth 100000
/-! Ev25: the compiler of statements; it is sound. -/
namespace EV
open PySem L2 PySem.Spec PyProof.Rows C8

theorem SS.cg {X : Cx} {cl : Nat → Cls} {n na : Nat} {rf : Bool} {T A : List Nat} {st : Stmt} {m m' : Fr → Option (Fl × Fr)} (h : SS X cl n na rf T A st m) (q : ∀ fr, m' fr = m fr) : SS X cl n na rf T A st m' := by
  rw [funext q]; exact h
theorem SSs.cg {X : Cx} {cl : Nat → Cls} {n na : Nat} {rf : Bool} {T A : List Nat} {st : List Stmt} {m m' : Fr → Option (Fl × Fr)} (h : SSs X cl n na rf T A st m) (q : ∀ fr, m' fr = m fr) : SSs X cl n na rf T A st m' := by
  rw [funext q]; exact h
/-- less is defined -/
theorem SS.lt {X : Cx} {cl : Nat → Cls} {n na : Nat} {rf : Bool} {T A : List Nat} {st : Stmt} {m m' : Fr → Option (Fl × Fr)} (h : SS X cl n na rf T A st m) (q : ∀ fr p, m' fr = some p → m fr = some p) : SS X cl n na rf T A st m' :=
  PS.weak h fun D σ H ⟨BL, fr, fl, fr', f, e, k⟩ => ⟨BL, fr, fl, fr', f, q fr _ e, k⟩
abbrev RS := Sm × List Nat × List Nat
abbrev RSs := List Sm × List Nat × List Nat
section
variable (C : Calls) (Γ : Gm)
def OkS (st : Stmt) (r : RS) : Prop := ∀ X, Good Γ C X → PassesOwn (model X.prog X.w) X.A X.env X.xe → SS X (clG Γ) Γ.N.length Γ.na Γ.rf r.2.1 r.2.2 st (evS C r.1)
def OkSs (st : List Stmt) (r : RSs) : Prop := ∀ X, Good Γ C X → PassesOwn (model X.prog X.w) X.A X.env X.xe → SSs X (clG Γ) Γ.N.length Γ.na Γ.rf r.2.1 r.2.2 st (evSs C r.1)
end
section
variable {C : Calls} {Γ : Gm} {X : Cx} {e a b c : Expr} {es : List Expr} {ra rb rc ri re : RE} {rt rt' : RT} {rs rs' : RSs} {r : RS} {pos p p1 p2 p3 : Pos} {k : Nat} {x : Str} {st : Stmt} {sts sts' : List Stmt}
/-- a name that is stored -/
def kTg0 (Γ : Gm) (x : Str) : Option Nat := (fdIx x Γ.N).bind fun i => if (locK (Γ.sc.names.lookup x) && (Γ.fn x || isLoc (Γ.sc.names.lookup x))) = true then some i else none
structure Tg0 (X : Cx) (x : Str) (i : Nat) : Prop where
  ix : X.N[i]? = some x
  loc : L2.Loc X.env.scope x
  fn : X.fn x = true ∨ X.env.scope.names.lookup x = some .local
theorem kTg0_ok {i : Nat} (h : kTg0 Γ x = some i) : Γ.N[i]? = some x ∧ ∀ X, Good Γ C X → Tg0 X x i := by
  obtain ⟨j, h1, h2⟩ := Option.bind_eq_some_iff.mp h
  split at h2 <;> cases h2
  rename_i ho
  simp only [Bool.and_eq_true] at ho
  refine ⟨fdIx_get h1, fun X g => ⟨by rw [g.N]; exact fdIx_get h1, by rw [g.sc]; exact loc_of ho.1, ?_⟩⟩
  rw [g.fn, g.sc]
  exact fn_or ho.2
def kTgN (Γ : Gm) : List Expr → Option (List Nat)
  | [] => some []
  | e :: es => (nmOf e).bind fun xp => (kTg0 Γ xp.1).bind fun i => (kTgN Γ es).map (i :: ·)
theorem kTgN_ok : ∀ {es : List Expr} {is : List Nat}, kTgN Γ es = some is → (es.all isNm) = true ∧ es.length = is.length ∧ (∀ i ∈ is, i < Γ.N.length) ∧ ∀ X, Good Γ C X → PGs X es (gNames is)
  | [], _, h => by cases h; exact ⟨rfl, rfl, fun _ z => absurd z (by simp), fun X g => pgs_nil⟩
  | e :: es, _, h => by
    obtain ⟨⟨x, p⟩, h1, h2⟩ := Option.bind_eq_some_iff.mp h
    obtain ⟨i, h3, h4⟩ := Option.bind_eq_some_iff.mp h2
    obtain ⟨is, h5, h6⟩ := Option.map_eq_some_iff.mp h4
    subst h6
    obtain rfl := nmOf_eq h1
    obtain ⟨q1, q2, q3, q4⟩ := kTgN_ok h5
    obtain ⟨q5, q6⟩ := kTg0_ok (C := C) h3
    refine ⟨by simp only [List.all_cons, Bool.and_eq_true]; exact ⟨rfl, q1⟩, by simp [q2], fun j hj => ?_, fun X g => pgs_cons (pg_name g.nd (q6 X g).ix (q6 X g).loc (q6 X g).fn) (q4 X g)⟩
    rcases List.mem_cons.mp hj with hj | hj
    · rw [hj]; exact get_lt q5
    · exact q3 j hj
/-! name = value -/
def kAsg (Γ : Gm) (i : Nat) (re : RE) : Option RS := match clG Γ i with
  | .P => if re.2.2.ok false = true then some (.asg i re.1, i :: re.2.1, [i]) else none
  | .M => if re.2.2.le .fresh = true then some (.asgM i re.1, i :: re.2.1, [i]) else none
  | .L => none
theorem ok_asgT {i : Nat} (hi : kTg0 Γ x = some i) (hT : AllM Γ re.2.1) (h : kAsg Γ i re = some r)
    (hp : ∀ X, Good Γ C X → ∃ te, PS X st (tAsg te (gName i)) ∧ ∀ md, re.2.2.le md = true → ∀ σ H Q, tE X.K (clG Γ) Γ.N.length re.2.1 md (ev C re.1) σ H Q → te σ H Q) : OkS C Γ st r := fun X g _ => by
  obtain ⟨te, h1, h2⟩ := hp X g
  obtain ⟨hn, _⟩ := kTg0_ok (C := C) hi
  unfold kAsg at h
  split at h
  · split at h <;> cases h
    rename_i hc hm
    exact (ss_asg h1 (h2 re.2.2 (Md.le_refl _)) hm hc).cg fun fr => by simp only [evS]
  · split at h <;> cases h
    rename_i hc hm
    exact (ss_asgM h1 (h2 .fresh hm) hc (get_lt hn) hT).cg fun fr => by simp only [evS]
  · cases h
theorem tE_weak {K : PySem.W.Frag} {cl : Nat → Cls} {n : Nat} {T : List Nat} {md md' : Md} {m : Fr → Option (PV × Fr)} (hm : md.le md' = true) {σ : L2.St} {H : Hp} {Q : VK} (h : tE K cl n T md' m σ H Q) : tE K cl n T md m σ H Q := by
  obtain ⟨BL, fr, x, fr', f, e, k⟩ := h
  exact ⟨BL, fr, x, fr', f, e, fun v H' p => k v H' (p.weak f hm)⟩
theorem ok_asg {i : Nat} {px : Pos} (hi : kTg0 Γ x = some i) (he : OkE C Γ e re) (hc : isCompr e = false) (h : kAsg Γ i re = some r) : OkS C Γ (.Assign [.Name x px] e pos) r := by
  refine ok_asgT hi he.1 h fun X g => ?_
  obtain ⟨_, q⟩ := kTg0_ok (C := C) hi
  have t := q X g
  exact ⟨_, ps_set g.nd t.ix t.loc (he.2 X g) (swaps_no hc) t.fn, fun md hm σ H Q z => tE_weak hm z⟩
/-- does the store stand in the comprehension's own row -/
def swB (sc scope : Scope) (t : Str) (pl vl : Nat) : Bool := (if sc.kind.isAnnotationScope then ScopeKind.function else sc.kind) == .function && sc.names.lookup t == some .local && pl == vl
      && !(scope.names.any fun (n, k) => n == t && (k == .local || k == .cell))
theorem sw_eq {elt : Expr} {gs : List Comprehension} {scope : Scope} {vp px : Pos} {l : Nat} {env : Env} : swapsWith (.ListComp elt gs scope vp) (some (.Name x px)) l env = pure (swB env.scope scope x px.line vp.line) := rfl
theorem ok_asgC {i : Nat} {px : Pos} {elt : Expr} {gs : List Comprehension} {scope : Scope} {vp : Pos} (hi : kTg0 Γ x = some i) (he : OkC C Γ (.ListComp elt gs scope vp) rt)
    (h : kAsg Γ i (rt.1, rt.2, .fresh) = some r) : OkS C Γ (.Assign [.Name x px] (.ListComp elt gs scope vp) pos) r := by
  refine ok_asgT (re := (rt.1, rt.2, .fresh)) hi he.1 h fun X g => ?_
  obtain ⟨_, q⟩ := kTg0_ok (C := C) hi
  have t := q X g
  have cs := he.2 X g
  by_cases hs : swB Γ.sc scope x px.line vp.line = true
  · have hl : X.env.scope.names.lookup x = some .local := by
      unfold swB at hs
      simp only [Bool.and_eq_true] at hs
      rw [g.sc]
      simpa using hs.1.1.2
    obtain ⟨te, z1, z2⟩ := cs.2 i x px pos t.ix hl (by rw [sw_eq, g.sc, hs])
    exact ⟨te, z1, fun md hm σ H Q z => z2 σ H Q (tE_weak hm z)⟩
  · exact ⟨_, ps_set g.nd t.ix t.loc cs.1 (by rw [sw_eq, g.sc]; simp [hs]) t.fn, fun md hm σ H Q z => tE_weak hm z⟩
/-! a, b = x, y -/
def bkK (sc : Scope) : ScopeKind := if sc.kind.isAnnotationScope then .function else sc.kind
def stB (sc : Scope) (ts vs : List Expr) : Option (Option (List Str)) :=
  if !(ts.length == 2 || ts.length == 3) || vs.length != ts.length || bkK sc != .function then some none
  else if vs.any (fun | .Starred .. => true | _ => false) then some none
  else
    let line := (ts.head?.map (·.pos.line)).getD 0
    let names := ts.filterMap fun
      | .Name id pos => if sc.names.lookup id == some .local && pos.line == line then some id else none
      | _ => none
    if names.length != ts.length || names.eraseDups.length != names.length then some none
    else if vs.all (foldedForSure 8) then some none
    else if vs.all (constantsAlone 8) then none
    else some (some names)
theorem stB_ok {ts vs : List Expr} {kt k2 : Nat} {pt pt2 : Pos} {env : Env} {o : Option (List Str)} (h : stB env.scope ts vs = some o) : swappedStores [.Tuple ts kt pt] (.Tuple vs k2 pt2) env = pure o := by
  unfold stB at h
  unfold swappedStores
  dsimp only at h ⊢
  split at h
  · rename_i h1
    cases h
    have h1 : (!(ts.length == 2 || ts.length == 3) || vs.length != ts.length || env.blockKind != .function) = true := h1
    simp only [h1, if_true]
  rename_i h1
  have h1 : ¬ (!(ts.length == 2 || ts.length == 3) || vs.length != ts.length || env.blockKind != .function) = true := h1
  simp only [h1, if_false]
  split at h
  · rename_i h2
    cases h
    exact if_pos h2
  rename_i h2
  refine (if_neg h2).trans ?_
  split at h
  · rename_i h3
    cases h
    exact if_pos h3
  rename_i h3
  refine (if_neg h3).trans ?_
  split at h
  · rename_i h4
    cases h
    exact if_pos h4
  rename_i h4
  refine (if_neg h4).trans ?_
  split at h
  · cases h
  rename_i h5
  cases h
  exact if_neg h5
end
end EV

set_option linter.all false
set_option Elab.async false
set_option maxRecDepth 100000
/-! Ev26: the compiler of statements; it is sound. -/
namespace EV
open PySem L2 PySem.Spec PyProof.Rows C8

abbrev RF := List Ex × List Nat
section
variable {C : Calls} {Γ : Gm} {X : Cx} {e a b c o kx : Expr} {es tgs : List Expr} {ra rb rc ri re rk : RE} {rt rt' : RT} {rs rs' : RSs} {r : RS} {pos p p1 p2 p3 apos cpos : Pos} {k : Nat} {x : Str} {st : Stmt} {sts sts' : List Stmt} {bs : List Bool}
/-! values of a tuple assignment -/
variable (C Γ) in
def OkF (bs : List Bool) (es : List Expr) (r : RF) : Prop := AllM Γ r.2 ∧ (es.all notStar) = true ∧ ∃ ms, (∀ fr p, evs C r.1 fr = some p → parChk bs p.1 = true → ms fr = some p) ∧ ∀ X, Good Γ C X → SF X (clG Γ) Γ.N.length r.2 bs es ms
theorem ok_f0 : OkF C Γ [] [] ([], []) := ⟨.nil, rfl, fun fr => some ([], fr), fun fr p h _ => by simpa only [evs] using h, fun X g => sf_nil⟩
def kF (b : Bool) (a : Expr) (ra : RE) (q : RF) : Option RF := if (parOk ra.2.2 b && notStar a) = true then some (ra.1 :: q.1, ra.2.1 ++ q.2) else none
theorem ok_f1 {bb : Bool} {q r : RF} (ha : OkE C Γ a ra) (hq : OkF C Γ bs es q) (h : kF bb a ra q = some r) : OkF C Γ (bb :: bs) (a :: es) r := by
  unfold kF at h
  split at h <;> cases h
  rename_i ho
  simp only [Bool.and_eq_true] at ho
  obtain ⟨q1, q2, ms, q3, q4⟩ := hq
  refine ⟨ha.1.app q1, by simp only [List.all_cons, Bool.and_eq_true]; exact ⟨ho.2, q2⟩, parM bb (ev C ra.1) ms, fun fr p h1 h2 => ?_, fun X g => sf_cons (ha.2 X g) (q4 X g) ho.1 (star_ok ho.2)⟩
  simp only [evs] at h1
  obtain ⟨⟨v, fr1⟩, e1, e2⟩ := Option.bind_eq_some_iff.mp h1
  obtain ⟨⟨vs, fr2⟩, e3, e4⟩ := Option.map_eq_some_iff.mp e2
  subst e4
  simp only [parChk, Bool.and_eq_true] at h2
  unfold parM
  rw [e1]
  simp only [Option.bind_some]
  rw [if_neg (by have := h2.1; cases bb <;> simp_all)]
  rw [q3 _ _ e3 h2.2]
  rfl
def okTgs (Γ : Gm) (is : List Nat) : Bool := is.all fun i => decide (clG Γ i ≠ .L)
def bsOf (Γ : Gm) (is : List Nat) : List Bool := is.map fun i => decide (clG Γ i = .M)
theorem parC_of {is : List Nat} (h : okTgs Γ is = true) (hn : ∀ i ∈ is, i < Γ.N.length) : parC (clG Γ) Γ.N.length is (bsOf Γ is) := fun j i hj => by
  have hi := List.mem_of_getElem? hj
  refine ⟨?_, hn i hi⟩
  have h1 : clG Γ i ≠ .L := of_decide_eq_true (List.all_eq_true.mp h i hi)
  have h2 : (bsOf Γ is)[j]? = some (decide (clG Γ i = .M)) := by unfold bsOf; rw [List.getElem?_map, hj]; rfl
  rw [h2]
  cases hc : clG Γ i with
  | P => simp
  | L => exact (h1 hc).elim
  | M => simp
def kPar (Γ : Gm) (tgs es : List Expr) (is : List Nat) (q : RF) : Option RS := if okTgs Γ is = true then match stB Γ.sc tgs es with
    | some none => if is.length ≤ 30 then some (.par is (bsOf Γ is) q.1, is ++ q.2, is) else none
    | some (some _) => (match tgs, es, is with
      | [.Name x _, .Name y _], [_, _], [i, j] => if (stB Γ.sc tgs es == some (some [x, y]) && decide (i ≠ j) && isLoc (Γ.sc.names.lookup x) && isLoc (Γ.sc.names.lookup y)) = true then some (.par is (bsOf Γ is) q.1, is ++ q.2, is) else none
      | [.Name x _, .Name y _, .Name z _], [_, _, _], [i, j, l] => if (stB Γ.sc tgs es == some (some [x, y, z]) && decide (i ≠ j ∧ i ≠ l ∧ j ≠ l) && isLoc (Γ.sc.names.lookup x) && isLoc (Γ.sc.names.lookup y) && isLoc (Γ.sc.names.lookup z)) = true then some (.par is (bsOf Γ is) q.1, is ++ q.2, is) else none
      | _, _, _ => none)
    | none => none
  else none
theorem par_lt {is : List Nat} {q : RF} {ms : Fr → Option (List PV × Fr)} (h : ∀ fr p, evs C q.1 fr = some p → parChk bs p.1 = true → ms fr = some p) : ∀ fr p, evS C (.par is bs q.1) fr = some p → parS is ms fr = some p := fun fr p e => by
  simp only [evS] at e
  obtain ⟨r, e1, e2⟩ := Option.bind_eq_some_iff.mp e
  split at e2 <;> cases e2
  rename_i hc
  unfold parS
  rw [h _ _ e1 hc]
  rfl
theorem ok_par {is : List Nat} {q : RF} {kt k2 : Nat} {pt pt2 : Pos} (ht : kTgN Γ tgs = some is) (hq : OkF C Γ (bsOf Γ is) es q) (h : kPar Γ tgs es is q = some r) :
    OkS C Γ (.Assign [.Tuple tgs kt pt] (.Tuple es k2 pt2) pos) r := fun X g _ => by
  obtain ⟨t1, t2, t3, t4⟩ := kTgN_ok (C := C) ht
  obtain ⟨q1, q2, ms, q3, q4⟩ := hq
  unfold kPar at h
  split at h
  case isFalse => cases h
  rename_i hok
  have pc := parC_of hok t3
  split at h
  · rename_i hst
    split at h <;> cases h
    rename_i h30
    obtain ⟨n1, n2, n3⟩ := each_nm (env := X.env) t1
    exact (ss_parN g.calm (t4 X g) (q4 X g) q1 (by simp [bsOf]) pc h30 (n1.trans t2) n2 (sole_no rfl) (stB_ok (by rw [g.sc]; exact hst)) (each_one rfl)).lt (par_lt q3)
  · split at h
    · split at h <;> cases h
      rename_i hh
      simp only [Bool.and_eq_true, beq_iff_eq, decide_eq_true_eq] at hh
      obtain ⟨⟨⟨h1, h2⟩, h3⟩, h4⟩ := hh
      obtain ⟨⟨x', _⟩, e1, e2⟩ := Option.bind_eq_some_iff.mp ht
      cases e1
      obtain ⟨i', e3, e4⟩ := Option.bind_eq_some_iff.mp e2
      obtain ⟨is', e5, e6⟩ := Option.map_eq_some_iff.mp e4
      cases e6
      obtain ⟨⟨y', _⟩, e1', e2'⟩ := Option.bind_eq_some_iff.mp e5
      cases e1'
      obtain ⟨j', e3', e4'⟩ := Option.bind_eq_some_iff.mp e2'
      obtain ⟨is'', e5', e6'⟩ := Option.map_eq_some_iff.mp e4'
      cases e6'
      have tx := (kTg0_ok (C := C) e3).2 X g
      have ty := (kTg0_ok (C := C) e3').2 X g
      exact (ss_par2 g.calm g.nd tx.ix ty.ix h2 (by rw [g.sc]; exact isLoc_of h3) (by rw [g.sc]; exact isLoc_of h4) (q4 X g) q1 (by simp [bsOf]) pc (stB_ok (by rw [g.sc]; exact h1)) (sole_no rfl)).lt (par_lt q3)
    · split at h <;> cases h
      rename_i hh
      simp only [Bool.and_eq_true, beq_iff_eq, decide_eq_true_eq] at hh
      obtain ⟨⟨⟨⟨h1, h2⟩, h3⟩, h4⟩, h5⟩ := hh
      obtain ⟨⟨x', _⟩, e1, e2⟩ := Option.bind_eq_some_iff.mp ht
      cases e1
      obtain ⟨i', e3, e4⟩ := Option.bind_eq_some_iff.mp e2
      obtain ⟨is', e5, e6⟩ := Option.map_eq_some_iff.mp e4
      cases e6
      obtain ⟨⟨y', _⟩, e1', e2'⟩ := Option.bind_eq_some_iff.mp e5
      cases e1'
      obtain ⟨j', e3', e4'⟩ := Option.bind_eq_some_iff.mp e2'
      obtain ⟨is'', e5', e6'⟩ := Option.map_eq_some_iff.mp e4'
      cases e6'
      obtain ⟨⟨z', _⟩, e1'', e2''⟩ := Option.bind_eq_some_iff.mp e5'
      cases e1''
      obtain ⟨l', e3'', e4''⟩ := Option.bind_eq_some_iff.mp e2''
      obtain ⟨is3, e5'', e6''⟩ := Option.map_eq_some_iff.mp e4''
      cases e6''
      have tx := (kTg0_ok (C := C) e3).2 X g
      have ty := (kTg0_ok (C := C) e3').2 X g
      have tz := (kTg0_ok (C := C) e3'').2 X g
      exact (ss_par3 g.calm g.nd tx.ix ty.ix tz.ix h2.1 h2.2.1 h2.2.2 (by rw [g.sc]; exact isLoc_of h3) (by rw [g.sc]; exact isLoc_of h4) (by rw [g.sc]; exact isLoc_of h5) (q4 X g) q1 (by simp [bsOf]) pc (stB_ok (by rw [g.sc]; exact h1)) (sole_no rfl)).lt (par_lt q3)
    · cases h
  · cases h
/-! a, b = value -/
def kUnp (re : RE) (rg : Tg × List Nat) (e : Expr) : Option RS := if (re.2.2.ok false && !isTupE e) = true then match rg.1 with
    | .tp is => some (.unp is re.1, rg.2 ++ re.2.1, rg.2)
    | _ => none
  else none
theorem ok_unp {tg : Expr} {rg : Tg × List Nat} (he : OkE C Γ e re) (hg : OkG C Γ tg rg) (hn : isNm tg = false) (hs : notStar tg = true) (h : kUnp re rg e = some r) : OkS C Γ (.Assign [tg] e pos) r := fun X g _ => by
  unfold kUnp at h
  split at h
  case isFalse => cases h
  rename_i ho
  simp only [Bool.and_eq_true] at ho
  split at h
  case h_2 => cases h
  rename_i is his
  cases h
  obtain ⟨g1, g0, g2, g3⟩ := hg
  refine (ss_tgt (he.2 X g) ho.1 (g2 X g) (g3 X.K) g1 (sole_tg hn) (stores_no (by rw [not_tt ho.2, Bool.and_false])) (each_one hs)).cg fun fr => ?_
  simp only [evS]
  cases ev C re.1 fr with
  | none => rfl
  | some q =>
    simp only [Option.bind_some]
    rw [his]
    obtain ⟨q1, q2⟩ := q
    cases q1 <;> first | rfl | skip
    simp only [bindTg]
    split <;> rfl
/-! o[k] = e; o[k] op= e; x op= e -/
def kOwn (Γ : Gm) (x : Str) : Option Nat := (fdIx x Γ.N).bind fun i => if (visK (Γ.sc.names.lookup x) && !(x == ("__debug__" : Str)) && !(x == ("__classdict__" : Str)) && decide (clG Γ i = .M)) = true then some i else none
theorem kOwn_ok {i : Nat} (h : kOwn Γ x = some i) : clG Γ i = .M ∧ ∀ X, Good Γ C X → PE X (.Name x p) (tVar i) := by
  obtain ⟨j, h1, h2⟩ := Option.bind_eq_some_iff.mp h
  split at h2 <;> cases h2
  rename_i ho
  rw [Bool.and_eq_true, decide_eq_true_eq] at ho
  exact ⟨ho.2, fun X g => pe_nm g h1 ho.1⟩
def kSet (i : Nat) (kx : Expr) (rk re : RE) : Option RS := if (re.2.2.ok false && !isSlc kx && !rk.2.1.contains i) = true then some (.setix i rk.1 re.1, i :: (re.2.1 ++ rk.2.1), []) else none
theorem ok_set {i : Nat} {px : Pos} (hi : kOwn Γ x = some i) (hk : OkE C Γ kx rk) (he : OkE C Γ e re) (h : kSet i kx rk re = some r) : OkS C Γ (.Assign [.Subscript (.Name x px) kx p] e pos) r := fun X g _ => by
  obtain ⟨hc, hp⟩ := kOwn_ok (C := C) (p := px) hi
  unfold kSet at h
  split at h <;> cases h
  rename_i ho
  simp only [Bool.and_eq_true] at ho
  exact (ss_setix (npos := px) (hp X g) hc (hk.2 X g) (he.2 X g) ho.1.1 (by simpa using ho.2) g.hu (sub_asg (not_tt ho.1.2)) (sole_tg rfl) (stores_no rfl) rfl).cg fun fr => by simp only [evS]
def augOf : Operator → Option Bo
  | .Add => some .add | .Sub => some .sub | _ => none
theorem augOf_ok {op : Operator} {bo : Bo} (h : augOf op = some bo) : PIp X op (rAug X.K bo) := by
  cases op <;> first | (cases h; done) | skip
  · cases h; exact aug_add
  · cases h; exact aug_sub
def kAugS (i : Nat) (bo : Bo) (kx : Expr) (rk re : RE) : Option RS := if (!rk.2.1.contains i && !re.2.1.contains i && rk.2.2.off re.2.1 && rk.2.2.ok false && !isSlc kx) = true then some (.augix i rk.1 bo re.1, i :: (rk.2.1 ++ re.2.1), []) else none
theorem ok_augS {i : Nat} {px : Pos} {op : Operator} {bo : Bo} (hi : kOwn Γ x = some i) (hb : augOf op = some bo) (hk : OkE C Γ kx rk) (he : OkE C Γ e re) (h : kAugS i bo kx rk re = some r) : OkS C Γ (.AugAssign (.Subscript (.Name x px) kx p) op e pos) r := fun X g _ => by
  obtain ⟨hc, hp⟩ := kOwn_ok (C := C) (p := px) hi
  unfold kAugS at h
  split at h <;> cases h
  rename_i ho
  simp only [Bool.and_eq_true] at ho
  obtain ⟨⟨⟨⟨h1, h2⟩, h3⟩, h4⟩, h5⟩ := ho
  exact (ss_augix (hp X g) hc (hk.2 X g) (he.2 X g) (augOf_ok hb) (by simpa using h1) (by simpa using h2) h3 h4 g.hu (sub_aug (not_tt h5))).cg fun fr => by simp only [evS]
def kAug (Γ : Gm) (i : Nat) (bo : Bo) (re : RE) : Option RS := if clG Γ i = .P then some (.aug i bo re.1, i :: re.2.1, [i]) else none
theorem ok_aug {i : Nat} {px : Pos} {op : Operator} {bo : Bo} (hi : kTg0 Γ x = some i) (hb : augOf op = some bo) (he : OkE C Γ e re) (h : kAug Γ i bo re = some r) : OkS C Γ (.AugAssign (.Name x px) op e pos) r := fun X g _ => by
  unfold kAug at h
  split at h <;> cases h
  rename_i hc
  have t := (kTg0_ok (C := C) hi).2 X g
  exact (ss_aug g.nd t.ix t.loc t.fn hc (he.2 X g) (augOf_ok hb)).cg fun fr => by simp only [evS]
/-! expressions as statements -/
theorem ok_doc {j : Nat} : OkS C Γ (.Expr (.Constant (.str x) j p) pos) (.pass, [], []) := fun X g _ => ss_doc.cg fun fr => by simp only [evS]
def kApp (i : Nat) (e : Expr) (apos cpos : Pos) (re : RE) : Option RS := if (re.2.2.ok false && !re.2.1.contains i && (apos.endLine == cpos.line) && notStar e) = true then some (.app i re.1, i :: re.2.1, []) else none
theorem ok_app {i : Nat} {px : Pos} (hi : kOwn Γ x = some i) (he : OkE C Γ e re) (h : kApp i e apos cpos re = some r) : OkS C Γ (.Expr (.Call (.Attribute (.Name x px) "append" apos) [e] [] cpos) pos) r := fun X g _ => by
  obtain ⟨hc, hp⟩ := kOwn_ok (C := C) (p := px) hi
  unfold kApp at h
  split at h <;> cases h
  rename_i ho
  simp only [Bool.and_eq_true] at ho
  obtain ⟨⟨⟨h1, h2⟩, h3⟩, h4⟩ := ho
  refine (ss_ex (se_app (hp X g) hc (he.2 X g) h1 (by simpa using h2) (base_ok rfl) (few_ok (by simpa using h4) (by simp)) h3 (star_ok h4) (plain_ok rfl)) (swaps_no rfl)).cg fun fr => ?_
  simp only [evS, mutM]
  cases getS fr i with
  | none => rfl
  | some o =>
    simp only [Option.bind_some]
    cases ev C re.1 fr with
    | none => rfl
    | some q =>
      simp only [Option.bind_some, Option.map_map]
      rfl
theorem ok_ex (he : OkE C Γ e re) (hc : isCompr e = false) : OkS C Γ (.Expr e pos) (.ex re.1, re.2.1, []) := fun X g _ => (ss_ex (he.2 X g) (swaps_no hc)).cg fun fr => by simp only [evS]
/-! the rest -/
def rfMd (b : Bool) : Md := if b then .fresh else .val
def kRet (Γ : Gm) (re : RE) : Option RS := if re.2.2.le (rfMd Γ.rf) = true then some (.ret re.1, re.2.1, []) else none
theorem ok_ret (he : OkE C Γ e re) (h : kRet Γ re = some r) : OkS C Γ (.Return (some e) pos) r := fun X g _ => by
  unfold kRet at h
  split at h <;> cases h
  rename_i ho
  exact (ss_ret (he.2 X g) ho).cg fun fr => by simp only [evS]
theorem ok_retN : OkS C Γ (.Return none pos) (.ret .non, [], []) := fun X g _ => ss_retN.cg fun fr => by simp only [evS, ev]; rfl
def kRetM (Γ : Gm) (x : Str) : Option RS := if Γ.rf = true then (kOwn Γ x).bind fun i => if Γ.na ≤ i then some (.retM i, [i], []) else none else none
theorem ok_retM {px : Pos} (h : kRetM Γ x = some r) : OkS C Γ (.Return (some (.Name x px)) pos) r := fun X g _ => by
  unfold kRetM at h
  split at h
  case isFalse => cases h
  rename_i hrf
  obtain ⟨i, hi, h⟩ := Option.bind_eq_some_iff.mp h
  split at h <;> cases h
  rename_i hna
  obtain ⟨hc, hp⟩ := kOwn_ok (C := C) (p := px) hi
  rw [hrf]
  exact (ss_retM (hp X g) hc hna).cg fun fr => by simp only [evS]
theorem ok_if (hc : OkT C Γ c rt) (ha : OkSs C Γ sts rs) (hb : OkSs C Γ sts' rs') : OkS C Γ (.If c sts sts' pos) (.ifs rt.1 rs.1 rs'.1, rt.2 ++ (rs.2.1 ++ rs'.2.1), rs.2.2 ++ rs'.2.2) := fun X g hp =>
  (ss_if (hc.2 X g) (ha X g hp) (hb X g hp)).cg fun fr => by simp only [evS]
theorem ok_while (hc : OkT C Γ c rt) (ha : OkSs C Γ sts rs) : OkS C Γ (.While c sts [] pos) (.whl rt.1 rs.1, rt.2 ++ rs.2.1, rs.2.2) := fun X g hp =>
  (ss_while hp (hc.2 X g) (ha X g hp)).cg fun fr => by simp only [evS, whileM]; try rfl
def kFor (iter : Expr) (ri : RE) (rg : Tg × List Nat) (rs : RSs) : Option RS := if (ri.2.2.off (rg.2 ++ rs.2.1) && !isSt iter) = true then some (.for_ rg.1 ri.1 rs.1, ri.2.1 ++ (rg.2 ++ rs.2.1), rg.2 ++ rs.2.2) else none
theorem ok_for {tg iter : Expr} {rg : Tg × List Nat} (hi : OkI C Γ tg iter ri) (hg : OkG C Γ tg rg) (hb : OkSs C Γ sts rs) (h : kFor iter ri rg rs = some r) : OkS C Γ (.For tg iter sts [] pos) r := fun X g hp => by
  unfold kFor at h
  split at h <;> cases h
  rename_i ho
  simp only [Bool.and_eq_true] at ho
  obtain ⟨g1, g0, g2, g3⟩ := hg
  refine (ss_for hp g.calm (hi.2 X g) (g2 X g) (g3 X.K) g1 (hb X g hp) ho.1 (folded_ok (not_tt ho.2))).cg fun fr => ?_
  simp only [evS, forM]
  cases ev C ri.1 fr with
  | none => rfl
  | some q =>
    simp only [Option.bind_some]
    cases iterV q.1 <;> rfl
theorem ok_s0 : OkSs C Γ [] ([], [], []) := fun X g _ => ss_nil.cg fun fr => by simp only [evSs]
theorem ok_s1 (h1 : OkS C Γ st r) (h2 : OkSs C Γ sts rs) : OkSs C Γ (st :: sts) (r.1 :: rs.1, r.2.1 ++ rs.2.1, r.2.2 ++ rs.2.2) := fun X g hp =>
  (ss_cons (h1 X g hp) (h2 X g hp)).cg fun fr => by
    simp only [evSs, seqM]
    try rfl
end
mutual
def cS : Nat → Gm → Stmt → Option RS
  | 0, _, _ => none
  | k + 1, Γ, st => match st with
    | .Assign [.Name x _] (.ListComp elt gs sc vp) _ => (kTg0 Γ x).bind fun i => (cC 60 Γ (.ListComp elt gs sc vp)).bind fun rt => kAsg Γ i (rt.1, rt.2, .fresh)
    | .Assign [.Name x _] e _ => if isCompr e = false then (kTg0 Γ x).bind fun i => (cE 60 Γ e).bind fun re => kAsg Γ i re else none
    | .Assign [.Tuple tgs _ _] (.Tuple es _ _) _ => (kTgN Γ tgs).bind fun is => (cF Γ (bsOf Γ is) es).bind fun q => kPar Γ tgs es is q
    | .Assign [.Tuple tgs kt tp] e _ => (cE 60 Γ e).bind fun re => (cG Γ (.Tuple tgs kt tp)).bind fun rg => kUnp re rg e
    | .Assign [.Subscript (.Name x _) kx _] e _ => (kOwn Γ x).bind fun i => (cE 60 Γ kx).bind fun rk => (cE 60 Γ e).bind fun re => kSet i kx rk re
    | .AugAssign (.Subscript (.Name x _) kx _) op e _ => (kOwn Γ x).bind fun i => (augOf op).bind fun bo => (cE 60 Γ kx).bind fun rk => (cE 60 Γ e).bind fun re => kAugS i bo kx rk re
    | .AugAssign (.Name x _) op e _ => (kTg0 Γ x).bind fun i => (augOf op).bind fun bo => (cE 60 Γ e).bind fun re => kAug Γ i bo re
    | .Expr (.Constant (.str _) _ _) _ => some (.pass, [], [])
    | .Expr (.Call (.Attribute (.Name x px) m apos) [e] [] cpos) _ => if m = ("append" : Str) then (kOwn Γ x).bind fun i => (cE 60 Γ e).bind fun re => kApp i e apos cpos re
        else (cE 60 Γ (.Call (.Attribute (.Name x px) m apos) [e] [] cpos)).map fun re => (.ex re.1, re.2.1, [])
    | .Expr e _ => if isCompr e = false then (cE 60 Γ e).map fun re => (.ex re.1, re.2.1, []) else none
    | .Return none _ => some (.ret .non, [], [])
    | .Return (some (.Name x px)) _ => match kRetM Γ x with
      | some r => some r
      | none => (cE 60 Γ (.Name x px)).bind fun re => kRet Γ re
    | .Return (some e) _ => (cE 60 Γ e).bind fun re => kRet Γ re
    | .If c a b _ => (cT 60 Γ c).bind fun rc => (cSs k Γ a).bind fun rs => (cSs k Γ b).map fun rs' => (.ifs rc.1 rs.1 rs'.1, rc.2 ++ (rs.2.1 ++ rs'.2.1), rs.2.2 ++ rs'.2.2)
    | .While c a [] _ => (cT 60 Γ c).bind fun rc => (cSs k Γ a).map fun rs => (.whl rc.1 rs.1, rc.2 ++ rs.2.1, rs.2.2)
    | .For tg iter a [] _ => (cI 60 Γ tg iter).bind fun ri => (cG Γ tg).bind fun rg => (cSs k Γ a).bind fun rs => kFor iter ri rg rs
    | .Pass _ => some (.pass, [], [])
    | .Break _ => some (.brk, [], [])
    | .Continue _ => some (.cnt, [], [])
    | _ => none
def cSs : Nat → Gm → List Stmt → Option RSs
  | 0, _, _ => none
  | k + 1, Γ, sts => match sts with
    | [] => some ([], [], [])
    | st :: sts => (cS k Γ st).bind fun r => (cSs k Γ sts).map fun rs => (r.1 :: rs.1, r.2.1 ++ rs.2.1, r.2.2 ++ rs.2.2)
def cF : Gm → List Bool → List Expr → Option RF
  | _, [], [] => some ([], [])
  | Γ, b :: bs, a :: es => (cE 60 Γ a).bind fun ra => (cF Γ bs es).bind fun q => kF b a ra q
  | _, _, _ => none
end
section
variable {C : Calls} {k : Nat}
theorem cF_ok {Γ : Gm} : ∀ {bs : List Bool} {es : List Expr} {q : RF}, cF Γ bs es = some q → OkF C Γ bs es q
  | [], [], _, h => by unfold cF at h; cases h; exact ok_f0
  | b :: bs, a :: es, _, h => by
    unfold cF at h
    obtain ⟨ra, h1, h⟩ := Option.bind_eq_some_iff.mp h
    obtain ⟨q, h2, h⟩ := Option.bind_eq_some_iff.mp h
    exact ok_f1 ((snd_all 60).E h1) (cF_ok h2) h
  | [], _ :: _, _, h => by unfold cF at h; cases h
  | _ :: _, [], _, h => by unfold cF at h; cases h
theorem cS_ok (ih : ∀ {Γ : Gm} {sts : List Stmt} {rs : RSs}, cSs k Γ sts = some rs → OkSs C Γ sts rs) {Γ : Gm} {st : Stmt} {r : RS} (h : cS (k + 1) Γ st = some r) : OkS C Γ st r := by
  have S : Snd C 60 := snd_all 60
  unfold cS at h
  split at h
  · obtain ⟨i, h1, h⟩ := Option.bind_eq_some_iff.mp h
    obtain ⟨rt, h2, h⟩ := Option.bind_eq_some_iff.mp h
    exact ok_asgC h1 (S.Cc h2) h
  · split at h
    · rename_i hc
      obtain ⟨i, h1, h⟩ := Option.bind_eq_some_iff.mp h
      obtain ⟨re, h2, h⟩ := Option.bind_eq_some_iff.mp h
      exact ok_asg h1 (S.E h2) hc h
    · cases h
  · obtain ⟨is, h1, h⟩ := Option.bind_eq_some_iff.mp h
    obtain ⟨q, h2, h⟩ := Option.bind_eq_some_iff.mp h
    exact ok_par h1 (cF_ok h2) h
  · obtain ⟨re, h1, h⟩ := Option.bind_eq_some_iff.mp h
    obtain ⟨rg, h2, h⟩ := Option.bind_eq_some_iff.mp h
    exact ok_unp (S.E h1) (cG_ok h2) rfl rfl h
  · obtain ⟨i, h1, h⟩ := Option.bind_eq_some_iff.mp h
    obtain ⟨rk, h2, h⟩ := Option.bind_eq_some_iff.mp h
    obtain ⟨re, h3, h⟩ := Option.bind_eq_some_iff.mp h
    exact ok_set h1 (S.E h2) (S.E h3) h
  · obtain ⟨i, h1, h⟩ := Option.bind_eq_some_iff.mp h
    obtain ⟨bo, h4, h⟩ := Option.bind_eq_some_iff.mp h
    obtain ⟨rk, h2, h⟩ := Option.bind_eq_some_iff.mp h
    obtain ⟨re, h3, h⟩ := Option.bind_eq_some_iff.mp h
    exact ok_augS h1 h4 (S.E h2) (S.E h3) h
  · obtain ⟨i, h1, h⟩ := Option.bind_eq_some_iff.mp h
    obtain ⟨bo, h4, h⟩ := Option.bind_eq_some_iff.mp h
    obtain ⟨re, h3, h⟩ := Option.bind_eq_some_iff.mp h
    exact ok_aug h1 h4 (S.E h3) h
  · cases h; exact ok_doc
  · split at h
    · rename_i hm
      subst hm
      obtain ⟨i, h1, h⟩ := Option.bind_eq_some_iff.mp h
      obtain ⟨re, h3, h⟩ := Option.bind_eq_some_iff.mp h
      exact ok_app h1 (S.E h3) h
    · obtain ⟨re, h3, h⟩ := Option.map_eq_some_iff.mp h
      subst h
      exact ok_ex (S.E h3) rfl
  · split at h
    · rename_i hc
      obtain ⟨re, h3, h⟩ := Option.map_eq_some_iff.mp h
      subst h
      exact ok_ex (S.E h3) hc
    · cases h
  · cases h; exact ok_retN
  · split at h
    · rename_i hr
      cases h
      exact ok_retM hr
    · obtain ⟨re, h3, h⟩ := Option.bind_eq_some_iff.mp h
      exact ok_ret (S.E h3) h
  · obtain ⟨re, h3, h⟩ := Option.bind_eq_some_iff.mp h
    exact ok_ret (S.E h3) h
  · obtain ⟨rc, h1, h⟩ := Option.bind_eq_some_iff.mp h
    obtain ⟨rs, h2, h⟩ := Option.bind_eq_some_iff.mp h
    obtain ⟨rs', h3, h⟩ := Option.map_eq_some_iff.mp h
    subst h
    exact ok_if (S.T h1) (ih h2) (ih h3)
  · obtain ⟨rc, h1, h⟩ := Option.bind_eq_some_iff.mp h
    obtain ⟨rs, h2, h⟩ := Option.map_eq_some_iff.mp h
    subst h
    exact ok_while (S.T h1) (ih h2)
  · obtain ⟨ri, h1, h⟩ := Option.bind_eq_some_iff.mp h
    obtain ⟨rg, h2, h⟩ := Option.bind_eq_some_iff.mp h
    obtain ⟨rs, h3, h⟩ := Option.bind_eq_some_iff.mp h
    exact ok_for (S.I h1) (cG_ok h2) (ih h3) h
  · cases h; exact fun X g _ => ss_pass.cg fun fr => by simp only [evS]
  · cases h; exact fun X g _ => ss_break.cg fun fr => by simp only [evS]
  · cases h; exact fun X g _ => ss_cont.cg fun fr => by simp only [evS]
  · cases h
theorem cSs_ok : ∀ {k : Nat} {Γ : Gm} {sts : List Stmt} {rs : RSs}, cSs k Γ sts = some rs → OkSs C Γ sts rs
  | 0, _, _, _, h => by unfold cSs at h; cases h
  | 1, Γ, sts, rs, h => by
    unfold cSs at h
    split at h
    · cases h; exact ok_s0
    · obtain ⟨r, h1, h⟩ := Option.bind_eq_some_iff.mp h
      unfold cS at h1; cases h1
  | k + 2, Γ, sts, rs, h => by
    unfold cSs at h
    split at h
    · cases h; exact ok_s0
    · obtain ⟨r, h1, h⟩ := Option.bind_eq_some_iff.mp h
      obtain ⟨rs, h2, h⟩ := Option.map_eq_some_iff.mp h
      subst h
      exact ok_s1 (cS_ok (fun h => cSs_ok h) h1) (cSs_ok h2)
end
end EV

set_option linter.all false
set_option Elab.async false
set_option maxRecDepth 100000
/-! Ev27: a program's table of defs; every def keeps the promise that the evaluator tells. -/
namespace EV
open PySem L2 PySem.Spec PyProof.Rows C8

structure FnD where
  x : Str
  st : Stmt
  ps : List Str
  N : List Str
  cls : List Cls
  rf : Bool
  mvs : List (Nat × Nat)
def sigOf (d : FnD) : Fn := { na := d.ps.length, ns := d.N.length, cls := d.cls, mps := (List.range d.ps.length).filter fun i => decide ((d.cls[i]?).getD .P = .M), fresh := d.rf, body := [] }
def tabOf : List FnD → Nat → List (Str × Nat × Fn)
  | [], _ => []
  | d :: ds, i => (d.x, i, sigOf d) :: tabOf ds (i + 1)
def gmOf (cst : List (Str × Nat × PV)) (tab : List (Str × Nat × Fn)) (d : FnD) : Gm := { N := d.N, sc := fnScope d.st, cls := d.cls, na := d.ps.length, rf := d.rf, fn := fun _ => true, cst := cst, tab := tab, mvs := d.mvs }
def scOk (d : FnD) : Bool := (match (fnScope d.st).kind with | .function => true | _ => false) && !(fnScope d.st).isCoroutine && !(fnScope d.st).isGenerator && decide d.N.Nodup && decide (d.N.take d.ps.length = d.ps)
  && (d.ps.all fun x => locK ((fnScope d.st).names.lookup x)) && ((fnScope d.st).names.all fun y => decide (y.2 ≠ .free))
def cmpFn (cst : List (Str × Nat × PV)) (tab : List (Str × Nat × Fn)) (d : FnD) : Option Fn :=
  if scOk d = true then (cSs 200 (gmOf cst tab d) (fnBody d.st)).bind fun r => if ((sigOf d).mps.all fun i => !r.2.2.contains i) = true then some { sigOf d with body := r.1 } else none
  else none
theorem lookK_of {o : Option NameKind} (h : locK o = true) : o = some .local ∨ o = some .cell := by
  cases o with
  | none => cases h
  | some k => cases k <;> first | exact .inl rfl | exact .inr rfl | cases h
theorem scOk_of {d : FnD} (h : scOk d = true) : FnScope d.N d.ps (fnScope d.st) ∧ d.ps.length ≤ d.N.length := by
  unfold scOk at h
  simp only [Bool.and_eq_true, decide_eq_true_eq, List.all_eq_true] at h
  obtain ⟨⟨⟨⟨⟨⟨h1, h2⟩, h3⟩, h4⟩, h5⟩, h6⟩, h7⟩ := h
  refine ⟨⟨?_, not_tt h2, not_tt h3, h4, h5, fun x hx => lookK_of (h6 x hx), fun y hy => h7 y hy⟩, ?_⟩
  · split at h1
    · assumption
    · cases h1
  · have := congrArg List.length h5
    rw [List.length_take] at this
    omega
theorem tab_look : ∀ {ds : List FnD} {j : Nat} {x : Str} {i : Nat} {F : Fn}, (tabOf ds j).lookup x = some (i, F) → ∃ d, ds[i - j]? = some d ∧ j ≤ i ∧ d.x = x ∧ F = sigOf d
  | [], _, _, _, _, h => by simp [tabOf] at h
  | d :: ds, j, x, i, F, h => by
    unfold tabOf at h
    rw [List.lookup_cons] at h
    split at h
    · rename_i hx
      cases h
      exact ⟨d, by simp, Nat.le_refl _, (beq_iff_eq.mp hx).symm, rfl⟩
    · obtain ⟨d', h1, h2, h3, h4⟩ := tab_look h
      refine ⟨d', ?_, by omega, h3, h4⟩
      rw [show i - j = (i - (j + 1)) + 1 by omega]
      simpa using h1
/-- the compiled program -/
def cmpAll (cst : List (Str × Nat × PV)) (tab : List (Str × Nat × Fn)) : List FnD → Option (List Fn)
  | [] => some []
  | d :: ds => (cmpFn cst tab d).bind fun F => (cmpAll cst tab ds).map (F :: ·)
theorem cmpAll_get {cst : List (Str × Nat × PV)} {tab : List (Str × Nat × Fn)} : ∀ {ds : List FnD} {P : List Fn} {i : Nat} {d : FnD}, cmpAll cst tab ds = some P → ds[i]? = some d → ∃ F, P[i]? = some F ∧ cmpFn cst tab d = some F
  | [], _, _, _, _, e => by simp at e
  | d :: ds, P, i, d', h, e => by
    unfold cmpAll at h
    obtain ⟨F, h1, h⟩ := Option.bind_eq_some_iff.mp h
    obtain ⟨P', h2, h⟩ := Option.map_eq_some_iff.mp h
    subst h
    cases i with
    | zero => simp at e; subst e; exact ⟨F, rfl, h1⟩
    | succ i =>
      obtain ⟨F', q1, q2⟩ := cmpAll_get h2 (by simpa using e)
      exact ⟨F', by simpa using q1, q2⟩
section
variable {Pg : Program} {w : World} {K : PySem.W.Frag} {mg : Str → Option Value} {base : Heap} {cst : List (Str × Nat × PV)} {tbl : List FnD} {P : List Fn}
theorem wf_of {d : FnD} {A : List Nat} (hl : d.ps.length ≤ d.N.length) (h : ((sigOf d).mps.all fun i => !A.contains i) = true) : FnWf (sigOf d) A := by
  refine ⟨hl, fun i hi => ?_, fun i h1 h2 => ?_⟩
  · have hA := List.all_eq_true.mp h i hi
    have hi' := List.mem_filter.mp hi
    exact ⟨List.mem_range.mp hi'.1, of_decide_eq_true hi'.2, by simpa using hA⟩
  · exact List.mem_filter.mpr ⟨List.mem_range.mpr h1, decide_eq_true h2⟩
theorem runFn_len {C : Calls} {F : Fn} {vs : List PV} {r : PV} {outs : List (Option PV)} (h : runFn C F vs = some (r, outs)) : outs.length = F.mps.length := by
  unfold runFn at h
  split at h
  · obtain ⟨⟨fl, fr⟩, h1, h2⟩ := Option.bind_eq_some_iff.mp h
    cases fl <;> cases h2 <;> simp
  · cases h
theorem fn_step (hP : cmpAll cst (tabOf tbl 0) tbl = some P) (hm : ∀ x, bltNms.contains x = true → mg x = none)
    (hc : ∀ x k v, cst.lookup x = some (k, v) → ∃ u w, mg x = some u ∧ RelV w u ∧ ∀ H B, Rep K H B v w) {k : Nat} (ih : ∀ (i : Nat) (d : FnD), tbl[i]? = some d → Cal Pg w K mg base k d.x (spF K (sigOf d) (evCall P k i)) []) {i : Nat} {d : FnD} (e : tbl[i]? = some d) {f : Addr} {fd : FuncData} (D : C8.Fun K d.x d.x d.st f fd) :
    FnOk Pg w K mg base C8.CX0 (k + 1) f fd d.ps (spF K (sigOf d) (evCall P (k + 1) i)) := by
    obtain ⟨F, h1, h2⟩ := cmpAll_get hP e
    unfold cmpFn at h2
    split at h2
    case isFalse => cases h2
    rename_i hs
    obtain ⟨r, h3, h4⟩ := Option.bind_eq_some_iff.mp h2
    split at h4 <;> cases h4
    rename_i hA
    obtain ⟨S, hl⟩ := scOk_of hs
    have hb := cSs_ok (C := evCall P k) h3
    have q := fn_of (P := Pg) (w := w) (mg := mg) (base := base) (k := k) D S rfl rfl (wf_of hl hA) (m := evSs (evCall P k) r.1) (T := r.2.1) fun cdv A' outer s H E hr => ?_
    · have e2 : evCall P (k + 1) i = fun args => if args.length = (sigOf d).na then (evSs (evCall P k) r.1 (args.map some ++ List.replicate ((sigOf d).ns - (sigOf d).na) none)).bind fun p => match p.1 with
          | .rt v => some (v, (sigOf d).mps.map fun i => getS p.2 i)
          | .nx => some (.non, (sigOf d).mps.map fun i => getS p.2 i)
          | _ => none else none := by
        funext args
        show (match P[i]? with | some F => runFn (evCall P k) F args | none => none) = _
        rw [h1]
        rfl
      rw [e2]
      exact q
    · refine hb _ ⟨rfl, rfl, S.nd, rfl, ?_, hm, rfl, hc, fun x i' F' ht => ?_, fun x i' F' ht vs r' outs hr' => ?_⟩ PassesOwn.never
      · have := hr.un
        show (A'.deeper _).units + 65 < cLine
        omega
      · obtain ⟨d', q1, q2, q3, q4⟩ := tab_look ht
        rw [← q3, q4]
        exact ⟨k, k, ih i' d' (by simpa using q1), hr, Nat.le_refl _⟩
      · obtain ⟨d', q1, q2, q3, q4⟩ := tab_look ht
        obtain ⟨F2, z1, z2⟩ := cmpAll_get hP (i := i') (by simpa using q1)
        cases k with
        | zero => cases hr'
        | succ k =>
          have hr' : (match P[i']? with | some F => runFn (evCall P k) F vs | none => none) = some (r', outs) := hr'
          rw [z1] at hr'
          have := runFn_len hr'
          rw [this, q4]
          unfold cmpFn at z2
          split at z2
          case isFalse => cases z2
          obtain ⟨r2, z3, z4⟩ := Option.bind_eq_some_iff.mp z2
          split at z4 <;> cases z4
          rfl
theorem cal_all (hP : cmpAll cst (tabOf tbl 0) tbl = some P) (hD : ∀ d ∈ tbl, ∃ f fd, Def K mg d.x d.st f fd ∧ Binds K fd d.ps []) (hm : ∀ x, bltNms.contains x = true → mg x = none)
    (hc : ∀ x k v, cst.lookup x = some (k, v) → ∃ u w, mg x = some u ∧ RelV w u ∧ ∀ H B, Rep K H B v w) :
    ∀ (k i : Nat) (d : FnD), tbl[i]? = some d → Cal Pg w K mg base k d.x (spF K (sigOf d) (evCall P k i)) []
  | 0, i, d, e => by
    obtain ⟨f, fd, D, b⟩ := hD d (List.mem_of_getElem? e)
    exact cal_zero D b 0
  | k + 1, i, d, e => by
    obtain ⟨f, fd, D, b⟩ := hD d (List.mem_of_getElem? e)
    exact ⟨f, fd, d.ps, [], fn_step hP hm hc (cal_all hP hD hm hc k) e D.fn, D.mgf, D.kp, b, .nil⟩
/-! ### the defs in the written part -/
structure FnIs (K : PySem.W.Frag) (x : Str) (st : Stmt) : Prop where
  ex : ∃ (f : Addr) (oc : Value) (od : Option Addr) (kV doc pm : Value) (an : Option Addr) (cdv ct : Value) (osl : Array (Option Value)), PySem.W.nsIn K mainGlobals x = some (some (.ref f)) ∧
    K.lookup f = some ⟨oc, od, .func (PySem.W.fnOf x x (fnArgs st) (fnBody st) (fnScope st) .none kV doc pm an cdv ct), osl⟩ ∧ PySem.W.codeIn K cdv x = true ∧ PySem.W.keepIn K (.ref f) = true
def BndOk (d : FnD) : Prop := ∀ (kV doc pm : Value) (an : Option Addr) (cdv ct : Value) (us : List Value), us.length = d.ps.length → bindArgs (PySem.W.fnOf d.x d.x (fnArgs d.st) (fnBody d.st) (fnScope d.st) .none kV doc pm an cdv ct) ⟨us, []⟩ = pure (d.ps.zip us)
theorem def_of {h : Heap} {d : FnD} (X : K.In h) (G : h.Ns mainGlobals mg) (q : FnIs K d.x d.st) (b : BndOk d) : ∃ f fd, Def K mg d.x d.st f fd ∧ Binds K fd d.ps [] ∧ ∀ us : List Value, us.length = d.ps.length → bindArgs fd ⟨us, []⟩ = pure (d.ps.zip us) := by
  obtain ⟨f, oc, od, kV, doc, pm, an, cdv, ct, osl, h1, h2, h3, h4⟩ := q.ex
  have F : C8.Fun K d.x d.x d.st f _ := ⟨oc, od, .none, kV, doc, pm, an, cdv, ct, osl, rfl, h2, h3⟩
  exact ⟨f, _, ⟨F, PySem.W.mg_of X G h1, h4⟩, F.binds rfl b, b kV doc pm an cdv ct⟩
theorem sqF_of {H : Hp} {a : Addr} {xs : List V} (o : Only H) (h : SqL K H a xs) : SqF K H a xs := by
  rcases h with (h | ⟨ob, h⟩) | h
  · rcases o a with z | ⟨ob, ys, z⟩ <;> (rw [h] at z; cases z)
  · exact .inl ⟨ob, h⟩
  · exact .inr h
/-- the law, from what the evaluator tells -/
theorem spF_law {F : Fn} {R : List PV → Option (PV × List (Option PV))} {H : Hp} {a : Addr} {ns : List Int} (hna : F.na = 1) (hns : 1 ≤ F.ns) (hcl : clF F 0 ≠ .M) (o : Only H) (h : SqL K H a (ns.map V.int)) (hl : ns.length ≤ sizeLine) (hR : R [.scr ns] = some (.bl true, [])) :
    spF K F R [.ref a] H (fun v _ => v = .bl true) fun _ _ _ => False := by
  have rp : ∀ B, Rep K H B (.scr ns) (.ref a) := fun B => .scr (sqF_of o h) hl
  have only0 : ∀ (i : Nat) x, ([PV.scr ns].map some ++ List.replicate (F.ns - F.na) none)[i]? = some (some x) → i = 0 ∧ x = .scr ns := fun i x e => by
    have e := start_get.mp e
    cases i with
    | zero => exact ⟨rfl, by simpa using e.symm⟩
    | succ i => simp at e
  have noO : ∀ i b, ¬ ownAt (clF F) ([V.ref a].map some ++ List.replicate (F.ns - F.na) none) ([PV.scr ns].map some ++ List.replicate (F.ns - F.na) none) i b := fun i b ⟨h1, ⟨x, h2⟩, _⟩ => by
    obtain ⟨rfl, _⟩ := only0 i x h2
    exact hcl h1
  refine ⟨fun _ => False, [.scr ns], .bl true, [], by rw [hna]; rfl, by rw [hna]; rfl, ⟨by simp; omega, by simp; omega, fun i x hi => ?_, fun i j b h1 => (noO i b h1).elim, fun i b h1 => (noO i b h1).elim, fun i j b _ h1 => (noO j b h1).elim, fun _ z => z.elim⟩, hR, fun v H' ce => ?_⟩
  · obtain ⟨rfl, rfl⟩ := only0 i x hi
    refine ⟨.ref a, by simp, ?_⟩
    cases hc : clF F 0 with
    | P => exact rp _
    | L => exact rp _
    | M => exact (hcl hc).elim
  · rcases ce.res with ⟨_, _, r⟩ | ⟨p, _, _, _, t⟩
    · cases r; rfl
    · exact t.elim
end
end EV

set_option linter.all false
set_option Elab.async false
set_option maxRecDepth 100000
/-! Ev28: arguments bound; the law's end. -/
namespace EV
open PySem L2 PySem.Spec PyProof.Rows C8
theorem look_zip : ∀ {ps : List Str} {us : List Value}, us.length = ps.length → ∀ n ∈ ps, ((ps.zip us).lookup n).isNone = false
  | [], _, _, n, h => absurd h (by simp)
  | p :: ps, [], hl, n, h => by simp at hl
  | p :: ps, u :: us, hl, n, h => by
    rw [List.zip_cons_cons, List.lookup_cons]
    split
    · rfl
    · rename_i hn
      rcases List.mem_cons.mp h with h | h
      · subst h; simp at hn
      · exact look_zip (by simpa using hl) n h
theorem fm_congr {α β : Type} {f g : α → Option β} : ∀ {l : List α}, (∀ a ∈ l, f a = g a) → l.filterMap f = l.filterMap g
  | [], _ => rfl
  | a :: l, h => by
    rw [List.filterMap_cons, List.filterMap_cons, h a List.mem_cons_self, fm_congr (l := l) fun b hb => h b (List.mem_cons_of_mem _ hb)]
theorem look_fm : ∀ {ps : List Str} {us : List Value}, us.length = ps.length → ps.Nodup → ps.filterMap (fun n => Option.map (fun x => (n, x)) (List.lookup n (ps.zip us))) = ps.zip us
  | [], us, _, _ => by cases us <;> rfl
  | p :: ps, [], hl, _ => by simp at hl
  | p :: ps, u :: us, hl, hn => by
    have hn := List.nodup_cons.mp hn
    rw [List.zip_cons_cons, List.filterMap_cons]
    have e1 : List.lookup p ((p, u) :: ps.zip us) = some u := by simp [List.lookup_cons]
    rw [e1]
    simp only [Option.map_some]
    congr 1
    refine Eq.trans ?_ (look_fm (ps := ps) (us := us) (by simpa using hl) hn.2)
    apply fm_congr
    intro n hm
    have : (n == p) = false := by
      simp only [beq_eq_false_iff_ne, ne_eq]
      intro e; subst e; exact hn.1 hm
    rw [List.lookup_cons, this]
theorem bind_gen {fd : FuncData} {ps : List Str} {us : List Value} (h1 : fd.params.posonlyargs = []) (h2 : fd.params.args.map (·.arg) = ps) (h3 : fd.params.vararg = none) (h4 : fd.params.kwonlyargs = []) (h5 : fd.params.kwarg = none) (h6 : fd.defaults = .none) (hl : us.length = ps.length) (hn : ps.Nodup) :
    bindArgs fd ⟨us, []⟩ = pure (ps.zip us) := by
  have hf : (ps.take ps.length).filter (fun n => ((ps.zip us).lookup n).isNone) = [] := by
    rw [List.filter_eq_nil_iff]
    intro n hn
    rw [look_zip hl n (List.mem_of_mem_take hn)]
    simp
  have hs : seqItems? .none = pure none := rfl
  unfold bindArgs
  simp [h1, h2, h3, h4, h5, h6, hs, hl, hf]
  rw [if_neg, look_fm hl hn]
  simp only [h1, h2, List.map_nil, List.nil_append, List.drop_nil, List.length_nil, Nat.sub_zero]
  rw [hf]
  simp
def bndC (d : FnD) : Bool := decide ((fnArgs d.st).posonlyargs.length = 0) && decide ((fnArgs d.st).args.map (·.arg) = d.ps) && (fnArgs d.st).vararg.isNone && decide ((fnArgs d.st).kwonlyargs.length = 0) && (fnArgs d.st).kwarg.isNone && decide d.ps.Nodup
theorem bnd_of {d : FnD} (h : bndC d = true) : BndOk d := fun kV doc pm an cdv ct us hl => by
  unfold bndC at h
  simp only [Bool.and_eq_true, decide_eq_true_eq] at h
  obtain ⟨⟨⟨⟨⟨h1, h2⟩, h3⟩, h4⟩, h5⟩, h6⟩ := h
  exact bind_gen (List.eq_nil_of_length_eq_zero h1) h2 (Option.isNone_iff_eq_none.mp h3) (List.eq_nil_of_length_eq_zero h4) (Option.isNone_iff_eq_none.mp h5) rfl hl h6
def isNN : Option (Option Value) → Bool
  | some none => true | _ => false
theorem isNN_eq {o : Option (Option Value)} (h : isNN o = true) : o = some none := by
  cases o with
  | none => cases h
  | some o => cases o with
    | none => rfl
    | some v => cases h
/-- the defs and the built-ins' names in the written part -/
def FactsOk (K : PySem.W.Frag) (tbl : List FnD) : Prop := (∀ d ∈ tbl, FnIs K d.x d.st) ∧ ∀ x, bltNms.contains x = true → PySem.W.nsIn K mainGlobals x = some none
def NonesIs (K : PySem.W.Frag) : List Str → Prop
  | [] => True
  | x :: xs => PySem.W.nsIn K mainGlobals x = some none ∧ NonesIs K xs
theorem nones_all {K : PySem.W.Frag} : ∀ {xs : List Str}, NonesIs K xs → ∀ x ∈ xs, PySem.W.nsIn K mainGlobals x = some none
  | y :: ys, h, x, hx => by
    rcases List.mem_cons.mp hx with e | hx
    · rw [e]; exact h.1
    · exact nones_all h.2 x hx
theorem blt_of {K : PySem.W.Frag} (h : NonesIs K bltNms) : ∀ x, bltNms.contains x = true → PySem.W.nsIn K mainGlobals x = some none := fun x hx =>
  nones_all h x (by simpa using hx)
def CstOk (K : PySem.W.Frag) (mg : Str → Option Value) (cst : List (Str × Nat × PV)) : Prop := ∀ x k v, cst.lookup x = some (k, v) → ∃ u w, mg x = some u ∧ RelV w u ∧ ∀ H B, Rep K H B v w
/-- the law holds -/
theorem law_walk {l : PySem.W.OpenLaw} {cst : List (Str × Nat × PV)} {tbl : List FnD} {P : List Fn} {k i : Nat} {dl : FnD} {q : Program} {loose : List Str} {XP : (Str → Option Value) → Heap → Prop} {YP : World → Heap → Prop} {d : DefRec} {K : Params → PySem.W.Frag}
    (hn : l.most = some 63) (hr : Room k callerA) (hdn : d.name = ("law" : Str)) (hdf : d.params.defaults = []) (hY : ∀ (w : World) (h : Heap), YP w h → (K w.params).In h)
    (hP : cmpAll cst (tabOf tbl 0) tbl = some P) (hB : (tbl.all bndC) = true) (hi : tbl[i]? = some dl) (hx : dl.x = ("law" : Str)) (hps : dl.ps = [("script" : Str)]) (hN : 1 ≤ dl.N.length) (hc : dl.cls.head? ≠ some .M)
    (hF : ∀ w : World, FactsOk (K w.params) tbl) (hC : ∀ (w : World) (mg : Str → Option Value) (h : Heap), (K w.params).In h → h.Ns mainGlobals mg → CstOk (K w.params) mg cst)
    (plain : ∀ ns : List Int, ns.length ≤ 63 → evCall P k i [.scr ns] = some (.bl true, [])) :
    PySem.W.WalkO q loose XP YP l.row.toRowW d [] (fun f vs => PySem.call f vs) := by
  have hcl : clF (sigOf dl) 0 ≠ .M := by
    intro e
    unfold clF sigOf at e
    dsimp only at e
    cases hh : dl.cls with
    | nil => rw [hh] at e; cases e
    | cons c r =>
      rw [hh] at e hc
      simp at e
      subst e
      exact hc rfl
  refine L2.walk_of (n := 63) (k := k) (x := "script") (CX := fun _ => C8.CX0) (sp := fun w => spF (K w.params) (sigOf dl) (evCall P k i)) hn (by decide) hdf hr hY (fun w mg fa h KX G hmg => ?_)
    (fun w H a ns hl o hS => spF_law (by show dl.ps.length = 1; rw [hps]; rfl) hN hcl o hS (Nat.le_trans hl (by decide)) (plain ns hl)) fun _ _ _ _ _ z => z
  obtain ⟨hI, hB'⟩ := hF w
  have hb : ∀ x, bltNms.contains x = true → mg x = none := fun x hx => PySem.W.mg_none_of KX G (hB' x hx)
  have hD0 : ∀ d ∈ tbl, ∃ f fd, C8.Def (K w.params) mg d.x d.st f fd ∧ Binds (K w.params) fd d.ps [] ∧ ∀ us : List Value, us.length = d.ps.length → bindArgs fd ⟨us, []⟩ = pure (d.ps.zip us) := fun d hd => def_of KX G (hI d hd) (bnd_of (List.all_eq_true.mp hB d hd))
  have hD : ∀ d ∈ tbl, ∃ f fd, C8.Def (K w.params) mg d.x d.st f fd ∧ Binds (K w.params) fd d.ps [] := fun d hd => let ⟨f, fd, a, b, _⟩ := hD0 d hd; ⟨f, fd, a, b⟩
  obtain ⟨f, fd, D, b, bb⟩ := hD0 dl (List.mem_of_getElem? hi)
  have ef : mg ("law" : Str) = some (.ref f) := hx ▸ D.mgf
  rw [hdn, ef] at hmg
  cases hmg
  refine ⟨fd, fun s u => ?_, fun base KB GB => ?_⟩
  · have := bb [u] (by rw [hps]; rfl)
    rw [hps] at this
    exact .of_eq this
  · have hC' := hC w mg h KX G
    cases k with
    | zero =>
      have := plain [] (by simp)
      cases this
    | succ k =>
      have := fn_step (Pg := l.prog) (w := w) (base := base) hP hb hC' (cal_all hP hD hb hC' k) hi D.fn
      rw [hps] at this
      exact this
theorem fnIs_mk {K : PySem.W.Frag} {x : Str} {st : Stmt} {f : Addr} {oc : Value} {od : Option Addr} {kV doc pm : Value} {an : Option Addr} {cdv ct : Value} {osl : Array (Option Value)} (a : PySem.W.nsIn K mainGlobals x = some (some (.ref f)))
    (l : K.lookup f = some ⟨oc, od, .func (PySem.W.fnOf x x (fnArgs st) (fnBody st) (fnScope st) .none kV doc pm an cdv ct), osl⟩) (c : PySem.W.codeIn K cdv x = true) (k : PySem.W.keepIn K (.ref f) = true) : FnIs K x st := ⟨f, oc, od, kV, doc, pm, an, cdv, ct, osl, a, l, c, k⟩
def FnsIs (K : PySem.W.Frag) : List FnD → Prop
  | [] => True
  | d :: ds => FnIs K d.x d.st ∧ FnsIs K ds
theorem fnsIs_all {K : PySem.W.Frag} : ∀ {ds : List FnD}, FnsIs K ds → ∀ d ∈ ds, FnIs K d.x d.st
  | d :: ds, h, d', hd => by
    rcases List.mem_cons.mp hd with e | hd
    · rw [e]; exact h.1
    · exact fnsIs_all h.2 d' hd
end EV

set_option linter.all false
set_option Elab.async false
set_option maxRecDepth 100000
/-! Ev29: are two compiled programs the same. -/
namespace EV
mutual
def eqV : PV → PV → Bool
  | .non, .non => true
  | .bl a, .bl b => a == b
  | .int a, .int b => decide (a = b)
  | .str a, .str b => decide (a = b)
  | .tup a, .tup b => eqVs a b
  | .lst a, .lst b => eqVs a b
  | _, _ => false
def eqVs : List PV → List PV → Bool
  | [], [] => true
  | x :: a, y :: b => eqV x y && eqVs a b
  | _, _ => false
end
mutual
theorem eqV_ok : ∀ a b : PV, eqV a b = true → a = b
  | .non, b, h => by cases b <;> first | rfl | (simp [eqV] at h)
  | .bl x, b, h => by cases b <;> first | (simp [eqV] at h; done) | (simp only [eqV, beq_iff_eq] at h; rw [h])
  | .int x, b, h => by cases b <;> first | (simp [eqV] at h; done) | (simp only [eqV, decide_eq_true_eq] at h; rw [h])
  | .str x, b, h => by cases b <;> first | (simp [eqV] at h; done) | (simp only [eqV, decide_eq_true_eq] at h; rw [h])
  | .tup x, b, h => by cases b <;> first | (simp [eqV] at h; done) | (simp only [eqV] at h; rw [eqVs_ok _ _ h])
  | .lst x, b, h => by cases b <;> first | (simp [eqV] at h; done) | (simp only [eqV] at h; rw [eqVs_ok _ _ h])
  | .dct _, b, h => by cases b <;> simp [eqV] at h
  | .ins _ _, b, h => by cases b <;> simp [eqV] at h
  | .fn _, b, h => by cases b <;> simp [eqV] at h
  | .bm _ _, b, h => by cases b <;> simp [eqV] at h
  | .scr _, b, h => by cases b <;> simp [eqV] at h
theorem eqVs_ok : ∀ a b : List PV, eqVs a b = true → a = b
  | [], b, h => by cases b <;> first | rfl | (simp [eqVs] at h)
  | x :: a, b, h => by
    cases b with
    | nil => simp [eqVs] at h
    | cons y b =>
      simp only [eqVs, Bool.and_eq_true] at h
      rw [eqV_ok _ _ h.1, eqVs_ok _ _ h.2]
end
mutual
def eqE : Ex → Ex → Bool
  | .sl i, .sl j => decide (i = j)
  | .mv i, .mv j => decide (i = j)
  | .non, .non => true
  | .bl a, .bl b => a == b
  | .int a, .int b => decide (a = b)
  | .str a, .str b => decide (a = b)
  | .cst k v, .cst l w => decide (k = l) && eqV v w
  | .tup a, .tup b => eqEs a b
  | .lst a, .lst b => eqEs a b
  | .dct a, .dct b => eqEs a b
  | .bin o a b, .bin p c e => decide (o = p) && (eqE a c && eqE b e)
  | .neg a, .neg b => eqE a b
  | .cmp o a b, .cmp p c e => decide (o = p) && (eqE a c && eqE b e)
  | .chn o o' a b c, .chn p p' a' b' c' => decide (o = p) && (decide (o' = p') && (eqE a a' && (eqE b b' && eqE c c')))
  | .and a b, .and c e => eqE a c && eqE b e
  | .or a b, .or c e => eqE a c && eqE b e
  | .not a, .not b => eqE a b
  | .ife a b c, .ife a' b' c' => eqE a a' && (eqE b b' && eqE c c')
  | .sub a b, .sub c e => eqE a c && eqE b e
  | .cut a b c, .cut a' b' c' => eqE a a' && (eqO b b' && eqO c c')
  | .rev a, .rev b => eqE a b
  | .bi b es, .bi c fs => decide (b = c) && eqEs es fs
  | .isi t a, .isi u b => decide (t = u) && eqE a b
  | .call f ms es, .call g ns fs => decide (f = g) && (decide (ms = ns) && eqEs es fs)
  | .comp s t c e o, .comp s' t' c' e' o' => eqE s s' && (decide (t = t') && (eqO c c' && (eqE e e' && decide (o = o'))))
  | .comp2 s t c s2 t2 c2 e o o2, .comp2 s' t' c' s2' t2' c2' e' o' o2' => eqE s s' && (decide (t = t') && (eqO c c' && (eqE s2 s2' && (decide (t2 = t2') && (eqO c2 c2' && (eqE e e' && (decide (o = o') && decide (o2 = o2'))))))))
  | .rg1 a, .rg1 b => eqE a b
  | .rg2 a b, .rg2 c e => eqE a c && eqE b e
  | .rg3 a b c, .rg3 a' b' c' => eqE a a' && (eqE b b' && eqE c c')
  | .zip a b, .zip c e => eqE a c && eqE b e
  | .items a, .items b => eqE a b
  | .keys a, .keys b => eqE a b
  | .meth m a es, .meth n b fs => decide (m = n) && (eqE a b && eqEs es fs)
  | .pop i, .pop j => decide (i = j)
  | .popAt i a, .popAt j b => decide (i = j) && eqE a b
  | _, _ => false
def eqEs : List Ex → List Ex → Bool
  | [], [] => true
  | x :: a, y :: b => eqE x y && eqEs a b
  | _, _ => false
def eqO : Option Ex → Option Ex → Bool
  | none, none => true
  | some a, some b => eqE a b
  | _, _ => false
end
mutual
theorem eqE_ok : ∀ a b : Ex, eqE a b = true → a = b
  | .sl x, b, h => by cases b <;> first | (simp [eqE] at h; done) | (simp only [eqE, decide_eq_true_eq] at h; rw [h])
  | .mv x, b, h => by cases b <;> first | (simp [eqE] at h; done) | (simp only [eqE, decide_eq_true_eq] at h; rw [h])
  | .non, b, h => by cases b <;> first | rfl | (simp [eqE] at h)
  | .bl x, b, h => by cases b <;> first | (simp [eqE] at h; done) | (simp only [eqE, beq_iff_eq] at h; rw [h])
  | .int x, b, h => by cases b <;> first | (simp [eqE] at h; done) | (simp only [eqE, decide_eq_true_eq] at h; rw [h])
  | .str x, b, h => by cases b <;> first | (simp [eqE] at h; done) | (simp only [eqE, decide_eq_true_eq] at h; rw [h])
  | .cst k v, b, h => by cases b <;> first | (simp [eqE] at h; done) | (simp only [eqE, Bool.and_eq_true, decide_eq_true_eq] at h; rw [h.1, eqV_ok _ _ h.2])
  | .tup x, b, h => by cases b <;> first | (simp [eqE] at h; done) | (simp only [eqE] at h; rw [eqEs_ok _ _ h])
  | .lst x, b, h => by cases b <;> first | (simp [eqE] at h; done) | (simp only [eqE] at h; rw [eqEs_ok _ _ h])
  | .dct x, b, h => by cases b <;> first | (simp [eqE] at h; done) | (simp only [eqE] at h; rw [eqEs_ok _ _ h])
  | .bin o x y, b, h => by cases b <;> first | (simp [eqE] at h; done) | (simp only [eqE, Bool.and_eq_true, decide_eq_true_eq] at h; rw [h.1, eqE_ok _ _ h.2.1, eqE_ok _ _ h.2.2])
  | .neg x, b, h => by cases b <;> first | (simp [eqE] at h; done) | (simp only [eqE] at h; rw [eqE_ok _ _ h])
  | .cmp o x y, b, h => by cases b <;> first | (simp [eqE] at h; done) | (simp only [eqE, Bool.and_eq_true, decide_eq_true_eq] at h; rw [h.1, eqE_ok _ _ h.2.1, eqE_ok _ _ h.2.2])
  | .chn o p x y z, b, h => by cases b <;> first | (simp [eqE] at h; done) | (simp only [eqE, Bool.and_eq_true, decide_eq_true_eq] at h; rw [h.1, h.2.1, eqE_ok _ _ h.2.2.1, eqE_ok _ _ h.2.2.2.1, eqE_ok _ _ h.2.2.2.2])
  | .and x y, b, h => by cases b <;> first | (simp [eqE] at h; done) | (simp only [eqE, Bool.and_eq_true] at h; rw [eqE_ok _ _ h.1, eqE_ok _ _ h.2])
  | .or x y, b, h => by cases b <;> first | (simp [eqE] at h; done) | (simp only [eqE, Bool.and_eq_true] at h; rw [eqE_ok _ _ h.1, eqE_ok _ _ h.2])
  | .not x, b, h => by cases b <;> first | (simp [eqE] at h; done) | (simp only [eqE] at h; rw [eqE_ok _ _ h])
  | .ife x y z, b, h => by cases b <;> first | (simp [eqE] at h; done) | (simp only [eqE, Bool.and_eq_true] at h; rw [eqE_ok _ _ h.1, eqE_ok _ _ h.2.1, eqE_ok _ _ h.2.2])
  | .sub x y, b, h => by cases b <;> first | (simp [eqE] at h; done) | (simp only [eqE, Bool.and_eq_true] at h; rw [eqE_ok _ _ h.1, eqE_ok _ _ h.2])
  | .cut x y z, b, h => by cases b <;> first | (simp [eqE] at h; done) | (simp only [eqE, Bool.and_eq_true] at h; rw [eqE_ok _ _ h.1, eqO_ok _ _ h.2.1, eqO_ok _ _ h.2.2])
  | .rev x, b, h => by cases b <;> first | (simp [eqE] at h; done) | (simp only [eqE] at h; rw [eqE_ok _ _ h])
  | .bi o x, b, h => by cases b <;> first | (simp [eqE] at h; done) | (simp only [eqE, Bool.and_eq_true, decide_eq_true_eq] at h; rw [h.1, eqEs_ok _ _ h.2])
  | .isi o x, b, h => by cases b <;> first | (simp [eqE] at h; done) | (simp only [eqE, Bool.and_eq_true, decide_eq_true_eq] at h; rw [h.1, eqE_ok _ _ h.2])
  | .call f ms x, b, h => by cases b <;> first | (simp [eqE] at h; done) | (simp only [eqE, Bool.and_eq_true, decide_eq_true_eq] at h; rw [h.1, h.2.1, eqEs_ok _ _ h.2.2])
  | .comp s t c e o, b, h => by cases b <;> first | (simp [eqE] at h; done) | (simp only [eqE, Bool.and_eq_true, decide_eq_true_eq] at h; rw [eqE_ok _ _ h.1, h.2.1, eqO_ok _ _ h.2.2.1, eqE_ok _ _ h.2.2.2.1, h.2.2.2.2])
  | .comp2 s t c s2 t2 c2 e o o2, b, h => by cases b <;> first | (simp [eqE] at h; done) | (simp only [eqE, Bool.and_eq_true, decide_eq_true_eq] at h; rw [eqE_ok _ _ h.1, h.2.1, eqO_ok _ _ h.2.2.1, eqE_ok _ _ h.2.2.2.1, h.2.2.2.2.1, eqO_ok _ _ h.2.2.2.2.2.1, eqE_ok _ _ h.2.2.2.2.2.2.1, h.2.2.2.2.2.2.2.1, h.2.2.2.2.2.2.2.2])
  | .rg1 x, b, h => by cases b <;> first | (simp [eqE] at h; done) | (simp only [eqE] at h; rw [eqE_ok _ _ h])
  | .rg2 x y, b, h => by cases b <;> first | (simp [eqE] at h; done) | (simp only [eqE, Bool.and_eq_true] at h; rw [eqE_ok _ _ h.1, eqE_ok _ _ h.2])
  | .rg3 x y z, b, h => by cases b <;> first | (simp [eqE] at h; done) | (simp only [eqE, Bool.and_eq_true] at h; rw [eqE_ok _ _ h.1, eqE_ok _ _ h.2.1, eqE_ok _ _ h.2.2])
  | .zip x y, b, h => by cases b <;> first | (simp [eqE] at h; done) | (simp only [eqE, Bool.and_eq_true] at h; rw [eqE_ok _ _ h.1, eqE_ok _ _ h.2])
  | .items x, b, h => by cases b <;> first | (simp [eqE] at h; done) | (simp only [eqE] at h; rw [eqE_ok _ _ h])
  | .keys x, b, h => by cases b <;> first | (simp [eqE] at h; done) | (simp only [eqE] at h; rw [eqE_ok _ _ h])
  | .meth m x y, b, h => by cases b <;> first | (simp [eqE] at h; done) | (simp only [eqE, Bool.and_eq_true, decide_eq_true_eq] at h; rw [h.1, eqE_ok _ _ h.2.1, eqEs_ok _ _ h.2.2])
  | .pop x, b, h => by cases b <;> first | (simp [eqE] at h; done) | (simp only [eqE, decide_eq_true_eq] at h; rw [h])
  | .popAt i x, b, h => by cases b <;> first | (simp [eqE] at h; done) | (simp only [eqE, Bool.and_eq_true, decide_eq_true_eq] at h; rw [h.1, eqE_ok _ _ h.2])
theorem eqEs_ok : ∀ a b : List Ex, eqEs a b = true → a = b
  | [], b, h => by cases b <;> first | rfl | (simp [eqEs] at h)
  | x :: a, b, h => by
    cases b with
    | nil => simp [eqEs] at h
    | cons y b =>
      simp only [eqEs, Bool.and_eq_true] at h
      rw [eqE_ok _ _ h.1, eqEs_ok _ _ h.2]
theorem eqO_ok : ∀ a b : Option Ex, eqO a b = true → a = b
  | none, b, h => by cases b <;> first | rfl | (simp [eqO] at h)
  | some a, b, h => by cases b <;> first | (simp [eqO] at h; done) | (simp only [eqO] at h; rw [eqE_ok _ _ h])
end
mutual
def eqS : Sm → Sm → Bool
  | .asg i e, .asg j f => decide (i = j) && eqE e f
  | .asgM i e, .asgM j f => decide (i = j) && eqE e f
  | .unp i e, .unp j f => decide (i = j) && eqE e f
  | .par i b e, .par j c f => decide (i = j) && (decide (b = c) && eqEs e f)
  | .aug i o e, .aug j p f => decide (i = j) && (decide (o = p) && eqE e f)
  | .setix i k e, .setix j l f => decide (i = j) && (eqE k l && eqE e f)
  | .augix i k o e, .augix j l p f => decide (i = j) && (eqE k l && (decide (o = p) && eqE e f))
  | .app i e, .app j f => decide (i = j) && eqE e f
  | .ext i e, .ext j f => decide (i = j) && eqE e f
  | .rem i e, .rem j f => decide (i = j) && eqE e f
  | .upd i e, .upd j f => decide (i = j) && eqE e f
  | .ex e, .ex f => eqE e f
  | .ret e, .ret f => eqE e f
  | .retM i, .retM j => decide (i = j)
  | .ifs c a b, .ifs c' a' b' => eqE c c' && (eqSs a a' && eqSs b b')
  | .whl c a, .whl c' a' => eqE c c' && eqSs a a'
  | .for_ t s a, .for_ t' s' a' => decide (t = t') && (eqE s s' && eqSs a a')
  | .pass, .pass => true
  | .brk, .brk => true
  | .cnt, .cnt => true
  | _, _ => false
def eqSs : List Sm → List Sm → Bool
  | [], [] => true
  | x :: a, y :: b => eqS x y && eqSs a b
  | _, _ => false
end
mutual
theorem eqS_ok : ∀ a b : Sm, eqS a b = true → a = b
  | .asg i e, b, h => by cases b <;> first | (simp [eqS] at h; done) | (simp only [eqS, Bool.and_eq_true, decide_eq_true_eq] at h; rw [h.1, eqE_ok _ _ h.2])
  | .asgM i e, b, h => by cases b <;> first | (simp [eqS] at h; done) | (simp only [eqS, Bool.and_eq_true, decide_eq_true_eq] at h; rw [h.1, eqE_ok _ _ h.2])
  | .unp i e, b, h => by cases b <;> first | (simp [eqS] at h; done) | (simp only [eqS, Bool.and_eq_true, decide_eq_true_eq] at h; rw [h.1, eqE_ok _ _ h.2])
  | .par i c e, b, h => by cases b <;> first | (simp [eqS] at h; done) | (simp only [eqS, Bool.and_eq_true, decide_eq_true_eq] at h; rw [h.1, h.2.1, eqEs_ok _ _ h.2.2])
  | .aug i o e, b, h => by cases b <;> first | (simp [eqS] at h; done) | (simp only [eqS, Bool.and_eq_true, decide_eq_true_eq] at h; rw [h.1, h.2.1, eqE_ok _ _ h.2.2])
  | .setix i k e, b, h => by cases b <;> first | (simp [eqS] at h; done) | (simp only [eqS, Bool.and_eq_true, decide_eq_true_eq] at h; rw [h.1, eqE_ok _ _ h.2.1, eqE_ok _ _ h.2.2])
  | .augix i k o e, b, h => by cases b <;> first | (simp [eqS] at h; done) | (simp only [eqS, Bool.and_eq_true, decide_eq_true_eq] at h; rw [h.1, eqE_ok _ _ h.2.1, h.2.2.1, eqE_ok _ _ h.2.2.2])
  | .app i e, b, h => by cases b <;> first | (simp [eqS] at h; done) | (simp only [eqS, Bool.and_eq_true, decide_eq_true_eq] at h; rw [h.1, eqE_ok _ _ h.2])
  | .ext i e, b, h => by cases b <;> first | (simp [eqS] at h; done) | (simp only [eqS, Bool.and_eq_true, decide_eq_true_eq] at h; rw [h.1, eqE_ok _ _ h.2])
  | .rem i e, b, h => by cases b <;> first | (simp [eqS] at h; done) | (simp only [eqS, Bool.and_eq_true, decide_eq_true_eq] at h; rw [h.1, eqE_ok _ _ h.2])
  | .upd i e, b, h => by cases b <;> first | (simp [eqS] at h; done) | (simp only [eqS, Bool.and_eq_true, decide_eq_true_eq] at h; rw [h.1, eqE_ok _ _ h.2])
  | .ex e, b, h => by cases b <;> first | (simp [eqS] at h; done) | (simp only [eqS] at h; rw [eqE_ok _ _ h])
  | .ret e, b, h => by cases b <;> first | (simp [eqS] at h; done) | (simp only [eqS] at h; rw [eqE_ok _ _ h])
  | .retM i, b, h => by cases b <;> first | (simp [eqS] at h; done) | (simp only [eqS, decide_eq_true_eq] at h; rw [h])
  | .ifs c x y, b, h => by cases b <;> first | (simp [eqS] at h; done) | (simp only [eqS, Bool.and_eq_true] at h; rw [eqE_ok _ _ h.1, eqSs_ok _ _ h.2.1, eqSs_ok _ _ h.2.2])
  | .whl c x, b, h => by cases b <;> first | (simp [eqS] at h; done) | (simp only [eqS, Bool.and_eq_true] at h; rw [eqE_ok _ _ h.1, eqSs_ok _ _ h.2])
  | .for_ t s x, b, h => by cases b <;> first | (simp [eqS] at h; done) | (simp only [eqS, Bool.and_eq_true, decide_eq_true_eq] at h; rw [h.1, eqE_ok _ _ h.2.1, eqSs_ok _ _ h.2.2])
  | .pass, b, h => by cases b <;> first | rfl | (simp [eqS] at h)
  | .brk, b, h => by cases b <;> first | rfl | (simp [eqS] at h)
  | .cnt, b, h => by cases b <;> first | rfl | (simp [eqS] at h)
theorem eqSs_ok : ∀ a b : List Sm, eqSs a b = true → a = b
  | [], b, h => by cases b <;> first | rfl | (simp [eqSs] at h)
  | x :: a, b, h => by
    cases b with
    | nil => simp [eqSs] at h
    | cons y b =>
      simp only [eqSs, Bool.and_eq_true] at h
      rw [eqS_ok _ _ h.1, eqSs_ok _ _ h.2]
end
def eqF (a b : Fn) : Bool := decide (a.na = b.na) && (decide (a.ns = b.ns) && (decide (a.cls = b.cls) && (decide (a.mps = b.mps) && (decide (a.fresh = b.fresh) && eqSs a.body b.body))))
theorem eqF_ok {a b : Fn} (h : eqF a b = true) : a = b := by
  unfold eqF at h
  simp only [Bool.and_eq_true, decide_eq_true_eq] at h
  obtain ⟨h1, h2, h3, h4, h5, h6⟩ := h
  have := eqSs_ok _ _ h6
  cases a; cases b
  simp_all
def eqP : Option (List Fn) → List Fn → Bool
  | none, _ => false
  | some [], [] => true
  | some (a :: x), b :: y => eqF a b && eqP (some x) y
  | some _, _ => false
theorem eqP_ok : ∀ {o : Option (List Fn)} {b : List Fn}, eqP o b = true → o = some b
  | none, _, h => by simp [eqP] at h
  | some [], [], _ => rfl
  | some (a :: x), b :: y, h => by
    simp only [eqP, Bool.and_eq_true] at h
    have := eqP_ok h.2
    cases this
    rw [eqF_ok h.1]
  | some [], _ :: _, h => by simp [eqP] at h
  | some (_ :: _), [], h => by simp [eqP] at h
end EV

set_option linter.all false
set_option Elab.async false
set_option maxRecDepth 100000
/-! Ev30: plain reckoning: expressions that leave the frame as it is, their values. -/
namespace EV

/-- a comprehension's row -/
def compG {α : Type} (f : α → Option (List PV)) : List α → Option (List PV)
  | [] => some []
  | x :: xs => (f x).bind fun a => (compG f xs).map (a ++ ·)
def tgSlots : Tg → List Nat
  | .nm i => [i] | .tp is => is
mutual
/-- leaves the frame as it is -/
def pureE : Ex → Bool
  | .sl _ => true | .mv _ => false | .non => true | .bl _ => true | .int _ => true | .str _ => true | .cst _ _ => true
  | .tup es => pureL es | .lst es => pureL es | .dct es => pureL es
  | .bin _ a b => pureE a && pureE b | .neg a => pureE a | .cmp _ a b => pureE a && pureE b | .chn _ _ a b c => pureE a && pureE b && pureE c
  | .and a b => pureE a && pureE b | .or a b => pureE a && pureE b | .not a => pureE a | .ife c a b => pureE c && pureE a && pureE b
  | .sub a b => pureE a && pureE b | .cut a lo hi => pureE a && pureO lo && pureO hi | .rev a => pureE a
  | .bi _ es => pureL es | .isi _ a => pureE a
  | .call _ ms es => (ms.all (·.isNone)) && decide (ms.length = es.length) && pureL es
  | .comp s tg c e own => pureE s && pureO c && pureE e && (tgSlots tg).all (own.contains ·)
  | .comp2 s tg c s2 tg2 c2 e own own2 => pureE s && pureO c && pureE s2 && pureO c2 && pureE e && (tgSlots tg).all (own.contains ·) && (tgSlots tg2).all (own2.contains ·) && own2.all (own.contains ·)
  | .rg1 a => pureE a | .rg2 a b => pureE a && pureE b | .rg3 a b c => pureE a && pureE b && pureE c | .zip a b => pureE a && pureE b | .items a => pureE a | .keys a => pureE a
  | .meth _ a es => pureE a && pureL es | .pop _ => false | .popAt _ _ => false
def pureL : List Ex → Bool
  | [] => true
  | e :: es => pureE e && pureL es
def pureO : Option Ex → Bool
  | none => true
  | some e => pureE e
end
def rgV (n : Int) : Option PV := if (okRg n && okN n.toNat) = true then some (.lst (rangeL 0 n.toNat 1)) else none
def rgV2 (m n : Int) : Option PV := if (okRg m && okRg n && okN (n - m).toNat) = true then some (.lst (rangeL m (n - m).toNat 1)) else none
def rgV3 (m n d : Int) : Option PV := if (okRg m && okRg n && decide (d ≠ 0 ∧ d.natAbs < 1073741824) && okN (rangeN m n d)) = true then some (.lst (rangeL m (rangeN m n d) d)) else none
def zipV : PV → PV → Option PV
  | .tup xs, .tup ys => some (.lst (zipL xs ys))
  | .lst xs, .lst ys => some (.lst (zipL xs ys))
  | _, _ => none
mutual
/-- its value -/
def vl (C : Calls) : Ex → Fr → Option PV
  | .sl i, fr => getS fr i
  | .mv i, fr => none
  | .non, fr => some .non
  | .bl b, fr => some (.bl b)
  | .int i, fr => some (.int i)
  | .str s, fr => some (.str s)
  | .cst _ v, fr => some v
  | .tup es, fr => (vls C es fr).map .tup
  | .lst es, fr => (vls C es fr).map .lst
  | .dct es, fr => (vls C es fr).bind fun p => (pairUp p).map fun kvs => .dct (dputAll [] kvs)
  | .bin o a b, fr => (vl C a fr).bind fun x => (vl C b fr).bind fun y => binop o x y
  | .neg a, fr => (vl C a fr).bind fun x => (intOf x).map fun i => .int (-i)
  | .cmp o a b, fr => (vl C a fr).bind fun x => (vl C b fr).bind fun y => cmpop o x y
  | .chn o o' a b c, fr => (vl C a fr).bind fun x => (vl C b fr).bind fun y => ((cmpop o x y).bind blOf).bind fun t =>
      if t = true then (vl C c fr).bind fun z => cmpop o' y z else some (.bl false)
  | .and a b, fr => (vl C a fr).bind fun x => (blOf x).bind fun t => if t = true then vl C b fr else some (.bl false)
  | .or a b, fr => (vl C a fr).bind fun x => (blOf x).bind fun t => if t = true then some (.bl true) else vl C b fr
  | .not a, fr => (vl C a fr).bind fun x => (blOf x).map fun t => .bl !t
  | .ife c a b, fr => (vl C c fr).bind fun x => (blOf x).bind fun t => if t = true then vl C a fr else vl C b fr
  | .sub a i, fr => (vl C a fr).bind fun x => (vl C i fr).bind fun y => subop x y
  | .cut a lo hi, fr => (vl C a fr).bind fun x => (vlo C lo fr).bind fun l => (vlo C hi fr).bind fun h => cutop x l h
  | .rev a, fr => (vl C a fr).bind revop
  | .bi b es, fr => (vls C es fr).bind fun p => biop b p
  | .isi t a, fr => (vl C a fr).bind fun x => (isTy t x).map .bl
  | .call f ms es, fr => (vls C es fr).bind fun p => (C f p).map (·.1)
  | .comp s tg c e own, fr => (vl C s fr).bind fun x => (iterV x).bind fun xs =>
      (compG (fun y => (bindTg tg y (wipeF fr own)).bind fun g => (vlc C c g).bind fun t => if t = true then (vl C e g).map fun r => [r] else some []) xs).map .lst
  | .comp2 s tg c s2 tg2 c2 e own own2, fr => (vl C s fr).bind fun x => (iterV x).bind fun xs =>
      (compG (fun y => (bindTg tg y (wipeF fr own)).bind fun g => (vlc C c g).bind fun t => if t = true then (vl C s2 g).bind fun x2 => (iterV x2).bind fun ys =>
          compG (fun y2 => (bindTg tg2 y2 (wipeF g own2)).bind fun g2 => (vlc C c2 g2).bind fun t2 => if t2 = true then (vl C e g2).map fun r => [r] else some []) ys
        else some []) xs).bind fun q => if okN q.length = true then some (.lst q) else none
  | .rg1 a, fr => (vl C a fr).bind fun x => (intOf x).bind rgV
  | .rg2 a b, fr => (vl C a fr).bind fun x => (vl C b fr).bind fun y => (intOf x).bind fun m => (intOf y).bind fun n => rgV2 m n
  | .rg3 a b c, fr => (vl C a fr).bind fun x => (vl C b fr).bind fun y => (vl C c fr).bind fun z => (intOf x).bind fun m => (intOf y).bind fun n => (intOf z).bind fun d => rgV3 m n d
  | .zip a b, fr => (vl C a fr).bind fun x => (vl C b fr).bind fun y => zipV x y
  | .keys a, fr => (vl C a fr).bind fun x => match x with
    | .dct kvs => some (.lst (kvs.map fun kv => kv.1))
    | _ => none
  | .items a, fr => (vl C a fr).bind fun x => match x with
    | .dct kvs => some (.lst (kvs.map fun kv => .tup [kv.1, kv.2]))
    | _ => none
  | .meth m a es, fr => (vl C a fr).bind fun x => if recvOk m x = true then (vls C es fr).bind fun q => methop m x q else none
  | .pop i, fr => none
  | .popAt i k, fr => none
def vls (C : Calls) : List Ex → Fr → Option (List PV)
  | [], fr => some []
  | e :: es, fr => (vl C e fr).bind fun x => (vls C es fr).map (x :: ·)
def vlo (C : Calls) : Option Ex → Fr → Option (Option Int)
  | none, fr => some none
  | some e, fr => (vl C e fr).bind fun x => (intOf x).map some
def vlc (C : Calls) : Option Ex → Fr → Option Bool
  | none, fr => some true
  | some e, fr => (vl C e fr).bind blOf
end

/-! frames alike off own -/
theorem wipeF_len' : ∀ {vs : List Nat} {fr : Fr}, (wipeF fr vs).length = fr.length
  | [], _ => rfl
  | v :: vs, fr => by unfold wipeF; rw [List.length_set, wipeF_len']
theorem set_get' {α : Type} {l : List α} {i j : Nat} {x : α} : (l.set i x)[j]? = if i = j then (if i < l.length then some x else none) else l[j]? := by
  by_cases h : i = j
  · subst h
    simp only [if_true]
    by_cases hi : i < l.length
    · rw [List.getElem?_set_self hi, if_pos hi]
    · rw [List.getElem?_eq_none (by simpa using hi), if_neg hi]
  · rw [List.getElem?_set_ne h, if_neg h]
theorem wipeF_get' : ∀ {vs : List Nat} {fr : Fr} {i : Nat}, (wipeF fr vs)[i]? = if i ∈ vs then (if i < fr.length then some none else none) else fr[i]?
  | [], fr, i => by simp [wipeF]
  | v :: vs, fr, i => by
    unfold wipeF
    rw [set_get', wipeF_get', wipeF_len']
    by_cases h : v = i
    · subst h; simp
    · rw [if_neg h]
      by_cases h2 : i ∈ vs
      · rw [if_pos h2, if_pos (List.mem_cons_of_mem _ h2)]
      · rw [if_neg h2, if_neg (by simp [h2, Ne.symm h])]
theorem backF_len' {old : Fr} : ∀ {vs : List Nat} {fr : Fr}, (backF old vs fr).length = fr.length
  | [], _ => rfl
  | v :: vs, fr => by unfold backF; rw [List.length_set, backF_len']
theorem backF_get' {old : Fr} : ∀ {vs : List Nat} {fr : Fr} {i : Nat}, old.length = fr.length → (backF old vs fr)[i]? = if i ∈ vs then old[i]? else fr[i]?
  | [], fr, i, _ => by simp [backF]
  | v :: vs, fr, i, hl => by
    unfold backF
    rw [set_get', backF_get' hl, backF_len']
    by_cases h : v = i
    · subst h
      rw [if_pos rfl, if_pos List.mem_cons_self]
      by_cases hi : v < fr.length
      · rw [if_pos hi, List.getElem?_eq_getElem (by omega)]; rfl
      · rw [if_neg hi, List.getElem?_eq_none (by omega)]
    · rw [if_neg h]
      by_cases h2 : i ∈ vs
      · rw [if_pos h2, if_pos (List.mem_cons_of_mem _ h2)]
      · rw [if_neg h2, if_neg (by simp [h2, Ne.symm h])]
def Off (own : List Nat) (g fr : Fr) : Prop := g.length = fr.length ∧ ∀ i, i ∉ own → g[i]? = fr[i]?
theorem Off.refl {own : List Nat} {fr : Fr} : Off own fr fr := ⟨rfl, fun _ _ => rfl⟩
theorem Off.trans {own : List Nat} {a b c : Fr} (h : Off own a b) (h' : Off own b c) : Off own a c := ⟨h.1.trans h'.1, fun i hi => (h.2 i hi).trans (h'.2 i hi)⟩
theorem Off.mono {own own' : List Nat} {a b : Fr} (h : Off own a b) (hs : ∀ i ∈ own, i ∈ own') : Off own' a b := ⟨h.1, fun i hi => h.2 i fun z => hi (hs i z)⟩
theorem Off.wipe {own : List Nat} {g fr : Fr} (h : Off own g fr) : wipeF g own = wipeF fr own := List.ext_getElem? fun i => by
  rw [wipeF_get', wipeF_get', h.1]
  by_cases hi : i ∈ own
  · rw [if_pos hi, if_pos hi]
  · rw [if_neg hi, if_neg hi, h.2 i hi]
theorem Off.back {own : List Nat} {g fr : Fr} (h : Off own g fr) : backF fr own g = fr := List.ext_getElem? fun i => by
  rw [backF_get' h.1.symm]
  by_cases hi : i ∈ own
  · rw [if_pos hi]
  · rw [if_neg hi, h.2 i hi]
theorem off_wipe {own : List Nat} {fr : Fr} : Off own (wipeF fr own) fr := ⟨wipeF_len', fun i hi => by rw [wipeF_get', if_neg hi]⟩
theorem setAll_off : ∀ {is : List Nat} {xs : List PV} {fr : Fr}, Off is (setAll is xs fr) fr
  | [], _, _ => .refl
  | _ :: _, [], _ => .refl
  | i :: is, x :: xs, fr => by
    unfold setAll
    have h := setAll_off (is := is) (xs := xs) (fr := fr.set i (some x))
    refine (h.mono fun _ => List.mem_cons_of_mem _).trans ⟨List.length_set, fun j hj => ?_⟩
    rw [List.getElem?_set_ne fun z => hj (by simp [z])]
theorem bindTg_off {tg : Tg} {v : PV} {fr g : Fr} (h : bindTg tg v fr = some g) : Off (tgSlots tg) g fr := by
  cases tg with
  | nm i =>
    cases h
    exact ⟨List.length_set, fun j hj => by rw [List.getElem?_set_ne fun z => hj (by simp [tgSlots, z])]⟩
  | tp is =>
    cases v <;> first | (simp [bindTg] at h; done) | skip
    simp only [bindTg] at h
    split at h <;> cases h
    exact setAll_off
theorem mem_all {a b : List Nat} (h : (a.all (b.contains ·)) = true) : ∀ i ∈ a, i ∈ b := fun i hi => by simpa using List.all_eq_true.mp h i hi
/-- a turn, by its value -/
theorem compL_pure {own : List Nat} {fr : Fr} {f : PV → Fr → Option (List PV × Fr)} {F : PV → Option (List PV)} (h : ∀ x g, Off own g fr → (f x g).map (·.1) = F x ∧ ∀ r, f x g = some r → Off own r.2 fr) :
    ∀ (xs : List PV) (g : Fr), Off own g fr → (compL f xs g).map (·.1) = compG F xs ∧ ∀ r, compL f xs g = some r → Off own r.2 fr
  | [], g, hg => ⟨rfl, fun r e => by cases e; exact hg⟩
  | x :: xs, g, hg => by
    obtain ⟨h1, h2⟩ := h x g hg
    unfold compL compG
    cases e : f x g with
    | none =>
      rw [e] at h1
      rw [← h1]
      exact ⟨rfl, fun r z => by cases z⟩
    | some p =>
      rw [e] at h1
      have hp := h2 p e
      obtain ⟨h3, h4⟩ := compL_pure h xs p.2 hp
      rw [← h1, ← h3]
      cases e2 : compL f xs p.2 with
      | none => exact ⟨by simp [e2], fun r z => by simp [e2] at z⟩
      | some q => exact ⟨by simp [e2], fun r z => by simp [e2] at z; subst z; exact h4 q e2⟩
theorem map_of {α : Type} {o : Option (α × Fr)} {v : Option α} {fr : Fr} (h : o = v.map fun x => (x, fr)) : o.map (·.1) = v := by
  rw [h]; cases v <;> rfl
mutual
theorem ev_pure (C : Calls) : ∀ (e : Ex), pureE e = true → ∀ fr, ev C e fr = (vl C e fr).map fun v => (v, fr)
  | .sl i, _, fr => by simp only [ev, vl]
  | .mv i, h, fr => by simp [pureE] at h
  | .non, _, fr => by simp only [ev, vl, Option.map_some]
  | .bl b, _, fr => by simp only [ev, vl, Option.map_some]
  | .int b, _, fr => by simp only [ev, vl, Option.map_some]
  | .str b, _, fr => by simp only [ev, vl, Option.map_some]
  | .cst _ b, _, fr => by simp only [ev, vl, Option.map_some]
  | .tup es, h, fr => by simp only [pureE] at h; simp only [ev, vl]; rw [evs_pure C es h fr]; cases vls C es fr <;> rfl
  | .lst es, h, fr => by simp only [pureE] at h; simp only [ev, vl]; rw [evs_pure C es h fr]; cases vls C es fr <;> rfl
  | .dct es, h, fr => by
    simp only [pureE] at h; simp only [ev, vl]; rw [evs_pure C es h fr]
    cases vls C es fr with
    | none => rfl
    | some p => simp only [Option.map_some, Option.bind_some]; cases pairUp p <;> rfl
  | .bin o a b, h, fr => by
    simp only [pureE, Bool.and_eq_true] at h; simp only [ev, vl]; rw [ev_pure C a h.1 fr]
    cases vl C a fr with
    | none => rfl
    | some x =>
      simp only [Option.map_some, Option.bind_some]; rw [ev_pure C b h.2 fr]
      cases vl C b fr <;> simp
  | .neg a, h, fr => by
    simp only [pureE] at h; simp only [ev, vl]; rw [ev_pure C a h fr]
    cases vl C a fr with
    | none => rfl
    | some x => simp only [Option.map_some, Option.bind_some]; cases intOf x <;> rfl
  | .cmp o a b, h, fr => by
    simp only [pureE, Bool.and_eq_true] at h; simp only [ev, vl]; rw [ev_pure C a h.1 fr]
    cases vl C a fr with
    | none => rfl
    | some x =>
      simp only [Option.map_some, Option.bind_some]; rw [ev_pure C b h.2 fr]
      cases vl C b fr <;> simp
  | .chn o o' a b c, h, fr => by
    simp only [pureE, Bool.and_eq_true] at h; simp only [ev, vl]; rw [ev_pure C a h.1.1 fr]
    cases vl C a fr with
    | none => rfl
    | some x =>
      simp only [Option.map_some, Option.bind_some]; rw [ev_pure C b h.1.2 fr]
      cases vl C b fr with
      | none => rfl
      | some y =>
        simp only [Option.map_some, Option.bind_some]
        cases (cmpop o x y).bind blOf with
        | none => rfl
        | some t =>
          simp only [Option.bind_some]
          by_cases ht : t = true
          · rw [if_pos ht, if_pos ht, ev_pure C c h.2 fr]
            cases vl C c fr <;> simp
          · rw [if_neg ht, if_neg ht]; rfl
  | .and a b, h, fr => by
    simp only [pureE, Bool.and_eq_true] at h; simp only [ev, vl]; rw [ev_pure C a h.1 fr]
    cases vl C a fr with
    | none => rfl
    | some x =>
      simp only [Option.map_some, Option.bind_some]
      cases blOf x with
      | none => rfl
      | some t =>
        simp only [Option.bind_some]
        by_cases ht : t = true
        · rw [if_pos ht, if_pos ht, ev_pure C b h.2 fr]
        · rw [if_neg ht, if_neg ht]; rfl
  | .or a b, h, fr => by
    simp only [pureE, Bool.and_eq_true] at h; simp only [ev, vl]; rw [ev_pure C a h.1 fr]
    cases vl C a fr with
    | none => rfl
    | some x =>
      simp only [Option.map_some, Option.bind_some]
      cases blOf x with
      | none => rfl
      | some t =>
        simp only [Option.bind_some]
        by_cases ht : t = true
        · rw [if_pos ht, if_pos ht]; rfl
        · rw [if_neg ht, if_neg ht, ev_pure C b h.2 fr]
  | .not a, h, fr => by
    simp only [pureE] at h; simp only [ev, vl]; rw [ev_pure C a h fr]
    cases vl C a fr with
    | none => rfl
    | some x => simp only [Option.map_some, Option.bind_some]; cases blOf x <;> rfl
  | .ife c a b, h, fr => by
    simp only [pureE, Bool.and_eq_true] at h; simp only [ev, vl]; rw [ev_pure C c h.1.1 fr]
    cases vl C c fr with
    | none => rfl
    | some x =>
      simp only [Option.map_some, Option.bind_some]
      cases blOf x with
      | none => rfl
      | some t =>
        simp only [Option.bind_some]
        by_cases ht : t = true
        · rw [if_pos ht, if_pos ht, ev_pure C a h.1.2 fr]
        · rw [if_neg ht, if_neg ht, ev_pure C b h.2 fr]
  | .sub a b, h, fr => by
    simp only [pureE, Bool.and_eq_true] at h; simp only [ev, vl]; rw [ev_pure C a h.1 fr]
    cases vl C a fr with
    | none => rfl
    | some x =>
      simp only [Option.map_some, Option.bind_some]; rw [ev_pure C b h.2 fr]
      cases vl C b fr <;> simp
  | .cut a lo hi, h, fr => by
    simp only [pureE, Bool.and_eq_true] at h; simp only [ev, vl]; rw [ev_pure C a h.1.1 fr]
    cases vl C a fr with
    | none => rfl
    | some x =>
      simp only [Option.map_some, Option.bind_some]; rw [evo_pure C lo h.1.2 fr]
      cases vlo C lo fr with
      | none => rfl
      | some l =>
        simp only [Option.map_some, Option.bind_some]; rw [evo_pure C hi h.2 fr]
        cases vlo C hi fr <;> simp
  | .rev a, h, fr => by
    simp only [pureE] at h; simp only [ev, vl]; rw [ev_pure C a h fr]
    cases vl C a fr <;> simp
  | .bi b es, h, fr => by
    simp only [pureE] at h; simp only [ev, vl]; rw [evs_pure C es h fr]
    cases vls C es fr <;> simp
  | .isi t a, h, fr => by
    simp only [pureE] at h; simp only [ev, vl]; rw [ev_pure C a h fr]
    cases vl C a fr with
    | none => rfl
    | some x => simp only [Option.map_some, Option.bind_some]; cases isTy t x <;> rfl
  | .call f ms es, h, fr => by
    simp only [pureE, Bool.and_eq_true, decide_eq_true_eq] at h
    simp only [ev, vl]; rw [evs_pure C es h.2 fr]
    cases hv : vls C es fr with
    | none => rfl
    | some p =>
      have hl : ms.length = p.length := by rw [h.1.2, ← vls_len C hv]
      simp only [Option.map_some, Option.bind_some]
      rw [fill_none h.1.1 hl]
      simp only [Option.bind_some]
      cases C f p with
      | none => rfl
      | some r => simp only [Option.map_some]; rw [put_none h.1.1]
  | .comp s tg c e own, h, fr => by
    simp only [pureE, Bool.and_eq_true] at h
    obtain ⟨⟨⟨h1, h2⟩, h3⟩, h4⟩ := h
    simp only [ev, vl]; rw [ev_pure C s h1 fr]
    cases vl C s fr with
    | none => rfl
    | some x =>
      simp only [Option.map_some, Option.bind_some]
      cases iterV x with
      | none => rfl
      | some xs =>
        simp only [Option.bind_some]
        have key := compL_pure (own := own) (fr := fr) (f := fun x g => (bindTg tg x (wipeF g own)).bind fun g => (evc C c g).bind fun c => if c.1 = true then (ev C e c.2).map fun r => ([r.1], r.2) else some ([], c.2))
          (F := fun y => (bindTg tg y (wipeF fr own)).bind fun g => (vlc C c g).bind fun t => if t = true then (vl C e g).map fun r => [r] else some []) (fun y g hg => by
            rw [hg.wipe]
            cases hb : bindTg tg y (wipeF fr own) with
            | none => exact ⟨rfl, fun r z => by cases z⟩
            | some g1 =>
              have o1 : Off own g1 fr := ((bindTg_off hb).mono (mem_all h4)).trans off_wipe
              simp only [Option.bind_some]
              rw [evc_pure C c h2 g1]
              cases vlc C c g1 with
              | none => exact ⟨rfl, fun r z => by cases z⟩
              | some t =>
                simp only [Option.map_some, Option.bind_some]
                by_cases ht : t = true
                · rw [if_pos ht, if_pos ht, ev_pure C e h3 g1]
                  cases vl C e g1 with
                  | none => exact ⟨rfl, fun r z => by cases z⟩
                  | some v => exact ⟨rfl, fun r z => by cases z; exact o1⟩
                · rw [if_neg ht, if_neg ht]
                  exact ⟨rfl, fun r z => by cases z; exact o1⟩) xs fr .refl
        obtain ⟨k1, k2⟩ := key
        rw [← k1]
        cases hc : compL (fun x g => (bindTg tg x (wipeF g own)).bind fun g => (evc C c g).bind fun c => if c.1 = true then (ev C e c.2).map fun r => ([r.1], r.2) else some ([], c.2)) xs fr with
        | none => simp
        | some q => simp [(k2 q hc).back]
  | .comp2 s tg c s2 tg2 c2 e own own2, h, fr => by
    simp only [pureE, Bool.and_eq_true] at h
    obtain ⟨⟨⟨⟨⟨⟨⟨h1, h2⟩, h3⟩, h3'⟩, h4⟩, h5⟩, h6⟩, h7⟩ := h
    simp only [ev, vl]; rw [ev_pure C s h1 fr]
    cases vl C s fr with
    | none => rfl
    | some x =>
      simp only [Option.map_some, Option.bind_some]
      cases iterV x with
      | none => rfl
      | some xs =>
        simp only [Option.bind_some]
        have inner : ∀ (g1 : Fr) (ys : List PV), (compL (fun y g2 => (bindTg tg2 y (wipeF g2 own2)).bind fun g2 => (evc C c2 g2).bind fun c2 => if c2.1 = true then (ev C e c2.2).map fun r => ([r.1], r.2) else some ([], c2.2)) ys g1).map (·.1) =
            compG (fun y2 => (bindTg tg2 y2 (wipeF g1 own2)).bind fun g2 => (vlc C c2 g2).bind fun t2 => if t2 = true then (vl C e g2).map fun r => [r] else some []) ys ∧
            ∀ r, compL (fun y g2 => (bindTg tg2 y (wipeF g2 own2)).bind fun g2 => (evc C c2 g2).bind fun c2 => if c2.1 = true then (ev C e c2.2).map fun r => ([r.1], r.2) else some ([], c2.2)) ys g1 = some r → Off own2 r.2 g1 := fun g1 ys =>
          compL_pure (own := own2) (fr := g1) (fun y g hg => by
            rw [hg.wipe]
            cases hb : bindTg tg2 y (wipeF g1 own2) with
            | none => exact ⟨rfl, fun r z => by cases z⟩
            | some g2 =>
              have o1 : Off own2 g2 g1 := ((bindTg_off hb).mono (mem_all h6)).trans off_wipe
              simp only [Option.bind_some]
              rw [evc_pure C c2 h3' g2]
              cases vlc C c2 g2 with
              | none => exact ⟨rfl, fun r z => by cases z⟩
              | some t =>
                simp only [Option.map_some, Option.bind_some]
                by_cases ht : t = true
                · rw [if_pos ht, if_pos ht, ev_pure C e h4 g2]
                  cases vl C e g2 with
                  | none => exact ⟨rfl, fun r z => by cases z⟩
                  | some v => exact ⟨rfl, fun r z => by cases z; exact o1⟩
                · rw [if_neg ht, if_neg ht]
                  exact ⟨rfl, fun r z => by cases z; exact o1⟩) ys g1 .refl
        have key := compL_pure (own := own) (fr := fr) (f := fun x g => (bindTg tg x (wipeF g own)).bind fun g => (evc C c g).bind fun c =>
            if c.1 = true then (ev C s2 c.2).bind fun p2 => (iterV p2.1).bind fun ys =>
              compL (fun y g2 => (bindTg tg2 y (wipeF g2 own2)).bind fun g2 => (evc C c2 g2).bind fun c2 => if c2.1 = true then (ev C e c2.2).map fun r => ([r.1], r.2) else some ([], c2.2)) ys p2.2
            else some ([], c.2))
          (F := fun y => (bindTg tg y (wipeF fr own)).bind fun g => (vlc C c g).bind fun t => if t = true then (vl C s2 g).bind fun x2 => (iterV x2).bind fun ys =>
              compG (fun y2 => (bindTg tg2 y2 (wipeF g own2)).bind fun g2 => (vlc C c2 g2).bind fun t2 => if t2 = true then (vl C e g2).map fun r => [r] else some []) ys
            else some []) (fun y g hg => by
            rw [hg.wipe]
            cases hb : bindTg tg y (wipeF fr own) with
            | none => exact ⟨rfl, fun r z => by cases z⟩
            | some g1 =>
              have o1 : Off own g1 fr := ((bindTg_off hb).mono (mem_all h5)).trans off_wipe
              simp only [Option.bind_some]
              rw [evc_pure C c h2 g1]
              cases vlc C c g1 with
              | none => exact ⟨rfl, fun r z => by cases z⟩
              | some t =>
                simp only [Option.map_some, Option.bind_some]
                by_cases ht : t = true
                · rw [if_pos ht, if_pos ht, ev_pure C s2 h3 g1]
                  cases vl C s2 g1 with
                  | none => exact ⟨rfl, fun r z => by cases z⟩
                  | some v =>
                    simp only [Option.map_some, Option.bind_some]
                    cases iterV v with
                    | none => exact ⟨rfl, fun r z => by cases z⟩
                    | some ys =>
                      simp only [Option.bind_some]
                      obtain ⟨i1, i2⟩ := inner g1 ys
                      exact ⟨i1, fun r z => ((i2 r z).mono (mem_all h7)).trans o1⟩
                · rw [if_neg ht, if_neg ht]
                  exact ⟨rfl, fun r z => by cases z; exact o1⟩) xs fr .refl
        obtain ⟨k1, k2⟩ := key
        rw [← k1]
        cases hc : compL (fun x g => (bindTg tg x (wipeF g own)).bind fun g => (evc C c g).bind fun c =>
            if c.1 = true then (ev C s2 c.2).bind fun p2 => (iterV p2.1).bind fun ys =>
              compL (fun y g2 => (bindTg tg2 y (wipeF g2 own2)).bind fun g2 => (evc C c2 g2).bind fun c2 => if c2.1 = true then (ev C e c2.2).map fun r => ([r.1], r.2) else some ([], c2.2)) ys p2.2
            else some ([], c.2)) xs fr with
        | none => simp
        | some q =>
          simp only [Option.bind_some, Option.map_some]
          rw [(k2 q hc).back]
          split <;> rfl
  | .rg1 a, h, fr => by
    simp only [pureE] at h; simp only [ev, vl]; rw [ev_pure C a h fr]
    cases vl C a fr with
    | none => rfl
    | some x =>
      simp only [Option.map_some, Option.bind_some]
      cases intOf x with
      | none => rfl
      | some n => simp only [Option.bind_some, rgV]; split <;> rfl
  | .rg2 a b, h, fr => by
    simp only [pureE, Bool.and_eq_true] at h; simp only [ev, vl]; rw [ev_pure C a h.1 fr]
    cases vl C a fr with
    | none => rfl
    | some x =>
      simp only [Option.map_some, Option.bind_some]; rw [ev_pure C b h.2 fr]
      cases vl C b fr with
      | none => rfl
      | some y =>
        simp only [Option.map_some, Option.bind_some]
        cases intOf x with
        | none => rfl
        | some m =>
          cases intOf y with
          | none => rfl
          | some n => simp only [Option.bind_some, rgV2]; split <;> rfl
  | .rg3 a b c, h, fr => by
    simp only [pureE, Bool.and_eq_true] at h; simp only [ev, vl]; rw [ev_pure C a h.1.1 fr]
    cases vl C a fr with
    | none => rfl
    | some x =>
      simp only [Option.map_some, Option.bind_some]; rw [ev_pure C b h.1.2 fr]
      cases vl C b fr with
      | none => rfl
      | some y =>
        simp only [Option.map_some, Option.bind_some]; rw [ev_pure C c h.2 fr]
        cases vl C c fr with
        | none => rfl
        | some z =>
          simp only [Option.map_some, Option.bind_some]
          cases intOf x with
          | none => rfl
          | some m =>
            cases intOf y with
            | none => rfl
            | some n =>
              cases intOf z with
              | none => rfl
              | some d => simp only [Option.bind_some, rgV3]; split <;> rfl
  | .zip a b, h, fr => by
    simp only [pureE, Bool.and_eq_true] at h; simp only [ev, vl]; rw [ev_pure C a h.1 fr]
    cases vl C a fr with
    | none => rfl
    | some x =>
      simp only [Option.map_some, Option.bind_some]; rw [ev_pure C b h.2 fr]
      cases vl C b fr with
      | none => rfl
      | some y => simp only [Option.map_some, Option.bind_some]; cases x <;> cases y <;> rfl
  | .keys a, h, fr => by
    simp only [pureE] at h; simp only [ev, vl]; rw [ev_pure C a h fr]
    cases vl C a fr with
    | none => rfl
    | some x => simp only [Option.map_some, Option.bind_some]; cases x <;> rfl
  | .items a, h, fr => by
    simp only [pureE] at h; simp only [ev, vl]; rw [ev_pure C a h fr]
    cases vl C a fr with
    | none => rfl
    | some x => simp only [Option.map_some, Option.bind_some]; cases x <;> rfl
  | .meth m a es, h, fr => by
    simp only [pureE, Bool.and_eq_true] at h; simp only [ev, vl]; rw [ev_pure C a h.1 fr]
    cases vl C a fr with
    | none => rfl
    | some x =>
      simp only [Option.map_some, Option.bind_some]
      by_cases hr : recvOk m x = true
      · rw [if_pos hr, if_pos hr, evs_pure C es h.2 fr]
        cases vls C es fr <;> simp
      · rw [if_neg hr, if_neg hr]; rfl
  | .pop i, h, fr => by simp [pureE] at h
  | .popAt i k, h, fr => by simp [pureE] at h
theorem evs_pure (C : Calls) : ∀ (es : List Ex), pureL es = true → ∀ fr, evs C es fr = (vls C es fr).map fun v => (v, fr)
  | [], _, fr => by simp only [evs, vls, Option.map_some]
  | e :: es, h, fr => by
    simp only [pureL, Bool.and_eq_true] at h; simp only [evs, vls]; rw [ev_pure C e h.1 fr]
    cases vl C e fr with
    | none => rfl
    | some x =>
      simp only [Option.map_some, Option.bind_some]; rw [evs_pure C es h.2 fr]
      cases vls C es fr <;> rfl
theorem evo_pure (C : Calls) : ∀ (o : Option Ex), pureO o = true → ∀ fr, evo C o fr = (vlo C o fr).map fun v => (v, fr)
  | none, _, fr => by simp only [evo, vlo, Option.map_some]
  | some e, h, fr => by
    simp only [pureO] at h; simp only [evo, vlo]; rw [ev_pure C e h fr]
    cases vl C e fr with
    | none => rfl
    | some x => simp only [Option.map_some, Option.bind_some]; cases intOf x <;> rfl
theorem evc_pure (C : Calls) : ∀ (o : Option Ex), pureO o = true → ∀ fr, evc C o fr = (vlc C o fr).map fun v => (v, fr)
  | none, _, fr => by simp only [evc, vlc, Option.map_some]
  | some e, h, fr => by
    simp only [pureO] at h; simp only [evc, vlc]; rw [ev_pure C e h fr]
    cases vl C e fr with
    | none => rfl
    | some x => simp only [Option.map_some, Option.bind_some]
theorem vls_len (C : Calls) : ∀ {es : List Ex} {fr : Fr} {p : List PV}, vls C es fr = some p → p.length = es.length
  | [], fr, p, h => by simp only [vls] at h; cases h; rfl
  | e :: es, fr, p, h => by
    simp only [vls] at h
    obtain ⟨x, h1, h2⟩ := Option.bind_eq_some_iff.mp h
    obtain ⟨q, h3, h4⟩ := Option.map_eq_some_iff.mp h2
    subst h4
    simp [vls_len C h3]
theorem fill_none : ∀ {ms : List (Option Nat)} {p : List PV} {fr : Fr}, (ms.all (·.isNone)) = true → ms.length = p.length → fillM ms p fr = some p
  | [], [], _, _, _ => rfl
  | none :: ms, v :: vs, fr, h, hl => by
    unfold fillM
    rw [fill_none (by simpa using h) (by simpa using hl)]
    rfl
  | some _ :: ms, _, _, h, _ => by simp at h
  | [], _ :: _, _, _, hl => by simp at hl
  | none :: _, [], _, _, hl => by simp at hl
theorem put_none : ∀ {ms : List (Option Nat)} {os : List (Option PV)} {fr : Fr}, (ms.all (·.isNone)) = true → putM ms os fr = fr
  | [], _, _, _ => by simp [putM]
  | none :: ms, os, fr, h => by unfold putM; exact put_none (by simpa using h)
  | some _ :: ms, _, _, h => by simp at h
end
end EV

set_option linter.all false
set_option Elab.async false
set_option maxRecDepth 100000
/-! Ev31: plain reckoning: rows of numbers, comprehensions over ranges, statements, loops, calls. -/
namespace EV
/-! ### rows of numbers -/
def iL (l : List Int) : List PV := l.map PV.int
theorem iL_length (l : List Int) : (iL l).length = l.length := by simp [iL]
theorem iL_nil : iL [] = [] := rfl
theorem iL_cons (a : Int) (l : List Int) : iL (a :: l) = .int a :: iL l := rfl
theorem iL_app (a b : List Int) : iL a ++ iL b = iL (a ++ b) := by simp [iL]
theorem iL_inj {a b : List Int} (h : iL a = iL b) : a = b := by
  induction a generalizing b with
  | nil => cases b with
    | nil => rfl
    | cons => simp [iL] at h
  | cons x a ih => cases b with
    | nil => simp [iL] at h
    | cons y b =>
      simp only [iL, List.map_cons, List.cons.injEq, PV.int.injEq] at h
      rw [h.1, ih h.2]
theorem map_pvint {α : Type} (l : List α) (h : α → Int) : (l.map fun a => PV.int (h a)) = iL (l.map h) := by simp [iL, List.map_map, Function.comp_def]
/-- l[i], 0 beyond -/
def at' (l : List Int) (i : Nat) : Int := l.getD i 0
theorem at_get {l : List Int} {i : Nat} (h : i < l.length) : at' l i = l[i] := by simp [at', List.getD, h]
theorem ixOf_pos {i : Int} {n : Nat} (h0 : 0 ≤ i) (h1 : i.toNat < n) : ixOf i n = some i.toNat := by
  unfold ixOf
  rw [if_pos h0, if_pos (by omega)]
theorem ixOf_nat {i n : Nat} (h1 : i < n) : ixOf (i : Int) n = some i := by
  rw [ixOf_pos (by omega) (by omega)]; simp
theorem iL_get {l : List Int} {i : Nat} (h : i < l.length) : (iL l)[i]? = some (.int (at' l i)) := by simp [iL, h, at', List.getD]
theorem sub_tupI {l : List Int} {i : Int} (h0 : 0 ≤ i) (h1 : i.toNat < l.length) : subop (.tup (iL l)) (.int i) = some (.int (at' l i.toNat)) := by
  simp only [subop]
  rw [ixOf_pos h0 (by rw [iL_length]; exact h1)]
  exact iL_get h1
theorem sub_lstI {l : List Int} {i : Int} (h0 : 0 ≤ i) (h1 : i.toNat < l.length) : subop (.lst (iL l)) (.int i) = some (.int (at' l i.toNat)) := by
  simp only [subop]
  rw [ixOf_pos h0 (by rw [iL_length]; exact h1)]
  exact iL_get h1
theorem sub_tupG {l : List PV} {i : Int} (h0 : 0 ≤ i) (h1 : i.toNat < l.length) : subop (.tup l) (.int i) = some (l.getD i.toNat .non) := by
  simp only [subop]
  rw [ixOf_pos h0 h1]
  simp [List.getD, h1]
theorem sub_lstG {l : List PV} {i : Int} (h0 : 0 ≤ i) (h1 : i.toNat < l.length) : subop (.lst l) (.int i) = some (l.getD i.toNat .non) := by
  simp only [subop]
  rw [ixOf_pos h0 h1]
  simp [List.getD, h1]
theorem getD_map {α : Type} {l : List α} {f : α → PV} {i : Nat} {d : PV} {a : α} (h : l[i]? = some a) : (l.map f).getD i d = f a := by simp [List.getD, h]
theorem intsOf_iL : ∀ l, intsOf (iL l) = some l
  | [] => rfl
  | a :: l => by rw [iL_cons]; simp only [intsOf, intsOf_iL l, Option.map_some]
theorem blsOf_map {α : Type} (p : α → Bool) : ∀ l : List α, blsOf (l.map fun a => PV.bl (p a)) = some (l.map p)
  | [] => rfl
  | a :: l => by simp only [List.map_cons, blsOf, blsOf_map p l, Option.map_some]
theorem bi_sumL (l : List Int) : biop .sum [.lst (iL l)] = some (.int l.sum) := by simp only [biop, intsOf_iL, Option.map_some]
theorem bi_sumT (l : List Int) : biop .sum [.tup (iL l)] = some (.int l.sum) := by simp only [biop, intsOf_iL, Option.map_some]
theorem bi_allM {α : Type} (p : α → Bool) (l : List α) : biop .all [.lst (l.map fun a => PV.bl (p a))] = some (.bl (l.all p)) := by
  simp only [biop, blsOf_map, Option.map_some, List.all_map]; rfl
theorem bi_anyM {α : Type} (p : α → Bool) (l : List α) : biop .any [.lst (l.map fun a => PV.bl (p a))] = some (.bl (l.any p)) := by
  simp only [biop, blsOf_map, Option.map_some, List.any_map]; rfl
theorem bi_lenT (xs : List PV) : biop .len [.tup xs] = some (.int xs.length) := rfl
theorem bi_lenL (xs : List PV) : biop .len [.lst xs] = some (.int xs.length) := rfl
theorem bi_lenD (xs : List (PV × PV)) : biop .len [.dct xs] = some (.int xs.length) := rfl
theorem bi_lenS (xs : List Int) : biop .len [.scr xs] = some (.int xs.length) := rfl
theorem bi_tupL (xs : List PV) : biop .tuple [.lst xs] = some (.tup xs) := rfl
theorem bi_tupT (xs : List PV) : biop .tuple [.tup xs] = some (.tup xs) := rfl
theorem bi_lstT (xs : List PV) : biop .list [.tup xs] = some (.lst xs) := rfl
theorem bi_lstL (xs : List PV) : biop .list [.lst xs] = some (.lst xs) := rfl
theorem bi_intI (i : Int) : biop .int [.int i] = some (.int i) := rfl
theorem bi_absI (i : Int) : biop .abs [.int i] = some (.int i.natAbs) := rfl
theorem bi_min2I (i j : Int) : biop .min2 [.int i, .int j] = some (.int (min i j)) := by
  simp only [biop]; congr 2; rw [Int.min_def]; split <;> split <;> omega
theorem bi_max2I (i j : Int) : biop .max2 [.int i, .int j] = some (.int (max i j)) := by
  simp only [biop]; congr 2; rw [Int.max_def]; split <;> split <;> omega
/-- least, greatest of a row (0 of none) -/
def mnL : List Int → Int
  | [] => 0
  | x :: xs => xs.foldl min x
def mxL : List Int → Int
  | [] => 0
  | x :: xs => xs.foldl max x
theorem foldl_mn (xs : List Int) : ∀ x : Int, (iL xs).foldl (fun m y => if ltV y m then y else m) (.int x) = .int (xs.foldl min x) := by
  induction xs with
  | nil => intro x; rfl
  | cons y xs ih =>
    intro x
    rw [iL_cons, List.foldl_cons, List.foldl_cons, ← ih]
    congr 1
    simp only [ltV, decide_eq_true_eq]
    rw [Int.min_def]
    split <;> split <;> first | rfl | (congr 1; omega) | omega
theorem foldl_mx (xs : List Int) : ∀ x : Int, (iL xs).foldl (fun m y => if ltV m y then y else m) (.int x) = .int (xs.foldl max x) := by
  induction xs with
  | nil => intro x; rfl
  | cons y xs ih =>
    intro x
    rw [iL_cons, List.foldl_cons, List.foldl_cons, ← ih]
    congr 1
    simp only [ltV, decide_eq_true_eq]
    rw [Int.max_def]
    split <;> split <;> first | rfl | (congr 1; omega) | omega
theorem datOk_iL : ∀ l, datOkL (iL l) = true
  | [] => rfl
  | a :: l => by rw [iL_cons]; simp [datOkL, datOk, datOk_iL l]
theorem depth_iL : ∀ l, depthL (iL l) = 0
  | [] => rfl
  | a :: l => by rw [iL_cons]; simp [depthL, depth, depth_iL l]
theorem cmpOk_iL (l : List Int) : cmpOk (iL l) = true := by
  unfold cmpOk
  rw [datOk_iL, depth_iL]
  simp [iL, alike, isNon, isMut]
theorem bi_minL {l : List Int} (h : 0 < l.length) : biop .min [.lst (iL l)] = some (.int (mnL l)) := by
  simp only [biop, cmpOk_iL, if_true]
  cases l with
  | nil => simp at h
  | cons x xs =>
    rw [iL_cons]; simp only [minV, foldl_mn, mnL]
theorem bi_maxL {l : List Int} (h : 0 < l.length) : biop .max [.lst (iL l)] = some (.int (mxL l)) := by
  simp only [biop, cmpOk_iL, if_true]
  cases l with
  | nil => simp at h
  | cons x xs =>
    rw [iL_cons]; simp only [maxV, foldl_mx, mxL]
theorem cut_map {α β : Type} (f : α → β) (l : List α) (lo hi : Option Int) : cut (l.map f) lo hi = (cut l lo hi).map f := by
  simp [cut, List.map_take, List.map_drop]
theorem cut_iL (l : List Int) (lo hi : Option Int) : cut (iL l) lo hi = iL (cut l lo hi) := cut_map _ _ _ _
theorem cutop_tup (l : List Int) (lo hi : Option Int) : cutop (.tup (iL l)) lo hi = some (.tup (iL (cut l lo hi))) := by simp only [cutop, cut_iL]
theorem cutop_lst (l : List Int) (lo hi : Option Int) : cutop (.lst (iL l)) lo hi = some (.lst (iL (cut l lo hi))) := by simp only [cutop, cut_iL]
theorem cut_to {α : Type} (l : List α) {k : Int} (h : 0 ≤ k) : cut l none (some k) = l.take k.toNat := by
  unfold cut cutIx
  dsimp only
  rw [if_neg (by omega)]
  simp only [List.drop_zero, Nat.sub_zero]
  rw [List.take_eq_take_iff]
  omega
theorem cut_from {α : Type} (l : List α) {k : Int} (h : 0 ≤ k) : cut l (some k) none = l.drop k.toNat := by
  unfold cut cutIx
  dsimp only
  rw [if_neg (by omega)]
  by_cases hk : k.toNat ≤ l.length
  · rw [Nat.min_eq_left hk, List.take_of_length_le (by simp)]
  · rw [Nat.min_eq_right (by omega), List.drop_eq_nil_of_le (by omega)]
    simp; omega
theorem cut_mid {α : Type} (l : List α) {a b : Int} (h : 0 ≤ a) (h' : 0 ≤ b) : cut l (some a) (some b) = (l.drop a.toNat).take (b.toNat - a.toNat) := by
  unfold cut cutIx
  dsimp only
  rw [if_neg (by omega), if_neg (by omega)]
  by_cases hk : a.toNat ≤ l.length
  · rw [Nat.min_eq_left hk, List.take_eq_take_iff, List.length_drop]
    omega
  · have e1 : l.drop (min a.toNat l.length) = [] := List.drop_eq_nil_of_le (by omega)
    have e2 : l.drop a.toNat = [] := List.drop_eq_nil_of_le (by omega)
    rw [e1, e2]
    simp
theorem rev_iT (l : List Int) : revop (.tup (iL l)) = some (.tup (iL l.reverse)) := by simp [revop, iL]
theorem rev_iLs (l : List Int) : revop (.lst (iL l)) = some (.lst (iL l.reverse)) := by simp [revop, iL]
/-! ### operators -/
theorem op_addI (i j : Int) : binop .add (.int i) (.int j) = some (.int (i + j)) := rfl
theorem op_subI (i j : Int) : binop .sub (.int i) (.int j) = some (.int (i - j)) := rfl
theorem op_mulI {i j : Int} (h : okMul i j = true) : binop .mul (.int i) (.int j) = some (.int (i * j)) := by simp only [binop, h, if_true]
theorem okMulL {i j : Int} (h1 : -18446744073709551616 < i) (h2 : i < 18446744073709551616) : okMul i j = true := by
  unfold okMul; exact decide_eq_true (.inl ⟨by omega, by omega⟩)
theorem okMulR {i j : Int} (h1 : -18446744073709551616 < j) (h2 : j < 18446744073709551616) : okMul i j = true := by
  unfold okMul; exact decide_eq_true (.inr ⟨by omega, by omega⟩)
theorem op_fdivI {i j : Int} (h : 0 < j) (h' : j < 1073741824) : binop .fdiv (.int i) (.int j) = some (.int (i / j)) := by simp only [binop]; rw [if_pos ⟨h, h'⟩]
theorem op_modI {i j : Int} (h : 0 < j) : binop .mod (.int i) (.int j) = some (.int (i % j)) := by simp only [binop]; rw [if_pos h]
theorem op_addT {x y : List PV} (h : x.length + y.length ≤ 16777216) : binop .add (.tup x) (.tup y) = some (.tup (x ++ y)) := by simp only [binop]; rw [if_pos h]
theorem op_addLs {x y : List PV} (h : x.length + y.length ≤ 16777216) : binop .add (.lst x) (.lst y) = some (.lst (x ++ y)) := by simp only [binop]; rw [if_pos h]
theorem co_eqI (i j : Int) : cmpop .eq (.int i) (.int j) = some (.bl (decide (i = j))) := by simp [cmpop, eqOp, eqOk, datOk, depth, pyEq]
theorem co_neI (i j : Int) : cmpop .ne (.int i) (.int j) = some (.bl (decide (¬ i = j))) := by simp [cmpop, eqOp, eqOk, datOk, depth, pyEq]
theorem co_ltI (i j : Int) : cmpop .lt (.int i) (.int j) = some (.bl (decide (i < j))) := rfl
theorem co_leI (i j : Int) : cmpop .le (.int i) (.int j) = some (.bl (decide (i ≤ j))) := rfl
theorem co_gtI (i j : Int) : cmpop .gt (.int i) (.int j) = some (.bl (decide (j < i))) := rfl
theorem co_geI (i j : Int) : cmpop .ge (.int i) (.int j) = some (.bl (decide (j ≤ i))) := rfl
mutual
theorem pyEq_self : ∀ v : PV, datOk v = true → pyEq v v = true
  | .non, _ => rfl
  | .bl b, _ => by simp [pyEq]
  | .int i, _ => by simp [pyEq]
  | .str s, _ => by simp [pyEq]
  | .tup xs, h => by simp only [pyEq]; exact pyEqL_self xs (by simpa [datOk] using h)
  | .lst xs, h => by simp only [pyEq]; exact pyEqL_self xs (by simpa [datOk] using h)
  | .dct _, h => by simp [datOk] at h
  | .ins _ _, h => by simp [datOk] at h
  | .fn _, h => by simp [datOk] at h
  | .bm _ _, h => by simp [datOk] at h
  | .scr _, h => by simp [datOk] at h
theorem pyEqL_self : ∀ v : List PV, datOkL v = true → pyEqL v v = true
  | [], _ => rfl
  | x :: xs, h => by
    simp only [datOkL, Bool.and_eq_true] at h
    simp only [pyEqL, Bool.and_eq_true]
    exact ⟨pyEq_self x h.1, pyEqL_self xs h.2⟩
end
/-- data of depth at most 40 -/
def dat (v : PV) : Bool := datOk v && decide (depth v ≤ 40)
theorem eqOp_self {v : PV} (h : dat v = true) : eqOp v v = some true := by
  unfold dat at h
  simp only [Bool.and_eq_true, decide_eq_true_eq] at h
  unfold eqOp eqOk
  rw [h.1, if_pos (by simp; omega), pyEq_self v h.1]
theorem co_neV {v : PV} (h : dat v = true) : cmpop .ne v v = some (.bl false) := by simp only [cmpop, eqOp_self h, Option.map_some, Bool.not_true]
theorem co_eqV {v : PV} (h : dat v = true) : cmpop .eq v v = some (.bl true) := by simp only [cmpop, eqOp_self h, Option.map_some]
theorem dat_iT (l : List Int) : dat (.tup (iL l)) = true := by simp [dat, datOk, depth, datOk_iL, depth_iL]
theorem dat_iLs (l : List Int) : dat (.lst (iL l)) = true := by simp [dat, datOk, depth, datOk_iL, depth_iL]
theorem pyEqL_iL : ∀ a b, pyEqL (iL a) (iL b) = decide (a = b)
  | [], [] => rfl
  | [], _ :: _ => rfl
  | _ :: _, [] => rfl
  | x :: a, y :: b => by
    rw [iL_cons, iL_cons]
    simp only [pyEqL, pyEq, pyEqL_iL a b, List.cons.injEq]
    rw [← Bool.decide_and]
theorem co_eqLs (a b : List Int) : cmpop .eq (.lst (iL a)) (.lst (iL b)) = some (.bl (decide (a = b))) := by
  simp [cmpop, eqOp, eqOk, datOk, depth, pyEq, datOk_iL, depth_iL, pyEqL_iL]
theorem co_neLs (a b : List Int) : cmpop .ne (.lst (iL a)) (.lst (iL b)) = some (.bl (!decide (a = b))) := by
  simp [cmpop, eqOp, eqOk, datOk, depth, pyEq, datOk_iL, depth_iL, pyEqL_iL]
theorem co_eqTs (a b : List Int) : cmpop .eq (.tup (iL a)) (.tup (iL b)) = some (.bl (decide (a = b))) := by
  simp [cmpop, eqOp, eqOk, datOk, depth, pyEq, datOk_iL, depth_iL, pyEqL_iL]
theorem co_neTs (a b : List Int) : cmpop .ne (.tup (iL a)) (.tup (iL b)) = some (.bl (!decide (a = b))) := by
  simp [cmpop, eqOp, eqOk, datOk, depth, pyEq, datOk_iL, depth_iL, pyEqL_iL]
theorem co_isN (x : PV) : cmpop .is x .non = some (.bl (isNon x)) := by cases x <;> rfl
theorem co_isntN (x : PV) : cmpop .isnt x .non = some (.bl !(isNon x)) := by cases x <;> rfl
/-! ### comprehensions -/
/-- over 0, 1, .., n - 1 -/
def compR (n : Nat) (f : Nat → Option (List PV)) : Option (List PV) := compG f (List.range n)
theorem compG_map {α β : Type} (F : β → Option (List PV)) (h : α → β) : ∀ l : List α, compG F (l.map h) = compG (fun a => F (h a)) l
  | [] => rfl
  | a :: l => by simp only [List.map_cons, compG, compG_map F h l]
/-- over the items of a row -/
def compQ {α : Type} (l : List α) (f : α → Option (List PV)) : Option (List PV) := compG f l
theorem compG_cg {α : Type} {f g : α → Option (List PV)} : ∀ {l : List α}, (∀ a ∈ l, f a = g a) → compG f l = compG g l
  | [], _ => rfl
  | a :: l, h => by
    simp only [compG, h a List.mem_cons_self, compG_cg fun b hb => h b (List.mem_cons_of_mem _ hb)]
theorem compG_mem {α : Type} (F : α → Option (List PV)) (l : List α) [∀ a, Decidable (a ∈ l)] : compG F l = compQ l (fun a => if h : a ∈ l then F a else none) := compG_cg fun a ha => by rw [dif_pos ha]
theorem compR_dif (n : Nat) (F : Nat → Option (List PV)) : compG F (List.range n) = compR n (fun k => if h : k < n then F k else none) := compG_cg fun a ha => by rw [dif_pos (List.mem_range.mp ha)]
theorem compG_range (F : PV → Option (List PV)) (lo : Int) (n : Nat) : compG F (rangeL lo n 1) = compR n (fun k => if h : k < n then F (.int (lo + k)) else none) := by
  unfold rangeL
  rw [compG_map, compR_dif]
  simp
theorem compG_iL (F : PV → Option (List PV)) (l : List Int) : compG F (iL l) = compQ l (fun i => if h : i ∈ l then F (.int i) else none) := by
  rw [← compG_mem]; exact compG_map _ _ _
theorem compG_one {α : Type} (g : α → PV) : ∀ l : List α, compG (fun a => some [g a]) l = some (l.map g)
  | [] => rfl
  | a :: l => by simp [compG, compG_one g l]
theorem compG_if {α : Type} (c : α → Prop) [DecidablePred c] (g : α → PV) : ∀ l : List α, compG (fun a => if c a then some [g a] else some []) l = some ((l.filter fun a => decide (c a)).map g)
  | [] => rfl
  | a :: l => by
    unfold compG
    rw [compG_if c g l]
    by_cases h : c a
    · simp [h]
    · simp [h]
theorem compR_one (n : Nat) (g : Nat → PV) : compR n (fun a => if h : a < n then some [g a] else none) = some ((List.range n).map g) := by rw [← compR_dif]; exact compG_one g _
theorem compQ_one {α : Type} (l : List α) [∀ a, Decidable (a ∈ l)] (g : α → PV) : compQ l (fun a => if h : a ∈ l then some [g a] else none) = some (l.map g) := by rw [← compG_mem]; exact compG_one g _
theorem compQ_if {α : Type} (l : List α) [∀ a, Decidable (a ∈ l)] (c : α → Prop) [DecidablePred c] (g : α → PV) : compQ l (fun a => if h : a ∈ l then (if c a then some [g a] else some []) else none) = some ((l.filter fun a => decide (c a)).map g) := by rw [← compG_mem]; exact compG_if c g _
theorem compQ_nil {α : Type} (l : List α) [∀ a, Decidable (a ∈ l)] : compQ l (fun a => if h : a ∈ l then some [] else none) = some [] := by
  rw [← compG_mem]
  have : ∀ l : List α, compG (fun _ : α => (some [] : Option (List PV))) l = some [] := fun l => by
    induction l with
    | nil => rfl
    | cons a l ih => simp [compG, ih]
  exact this l
theorem compG_memC (F : PV → Option (List PV)) (l : List PV) : compG F l = compQ l (fun a => @dite _ (a ∈ l) (Classical.propDecidable _) (fun _ => F a) (fun _ => none)) := @compG_mem _ F l fun _ => Classical.propDecidable _
theorem compR_if (n : Nat) (c : Nat → Prop) [DecidablePred c] (g : Nat → PV) : compR n (fun a => if h : a < n then (if c a then some [g a] else some []) else none) = some (((List.range n).filter fun a => decide (c a)).map g) := by rw [← compR_dif]; exact compG_if c g _
theorem iter_lst (xs : List PV) : iterV (.lst xs) = some xs := rfl
theorem iter_tup (xs : List PV) : iterV (.tup xs) = some xs := rfl
/-- range(n), n a place -/
theorem rg_ok {n : Int} (h1 : -2305843009213693952 ≤ n) (h2 : n ≤ 16777216) : (okRg n && okN n.toNat) = true := by
  unfold okRg okN
  simp only [Bool.and_eq_true, decide_eq_true_eq]
  have : line = 16777216 := rfl
  omega
theorem rg2_ok {m n : Int} (h1 : -2305843009213693952 ≤ m) (h2 : m < 2305843009213693952) (h3 : -2305843009213693952 ≤ n) (h4 : n < 2305843009213693952) (h5 : n - m ≤ 16777216) : (okRg m && okRg n && okN (n - m).toNat) = true := by
  unfold okRg okN
  simp only [Bool.and_eq_true, decide_eq_true_eq]
  have : line = 16777216 := rfl
  omega
theorem rgV_ok {n : Int} (h1 : -2305843009213693952 ≤ n) (h2 : n ≤ 16777216) : rgV n = some (.lst (rangeL 0 n.toNat 1)) := if_pos (rg_ok h1 h2)
theorem rgV2_ok {m n : Int} (h1 : -2305843009213693952 ≤ m) (h2 : m < 2305843009213693952) (h3 : -2305843009213693952 ≤ n) (h4 : n < 2305843009213693952) (h5 : n - m ≤ 16777216) : rgV2 m n = some (.lst (rangeL m (n - m).toNat 1)) := if_pos (rg2_ok h1 h2 h3 h4 h5)
theorem zipV_T (xs ys : List PV) : zipV (.tup xs) (.tup ys) = some (.lst (zipL xs ys)) := rfl
theorem zipV_L (xs ys : List PV) : zipV (.lst xs) (.lst ys) = some (.lst (zipL xs ys)) := rfl
theorem ite_tt {α : Type} {b : Bool} {x y : α} (h : b = true) : (if b = true then x else y) = x := if_pos h
theorem zip_iL : ∀ a b : List Int, zipL (iL a) (iL b) = (List.range (min a.length b.length)).map fun k => PV.tup [.int (at' a k), .int (at' b k)]
  | [], b => by simp [iL, zipL]
  | _ :: _, [] => by simp [iL, zipL]
  | x :: a, y :: b => by
    rw [iL_cons, iL_cons]
    simp only [zipL, zip_iL a b, List.length_cons]
    rw [show min (a.length + 1) (b.length + 1) = min a.length b.length + 1 by omega, List.range_succ_eq_map]
    simp [at', List.getD]
theorem compG_rangeMap (F : PV → Option (List PV)) (n : Nat) (h : Nat → PV) : compG F ((List.range n).map h) = compR n (fun k => if q : k < n then F (h k) else none) := by rw [← compR_dif]; exact compG_map _ _ _
theorem compG_append {α : Type} (F : α → Option (List PV)) : ∀ a b : List α, compG F (a ++ b) = (compG F a).bind fun x => (compG F b).map (x ++ ·)
  | [], b => by simp [compG]
  | x :: a, b => by
    simp only [List.cons_append, compG, compG_append F a b]
    cases F x <;> simp
    cases compG F a <;> simp
    cases compG F b <;> simp
/-! ### statements -/
section
variable {C : Calls} {e c k s : Ex} {es : List Ex} {ss a b : List Sm} {fr : Fr} {i : Nat} {is : List Nat} {bs : List Bool} {o : Bo} {tg : Tg}
theorem es_nil : evSs C [] fr = some (.nx, fr) := by simp only [evSs]
theorem es_cons {st : Sm} : evSs C (st :: ss) fr = (evS C st fr).bind fun p => match p.1 with
    | .nx => evSs C ss p.2
    | .bk => some (.bk, p.2)
    | .ct => some (.ct, p.2)
    | .rt v => some (.rt v, p.2) := by simp only [evSs]; try rfl
theorem es_nx {st : Sm} {fr' : Fr} (h : evS C st fr = some (.nx, fr')) : evSs C (st :: ss) fr = evSs C ss fr' := by rw [es_cons, h]; rfl
theorem es_rt {st : Sm} {fr' : Fr} {v : PV} (h : evS C st fr = some (.rt v, fr')) : evSs C (st :: ss) fr = some (.rt v, fr') := by rw [es_cons, h]; rfl
theorem es_ct {st : Sm} {fr' : Fr} (h : evS C st fr = some (.ct, fr')) : evSs C (st :: ss) fr = some (.ct, fr') := by rw [es_cons, h]; rfl
theorem es_bk {st : Sm} {fr' : Fr} (h : evS C st fr = some (.bk, fr')) : evSs C (st :: ss) fr = some (.bk, fr') := by rw [es_cons, h]; rfl
variable {v w x : PV}
theorem s_asg (p : pureE e = true) (h : vl C e fr = some v) : evS C (.asg i e) fr = some (.nx, fr.set i (some v)) := by simp only [evS, ev_pure C e p, h, Option.map_some]
theorem s_asgM (p : pureE e = true) (h : vl C e fr = some v) (m : isMut v = true) : evS C (.asgM i e) fr = some (.nx, fr.set i (some v)) := by simp only [evS, ev_pure C e p, h, Option.map_some, Option.bind_some, m, if_true]
theorem s_ret (p : pureE e = true) (h : vl C e fr = some v) : evS C (.ret e) fr = some (.rt v, fr) := by simp only [evS, ev_pure C e p, h, Option.map_some]
theorem s_retM (h : getS fr i = some v) : evS C (.retM i) fr = some (.rt v, fr.set i none) := by simp only [evS, h, Option.map_some]
theorem s_par {vs : List PV} (p : pureL es = true) (h : vls C es fr = some vs) (m : parChk bs vs = true) : evS C (.par is bs es) fr = some (.nx, setAll is vs fr) := by simp only [evS, evs_pure C es p, h, Option.map_some, Option.bind_some, m, if_true]
theorem s_unp {vs : List PV} (p : pureE e = true) (h : vl C e fr = some (.tup vs)) (m : vs.length = is.length) : evS C (.unp is e) fr = some (.nx, setAll is vs fr) := by simp only [evS, ev_pure C e p, h, Option.map_some, Option.bind_some, m, if_true]
theorem s_aug (p : pureE e = true) (hx : getS fr i = some x) (h : vl C e fr = some v) (m : augop o x v = some w) : evS C (.aug i o e) fr = some (.nx, fr.set i (some w)) := by simp only [evS, ev_pure C e p, hx, h, Option.map_some, Option.bind_some, m]
theorem s_app (p : pureE e = true) (hx : getS fr i = some x) (h : vl C e fr = some v) (m : appV x v = some w) : evS C (.app i e) fr = some (.nx, fr.set i (some w)) := by simp only [evS, ev_pure C e p, hx, h, Option.map_some, Option.bind_some, m]
theorem s_setix {kv : PV} (p : pureE e = true) (pk : pureE k = true) (hx : getS fr i = some x) (h : vl C e fr = some v) (hk : vl C k fr = some kv) (m : setIx x kv v = some w) : evS C (.setix i k e) fr = some (.nx, fr.set i (some w)) := by
  simp only [evS, ev_pure C e p, ev_pure C k pk, hx, h, hk, Option.map_some, Option.bind_some, m]
theorem s_augix {kv y z : PV} (p : pureE e = true) (pk : pureE k = true) (hx : getS fr i = some x) (hk : vl C k fr = some kv) (hs : subop x kv = some y) (h : vl C e fr = some v) (ho : augop o y v = some z) (m : setIx x kv z = some w) : evS C (.augix i k o e) fr = some (.nx, fr.set i (some w)) := by
  simp only [evS, ev_pure C e p, ev_pure C k pk, hx, h, hk, hs, ho, Option.map_some, Option.bind_some, m]
theorem s_if (p : pureE c = true) {t : Bool} (h : vl C c fr = some (.bl t)) : evS C (.ifs c a b) fr = if t = true then evSs C a fr else evSs C b fr := by simp only [evS, ev_pure C c p, h, Option.map_some, Option.bind_some, blOf]
theorem s_ifT (p : pureE c = true) (h : vl C c fr = some (.bl true)) : evS C (.ifs c a b) fr = evSs C a fr := by rw [s_if p h]; rfl
theorem s_ifF (p : pureE c = true) (h : vl C c fr = some (.bl false)) : evS C (.ifs c a b) fr = evSs C b fr := by rw [s_if p h]; rfl
theorem s_for {xs : List PV} (p : pureE s = true) (h : vl C s fr = some x) (hx : iterV x = some xs) : evS C (.for_ tg s b) fr = forL (fun x g => (bindTg tg x g).bind fun g => evSs C b g) xs fr := by
  simp only [evS, ev_pure C s p, h, Option.map_some, Option.bind_some, hx]
theorem s_pass : evS C .pass fr = some (.nx, fr) := by simp only [evS]
end
/-! ### loops -/
theorem forL_fold {S : Type} {f : PV → Fr → Option (Fl × Fr)} (φ : S → Fr) (g : S → PV → S) : ∀ (xs : List PV) (s : S), (∀ s x, x ∈ xs → f x (φ s) = some (.nx, φ (g s x))) → forL f xs (φ s) = some (.nx, φ (xs.foldl g s))
  | [], s, _ => rfl
  | x :: xs, s, h => by
    unfold forL
    rw [h s x List.mem_cons_self]
    exact forL_fold φ g xs (g s x) fun s y hy => h s y (List.mem_cons_of_mem _ hy)
/-- over the places 0 .. n-1 of a row h 0, h 1, ..: what stands behind k turns -/
theorem forL_at {f : PV → Fr → Option (Fl × Fr)} (h : Nat → PV) (Φ : Nat → Fr) (n : Nat) (st : ∀ k, k < n → ∃ fl, (fl = .nx ∨ fl = .ct) ∧ f (h k) (Φ k) = some (fl, Φ (k + 1))) : forL f ((List.range n).map h) (Φ 0) = some (.nx, Φ n) := by
  have : ∀ m k, k + m = n → forL f (((List.range n).map h).drop k) (Φ k) = some (.nx, Φ n) := by
    intro m
    induction m with
    | zero =>
      intro k hk
      have : k = n := by omega
      subst this
      rw [List.drop_eq_nil_of_le (by simp)]
      rfl
    | succ m ih =>
      intro k hk
      have hlt : k < ((List.range n).map h).length := by simp; omega
      rw [List.drop_eq_getElem_cons hlt]
      obtain ⟨fl, hfl, e⟩ := st k (by omega)
      unfold forL
      simp only [List.getElem_map, List.getElem_range]
      rw [e]
      rcases hfl with rfl | rfl <;> exact ih (k + 1) (by omega)
  exact this n 0 (by omega)
/-- .. or a value is returned -/
theorem forL_ret {f : PV → Fr → Option (Fl × Fr)} {I : Nat → Fr → Prop} {R : PV → Fr → Prop} (h : Nat → PV) (n : Nat) {fr : Fr} (h0 : I 0 fr)
    (st : ∀ k fr, k < n → I k fr → (∃ fl fr', (fl = .nx ∨ fl = .ct) ∧ f (h k) fr = some (fl, fr') ∧ I (k + 1) fr') ∨ (∃ v fr', f (h k) fr = some (.rt v, fr') ∧ R v fr')) :
    (∃ fr', forL f ((List.range n).map h) fr = some (.nx, fr') ∧ I n fr') ∨ ∃ v fr', forL f ((List.range n).map h) fr = some (.rt v, fr') ∧ R v fr' := by
  have : ∀ m k fr, k + m = n → I k fr → (∃ fr', forL f (((List.range n).map h).drop k) fr = some (.nx, fr') ∧ I n fr') ∨ ∃ v fr', forL f (((List.range n).map h).drop k) fr = some (.rt v, fr') ∧ R v fr' := by
    intro m
    induction m with
    | zero =>
      intro k fr hk hI
      have : k = n := by omega
      subst this
      rw [List.drop_eq_nil_of_le (by simp)]
      exact .inl ⟨fr, rfl, hI⟩
    | succ m ih =>
      intro k fr hk hI
      have hlt : k < ((List.range n).map h).length := by simp; omega
      rw [List.drop_eq_getElem_cons hlt]
      unfold forL
      simp only [List.getElem_map, List.getElem_range]
      rcases st k fr (by omega) hI with ⟨fl, fr', hfl, e, hI'⟩ | ⟨v, fr', e, hR⟩
      · rw [e]
        rcases hfl with rfl | rfl <;> exact ih (k + 1) fr' (by omega) hI'
      · rw [e]
        exact .inr ⟨v, fr', rfl, hR⟩
  exact this n 0 fr (by omega) h0
/-- an invariant alone -/
theorem forL_inv {f : PV → Fr → Option (Fl × Fr)} {I : Nat → Fr → Prop} (h : Nat → PV) (n : Nat) {fr : Fr} (h0 : I 0 fr)
    (st : ∀ k fr, k < n → I k fr → ∃ fr', f (h k) fr = some (.nx, fr') ∧ I (k + 1) fr') : ∃ fr', forL f ((List.range n).map h) fr = some (.nx, fr') ∧ I n fr' := by
  rcases forL_ret (R := fun _ _ => False) h n h0 (fun k fr hk hI => .inl (let ⟨fr', a, b⟩ := st k fr hk hI; ⟨_, fr', .inl rfl, a, b⟩)) with h | ⟨_, _, _, h⟩
  · exact h
  · exact h.elim
theorem range_map (lo : Int) (n : Nat) (c : Int) : rangeL lo n c = (List.range n).map fun (k : Nat) => PV.int (lo + k * c) := rfl
theorem iL_map (l : List Int) : iL l = (List.range l.length).map fun k => PV.int (at' l k) := by
  apply List.ext_getElem?
  intro i
  by_cases h : i < l.length
  · rw [iL_get h]; simp [h]
  · rw [List.getElem?_eq_none (by rw [iL_length]; omega), List.getElem?_eq_none (by simp; omega)]
/-! ### calls -/
theorem call_rt {P : List Fn} {d f : Nat} {F : Fn} {args : List PV} {v : PV} {fr' : Fr} (hF : P[f]? = some F) (hn : args.length = F.na) (h : evSs (evCall P d) F.body (args.map some ++ List.replicate (F.ns - F.na) none) = some (.rt v, fr')) :
    evCall P (d + 1) f args = some (v, F.mps.map fun i => getS fr' i) := by
  show (match P[f]? with | some F => runFn (evCall P d) F args | none => none) = _
  rw [hF]
  simp only [runFn, if_pos hn, h, Option.bind_some]
theorem call_nx {P : List Fn} {d f : Nat} {F : Fn} {args : List PV} {fr' : Fr} (hF : P[f]? = some F) (hn : args.length = F.na) (h : evSs (evCall P d) F.body (args.map some ++ List.replicate (F.ns - F.na) none) = some (.nx, fr')) :
    evCall P (d + 1) f args = some (.non, F.mps.map fun i => getS fr' i) := by
  show (match P[f]? with | some F => runFn (evCall P d) F args | none => none) = _
  rw [hF]
  simp only [runFn, if_pos hn, h, Option.bind_some]
end EV

set_option linter.all false
set_option Elab.async false
set_option maxRecDepth 100000
/-! Ev32: the reckoning tactic. -/
namespace EV
theorem getS_z {x : Option PV} {l : Fr} : getS (x :: l) 0 = x := by cases x <;> rfl
theorem getS_s {x : Option PV} {l : Fr} {n : Nat} : getS (x :: l) (n + 1) = getS l n := by simp [getS]
theorem ite_some {α : Type} {p : Prop} [Decidable p] {a b : α} : (if p then some a else some b) = some (if p then a else b) := by split <;> rfl
theorem ite_bl {p : Prop} [Decidable p] {a b : Bool} : (if p then PV.bl a else PV.bl b) = PV.bl (if p then a else b) := by split <;> rfl
theorem ite_int {p : Prop} [Decidable p] {a b : Int} : (if p then PV.int a else PV.int b) = PV.int (if p then a else b) := by split <;> rfl
theorem ite_sbl {p : Prop} [Decidable p] {a b : Bool} : (if p then some (PV.bl a) else some (PV.bl b)) = some (PV.bl (if p then a else b)) := by split <;> rfl
theorem ite_sint {p : Prop} [Decidable p] {a b : Int} : (if p then some (PV.int a) else some (PV.int b)) = some (PV.int (if p then a else b)) := by split <;> rfl
theorem map_int0 (l : List Int) : l.map PV.int = iL l := rfl
theorem nat_z (k : Nat) : (0 : Int) + (k : Int) = (k : Int) := by omega
theorem op_mulIL {i j : Int} (h1 : -18446744073709551616 < i) (h2 : i < 18446744073709551616) : binop .mul (.int i) (.int j) = some (.int (i * j)) := op_mulI (okMulL h1 h2)
theorem op_mulIR {i j : Int} (h1 : -18446744073709551616 < j) (h2 : j < 18446744073709551616) : binop .mul (.int i) (.int j) = some (.int (i * j)) := op_mulI (okMulR h1 h2)
theorem min_cast (a b : Nat) : min (a : Int) (b : Int) = ((min a b : Nat) : Int) := by omega
theorem max_cast (a b : Nat) : max (a : Int) (b : Int) = ((max a b : Nat) : Int) := by omega
theorem max1_cast (a : Nat) : max (1 : Int) (a : Int) = ((max 1 a : Nat) : Int) := by omega
theorem toNat_1 (a : Nat) : ((a : Int) + 1).toNat = a + 1 := by omega
theorem toNat_1' (a : Nat) : (1 + (a : Int)).toNat = 1 + a := by omega
theorem toNat_a (a b : Nat) : ((a : Int) + (b : Int)).toNat = a + b := by omega
theorem toNat_s (a b : Nat) : ((a : Int) - (b : Int)).toNat = a - b := by omega
theorem toNat_m1 (a : Nat) : ((a : Int) - 1).toNat = a - 1 := by omega
theorem toNat_0 : Int.toNat 0 = 0 := rfl
theorem half_cast (a : Nat) : ((a : Int) + 1) / 2 = (((a + 1) / 2 : Nat) : Int) := by omega
theorem iL_cons' (a : Int) (l : List Int) : PV.int a :: iL l = iL (a :: l) := rfl
theorem iL_one (a : Int) : [PV.int a] = iL [a] := rfl
theorem co_eqT0 (a : List Int) : cmpop .eq (.tup (iL a)) (.tup []) = some (.bl (decide (a = []))) := co_eqTs a []
theorem co_neT0 (a : List Int) : cmpop .ne (.tup (iL a)) (.tup []) = some (.bl (!decide (a = []))) := co_neTs a []
theorem co_eqL0 (a : List Int) : cmpop .eq (.lst (iL a)) (.lst []) = some (.bl (decide (a = []))) := co_eqLs a []
theorem co_neL0 (a : List Int) : cmpop .ne (.lst (iL a)) (.lst []) = some (.bl (!decide (a = []))) := co_neLs a []
theorem pchk_nil : parChk [] [] = true := rfl
/-! ### what a suite does: a row of statements ends so that Q -/
structure W (C : Calls) (ss : List Sm) (fr : Fr) (Q : Fl → Fr → Prop) : Prop where
  ex : ∃ fl fr', evSs C ss fr = some (fl, fr') ∧ Q fl fr'
/-- .. then the statements behind -/
def Nx (C : Calls) (ss : List Sm) (Q : Fl → Fr → Prop) : Fl → Fr → Prop
  | .nx, fr => W C ss fr Q
  | fl, fr => Q fl fr
/-- a turn's end -/
def Tu (I : Fr → Prop) (C : Calls) (ss : List Sm) (Q : Fl → Fr → Prop) : Fl → Fr → Prop
  | .nx, fr => I fr
  | .ct, fr => I fr
  | .bk, fr => W C ss fr Q
  | .rt v, fr => Q (.rt v) fr
section
variable {C : Calls} {e c k s : Ex} {es : List Ex} {ss a b : List Sm} {fr : Fr} {i : Nat} {is : List Nat} {bs : List Bool} {o : Bo} {tg : Tg} {Q : Fl → Fr → Prop}
theorem Nx_rt {v : PV} : Nx C ss Q (.rt v) fr = Q (.rt v) fr := rfl
theorem Nx_nx : Nx C ss Q .nx fr = W C ss fr Q := rfl
theorem Tu_rt {I : Fr → Prop} {v : PV} : Tu I C ss Q (.rt v) fr = Q (.rt v) fr := rfl
theorem Tu_nx {I : Fr → Prop} : Tu I C ss Q .nx fr = I fr := rfl
theorem W.of {fl : Fl} {fr' : Fr} (h : evSs C ss fr = some (fl, fr')) (q : Q fl fr') : W C ss fr Q := ⟨⟨fl, fr', h, q⟩⟩
theorem W.imp {Q' : Fl → Fr → Prop} (h : W C ss fr Q) (q : ∀ fl fr', Q fl fr' → Q' fl fr') : W C ss fr Q' := let ⟨⟨fl, fr', e, z⟩⟩ := h; ⟨⟨fl, fr', e, q _ _ z⟩⟩
theorem w_nil (h : Q .nx fr) : W C [] fr Q := ⟨⟨.nx, fr, by simp only [evSs], h⟩⟩
theorem w_one {st : Sm} {fr' : Fr} (e : evS C st fr = some (.nx, fr')) (h : W C ss fr' Q) : W C (st :: ss) fr Q := let ⟨⟨fl, f2, e2, q⟩⟩ := h; ⟨⟨fl, f2, (es_nx e).trans e2, q⟩⟩
theorem w_asg (p : pureE e = true) (h : ∃ v, vl C e fr = some v ∧ W C ss (fr.set i (some v)) Q) : W C (.asg i e :: ss) fr Q := let ⟨_, h1, h2⟩ := h; w_one (s_asg p h1) h2
theorem w_asgM (p : pureE e = true) (h : ∃ v, vl C e fr = some v ∧ isMut v = true ∧ W C ss (fr.set i (some v)) Q) : W C (.asgM i e :: ss) fr Q := let ⟨_, h1, h3, h2⟩ := h; w_one (s_asgM p h1 h3) h2
theorem w_par (p : pureL es = true) (h : ∃ vs, vls C es fr = some vs ∧ parChk bs vs = true ∧ W C ss (setAll is vs fr) Q) : W C (.par is bs es :: ss) fr Q := let ⟨_, h1, h3, h2⟩ := h; w_one (s_par p h1 h3) h2
theorem w_unp (p : pureE e = true) (h : ∃ vs, vl C e fr = some (.tup vs) ∧ vs.length = is.length ∧ W C ss (setAll is vs fr) Q) : W C (.unp is e :: ss) fr Q := let ⟨_, h1, h3, h2⟩ := h; w_one (s_unp p h1 h3) h2
theorem w_aug (p : pureE e = true) (h : ∃ x, getS fr i = some x ∧ ∃ v, vl C e fr = some v ∧ ∃ w, augop o x v = some w ∧ W C ss (fr.set i (some w)) Q) : W C (.aug i o e :: ss) fr Q := let ⟨_, h1, _, h2, _, h3, h4⟩ := h; w_one (s_aug p h1 h2 h3) h4
theorem w_app (p : pureE e = true) (h : ∃ x, getS fr i = some x ∧ ∃ v, vl C e fr = some v ∧ ∃ w, appV x v = some w ∧ W C ss (fr.set i (some w)) Q) : W C (.app i e :: ss) fr Q := let ⟨_, h1, _, h2, _, h3, h4⟩ := h; w_one (s_app p h1 h2 h3) h4
theorem w_setix (p : pureE e = true) (pk : pureE k = true) (h : ∃ x, getS fr i = some x ∧ ∃ v, vl C e fr = some v ∧ ∃ kv, vl C k fr = some kv ∧ ∃ w, setIx x kv v = some w ∧ W C ss (fr.set i (some w)) Q) : W C (.setix i k e :: ss) fr Q :=
  let ⟨_, h1, _, h2, _, h3, _, h4, h5⟩ := h; w_one (s_setix p pk h1 h2 h3 h4) h5
theorem w_ret (p : pureE e = true) (h : ∃ v, vl C e fr = some v ∧ Q (.rt v) fr) : W C (.ret e :: ss) fr Q := let ⟨_, h1, h2⟩ := h; ⟨⟨_, _, es_rt (s_ret p h1), h2⟩⟩
theorem w_retM (h : ∃ v, getS fr i = some v ∧ Q (.rt v) (fr.set i none)) : W C (.retM i :: ss) fr Q := let ⟨_, h1, h2⟩ := h; ⟨⟨_, _, es_rt (s_retM h1), h2⟩⟩
theorem w_pass (h : W C ss fr Q) : W C (.pass :: ss) fr Q := w_one s_pass h
theorem w_cnt (h : Q .ct fr) : W C (.cnt :: ss) fr Q := ⟨⟨_, _, es_ct (by simp only [evS]), h⟩⟩
theorem w_brk (h : Q .bk fr) : W C (.brk :: ss) fr Q := ⟨⟨_, _, es_bk (by simp only [evS]), h⟩⟩
theorem w_seq {st : Sm} (h : ∃ fl fr', evS C st fr = some (fl, fr') ∧ Nx C ss Q fl fr') : W C (st :: ss) fr Q := by
  obtain ⟨fl, fr', e, q⟩ := h
  cases fl with
  | nx => exact w_one e q
  | bk => exact ⟨⟨_, _, es_bk e, q⟩⟩
  | ct => exact ⟨⟨_, _, es_ct e, q⟩⟩
  | rt v => exact ⟨⟨_, _, es_rt e, q⟩⟩
theorem w_if (p : pureE c = true) (h : ∃ t, vl C c fr = some (.bl t) ∧ (t = true → W C a fr (Nx C ss Q)) ∧ (t = false → W C b fr (Nx C ss Q))) : W C (.ifs c a b :: ss) fr Q := by
  obtain ⟨t, h1, h2, h3⟩ := h
  refine w_seq ?_
  rw [s_if p h1]
  cases t with
  | true => exact (h2 rfl).ex
  | false => exact (h3 rfl).ex
/-- if c: .., never gone into -/
theorem w_ifF (p : pureE c = true) (h : vl C c fr = some (.bl false)) (k : W C ss fr Q) : W C (.ifs c a [] :: ss) fr Q := w_if p ⟨false, h, fun z => (nomatch z), fun _ => w_nil k⟩
theorem w_for {I : Nat → Fr → Prop} (h : Nat → PV) (n : Nat) {x : PV} (p : pureE s = true) (hs : vl C s fr = some x) (hx : iterV x = some ((List.range n).map h)) (h0 : I 0 fr)
    (st : ∀ k fr, k < n → I k fr → ∃ g, bindTg tg (h k) fr = some g ∧ W C b g (Tu (I (k + 1)) C ss Q)) (k : ∀ fr, I n fr → W C ss fr Q) : W C (.for_ tg s b :: ss) fr Q := by
  refine w_seq ?_
  rw [s_for p hs hx]
  have : ∀ m k0 fr, k0 + m = n → I k0 fr → ∃ fl fr', forL (fun x g => (bindTg tg x g).bind fun g => evSs C b g) (((List.range n).map h).drop k0) fr = some (fl, fr') ∧ Nx C ss Q fl fr' := by
    intro m
    induction m with
    | zero =>
      intro k0 fr hk hI
      have : k0 = n := by omega
      subst this
      rw [List.drop_eq_nil_of_le (by simp)]
      exact ⟨.nx, fr, rfl, k fr hI⟩
    | succ m ih =>
      intro k0 fr hk hI
      have hlt : k0 < ((List.range n).map h).length := by simp; omega
      rw [List.drop_eq_getElem_cons hlt]
      obtain ⟨g, e1, ⟨fl, fr', e2, q⟩⟩ := st k0 fr (by omega) hI
      unfold forL
      simp only [List.getElem_map, List.getElem_range]
      rw [e1]
      simp only [Option.bind_some]
      rw [e2]
      simp only [Option.bind_some]
      cases fl with
      | nx => exact ih (k0 + 1) fr' (by omega) q
      | ct => exact ih (k0 + 1) fr' (by omega) q
      | bk => exact ⟨.nx, fr', rfl, q⟩
      | rt v => exact ⟨.rt v, fr', rfl, q⟩
  exact this n 0 fr (by omega) h0
theorem range0 (n : Nat) : rangeL 0 n 1 = (List.range n).map fun (k : Nat) => PV.int k := by simp [rangeL]
theorem range1 (lo : Int) (n : Nat) : rangeL lo n 1 = (List.range n).map fun (k : Nat) => PV.int (lo + k) := by simp [rangeL]
/-- for i in range(n) -/
theorem w_rg {I : Nat → Fr → Prop} (n : Nat) (p : pureE s = true) (hs : vl C s fr = some (.lst (rangeL 0 n 1))) (h0 : I 0 fr)
    (st : ∀ k fr, k < n → I k fr → ∃ g, bindTg tg (.int (k : Int)) fr = some g ∧ W C b g (Tu (I (k + 1)) C ss Q)) (k : ∀ fr, I n fr → W C ss fr Q) : W C (.for_ tg s b :: ss) fr Q :=
  w_for _ n p hs (by rw [range0]; rfl) h0 st k
theorem w_rg2 {I : Nat → Fr → Prop} (lo : Int) (n : Nat) (p : pureE s = true) (hs : vl C s fr = some (.lst (rangeL lo n 1))) (h0 : I 0 fr)
    (st : ∀ k fr, k < n → I k fr → ∃ g, bindTg tg (.int (lo + (k : Int))) fr = some g ∧ W C b g (Tu (I (k + 1)) C ss Q)) (k : ∀ fr, I n fr → W C ss fr Q) : W C (.for_ tg s b :: ss) fr Q :=
  w_for _ n p hs (by rw [range1]; rfl) h0 st k
end
/-- a call of a def that changes nothing -/
theorem call_w {P : List Fn} {d f : Nat} {F : Fn} {args : List PV} {v : PV} (hF : P[f]? = some F) (hn : args.length = F.na) (hm : F.mps = []) (h : W (evCall P d) F.body (args.map some ++ List.replicate (F.ns - F.na) none) (fun fl _ => fl = .rt v)) :
    evCall P (d + 1) f args = some (v, []) := by
  obtain ⟨fl, fr', e, rfl⟩ := h.ex
  rw [call_rt hF hn e, hm]
  rfl
theorem call_wE {P : List Fn} {d f : Nat} {F : Fn} {args : List PV} {R : PV → Prop} (hF : P[f]? = some F) (hn : args.length = F.na) (hm : F.mps = []) (h : W (evCall P d) F.body (args.map some ++ List.replicate (F.ns - F.na) none) (fun fl _ => ∃ v, fl = .rt v ∧ R v)) :
    ∃ v, evCall P (d + 1) f args = some (v, []) ∧ R v := by
  obtain ⟨fl, fr', e, v, rfl, r⟩ := h.ex
  exact ⟨v, by rw [call_rt hF hn e, hm]; rfl, r⟩
/-- .. of one that changes its arguments -/
theorem call_wM {P : List Fn} {d f : Nat} {F : Fn} {args : List PV} (hF : P[f]? = some F) (hn : args.length = F.na) {Q : PV → List (Option PV) → Prop} (h : W (evCall P d) F.body (args.map some ++ List.replicate (F.ns - F.na) none) (fun fl fr => ∃ v, fl = .rt v ∧ Q v (F.mps.map fun i => getS fr i))) :
    ∃ v outs, evCall P (d + 1) f args = some (v, outs) ∧ Q v outs := by
  obtain ⟨fl, fr', e, v, rfl, q⟩ := h.ex
  exact ⟨v, _, call_rt hF hn e, q⟩
theorem app_lst {xs : List PV} {v : PV} (h : xs.length < 16777216) : appV (.lst xs) v = some (.lst (xs ++ [v])) := by
  simp only [appV]
  exact if_pos h
theorem aug_addI (i j : Int) : augop .add (.int i) (.int j) = some (.int (i + j)) := rfl
theorem aug_subI (i j : Int) : augop .sub (.int i) (.int j) = some (.int (i - j)) := rfl
theorem iL_snoc (l : List Int) (a : Int) : iL l ++ [.int a] = iL (l ++ [a]) := by simp [iL]
end EV

set_option linter.all false
set_option Elab.async false
set_option maxRecDepth 100000
/-! Ev33: expressions that change the frame; the draws of a law. -/
namespace EV
/-- e's value and the frame behind it are so that Q -/
structure VE (C : Calls) (e : Ex) (fr : Fr) (Q : PV → Fr → Prop) : Prop where
  ex : ∃ v fr', ev C e fr = some (v, fr') ∧ Q v fr'
structure VEs (C : Calls) (es : List Ex) (fr : Fr) (Q : List PV → Fr → Prop) : Prop where
  ex : ∃ vs fr', evs C es fr = some (vs, fr') ∧ Q vs fr'
section
variable {C : Calls} {e c a b k s : Ex} {es : List Ex} {ss sa sb : List Sm} {fr : Fr} {i f : Nat} {is : List Nat} {bs : List Bool} {o : Bo} {tg : Tg} {Q : PV → Fr → Prop} {Qs : List PV → Fr → Prop} {QS : Fl → Fr → Prop} {ms : List (Option Nat)}
theorem VE.imp {Q' : PV → Fr → Prop} (h : VE C e fr Q) (q : ∀ v fr', Q v fr' → Q' v fr') : VE C e fr Q' := let ⟨⟨v, fr', e, z⟩⟩ := h; ⟨⟨v, fr', e, q _ _ z⟩⟩
theorem VEs.imp {Q' : List PV → Fr → Prop} (h : VEs C es fr Qs) (q : ∀ v fr', Qs v fr' → Q' v fr') : VEs C es fr Q' := let ⟨⟨v, fr', e, z⟩⟩ := h; ⟨⟨v, fr', e, q _ _ z⟩⟩
theorem ve_pure (p : pureE e = true) (h : ∃ v, vl C e fr = some v ∧ Q v fr) : VE C e fr Q := let ⟨v, h1, h2⟩ := h; ⟨⟨v, fr, by rw [ev_pure C e p, h1]; rfl, h2⟩⟩
theorem ves_nil (h : Qs [] fr) : VEs C [] fr Qs := ⟨⟨[], fr, by simp only [evs], h⟩⟩
theorem ves_cons (h : VE C e fr fun v fr1 => VEs C es fr1 fun vs fr2 => Qs (v :: vs) fr2) : VEs C (e :: es) fr Qs := by
  obtain ⟨v, fr1, h1, ⟨vs, fr2, h2, h3⟩⟩ := h.ex
  exact ⟨⟨v :: vs, fr2, by simp only [evs, h1, h2, Option.bind_some, Option.map_some], h3⟩⟩
theorem ve_bin (h : VE C a fr fun x fr1 => VE C b fr1 fun y fr2 => ∃ z, binop o x y = some z ∧ Q z fr2) : VE C (.bin o a b) fr Q := by
  obtain ⟨x, fr1, h1, ⟨y, fr2, h2, z, h3, h4⟩⟩ := h.ex
  exact ⟨⟨z, fr2, by simp only [ev, h1, h2, h3, Option.bind_some, Option.map_some], h4⟩⟩
theorem ve_cmp {o : Co} (h : VE C a fr fun x fr1 => VE C b fr1 fun y fr2 => ∃ z, cmpop o x y = some z ∧ Q z fr2) : VE C (.cmp o a b) fr Q := by
  obtain ⟨x, fr1, h1, ⟨y, fr2, h2, z, h3, h4⟩⟩ := h.ex
  exact ⟨⟨z, fr2, by simp only [ev, h1, h2, h3, Option.bind_some, Option.map_some], h4⟩⟩
theorem ve_sub (h : VE C a fr fun x fr1 => VE C b fr1 fun y fr2 => ∃ z, subop x y = some z ∧ Q z fr2) : VE C (.sub a b) fr Q := by
  obtain ⟨x, fr1, h1, ⟨y, fr2, h2, z, h3, h4⟩⟩ := h.ex
  exact ⟨⟨z, fr2, by simp only [ev, h1, h2, h3, Option.bind_some, Option.map_some], h4⟩⟩
theorem ve_bi {bb : Bi} (h : VEs C es fr fun vs fr1 => ∃ z, biop bb vs = some z ∧ Q z fr1) : VE C (.bi bb es) fr Q := by
  obtain ⟨x, fr1, h1, z, h3, h4⟩ := h.ex
  exact ⟨⟨z, fr1, by simp only [ev, h1, h3, Option.bind_some, Option.map_some], h4⟩⟩
theorem ve_tup (h : VEs C es fr fun vs fr1 => Q (.tup vs) fr1) : VE C (.tup es) fr Q := by
  obtain ⟨x, fr1, h1, h4⟩ := h.ex
  exact ⟨⟨_, fr1, by simp only [ev, h1, Option.map_some], h4⟩⟩
theorem ve_lst (h : VEs C es fr fun vs fr1 => Q (.lst vs) fr1) : VE C (.lst es) fr Q := by
  obtain ⟨x, fr1, h1, h4⟩ := h.ex
  exact ⟨⟨_, fr1, by simp only [ev, h1, Option.map_some], h4⟩⟩
theorem ve_dct (h : VEs C es fr fun vs fr1 => ∃ kvs, pairUp vs = some kvs ∧ Q (.dct (dputAll [] kvs)) fr1) : VE C (.dct es) fr Q := by
  obtain ⟨x, fr1, h1, z, h3, h4⟩ := h.ex
  exact ⟨⟨_, fr1, by simp only [ev, h1, h3, Option.bind_some, Option.map_some], h4⟩⟩
theorem ve_rg1 (h : VE C a fr fun x fr1 => ∃ n, x = .int n ∧ (okRg n && okN n.toNat) = true ∧ Q (.lst (rangeL 0 n.toNat 1)) fr1) : VE C (.rg1 a) fr Q := by
  obtain ⟨x, fr1, h1, n, rfl, h3, h4⟩ := h.ex
  exact ⟨⟨_, fr1, by simp only [ev, h1, h3, intOf, Option.bind_some, if_true], h4⟩⟩
theorem ve_call (h : VEs C es fr fun vs fr1 => ∃ vs', fillM ms vs fr1 = some vs' ∧ ∃ v outs, C f vs' = some (v, outs) ∧ Q v (putM ms outs fr1)) : VE C (.call f ms es) fr Q := by
  obtain ⟨x, fr1, h1, vs', h2, v, outs, h3, h4⟩ := h.ex
  exact ⟨⟨_, _, by simp only [ev, h1, h2, h3, Option.bind_some, Option.map_some], h4⟩⟩
theorem ve_ife (h : VE C c fr fun x fr1 => ∃ t, x = .bl t ∧ if t = true then VE C a fr1 Q else VE C b fr1 Q) : VE C (.ife c a b) fr Q := by
  obtain ⟨x, fr1, h1, t, rfl, h4⟩ := h.ex
  by_cases ht : t = true
  · rw [if_pos ht] at h4
    obtain ⟨v, fr2, h5, h6⟩ := h4.ex
    exact ⟨⟨v, fr2, by simp only [ev, h1, blOf, Option.bind_some, if_pos ht, h5], h6⟩⟩
  · rw [if_neg ht] at h4
    obtain ⟨v, fr2, h5, h6⟩ := h4.ex
    exact ⟨⟨v, fr2, by simp only [ev, h1, blOf, Option.bind_some, if_neg ht, h5], h6⟩⟩
theorem compL_inv {F : PV → Fr → Option (List PV × Fr)} {I : Fr → Prop} {R : PV → Prop} : ∀ (xs : List PV) (g : Fr), I g → (∀ x ∈ xs, ∀ g, I g → ∃ v g', F x g = some ([v], g') ∧ R v ∧ I g') → ∃ vs g', compL F xs g = some (vs, g') ∧ vs.length = xs.length ∧ (∀ v ∈ vs, R v) ∧ I g'
  | [], g, h, _ => ⟨[], g, rfl, rfl, fun _ z => absurd z (by simp), h⟩
  | x :: xs, g, h, st => by
    obtain ⟨v, g1, h1, h2, h3⟩ := st x List.mem_cons_self g h
    obtain ⟨vs, g2, h4, h5, h6, h7⟩ := compL_inv xs g1 h3 fun y hy => st y (List.mem_cons_of_mem _ hy)
    refine ⟨v :: vs, g2, ?_, by simp [h5], fun z hz => ?_, h7⟩
    · unfold compL
      rw [h1]
      simp only [Option.bind_some]
      rw [h4]
      rfl
    · rcases List.mem_cons.mp hz with hz | hz
      · rw [hz]; exact h2
      · exact h6 z hz
theorem back_of {old : Fr} {own : List Nat} {g g2 : Fr} (h : Off own g g2) (hl : old.length = g2.length) (h2 : ∀ i ∈ own, g2[i]? = old[i]?) : backF old own g = g2 := List.ext_getElem? fun i => by
  rw [backF_get' (hl.trans h.1.symm)]
  by_cases hi : i ∈ own
  · rw [if_pos hi, h2 i hi]
  · rw [if_neg hi, h.2 i hi]
/-- [e for i in src]: e may change a slot j, to some w n -/
theorem ve_compW {own : List Nat} {j : Nat} {w : Nat → PV} {R : PV → Prop} (hj : j ∉ own) (ho : i ∈ own)
    (h : VE C s fr fun x fr1 => ∃ xs n0, iterV x = some xs ∧ getS fr1 j = some (w n0) ∧ (∀ x ∈ xs, ∀ n, n0 ≤ n → VE C e ((wipeF (fr1.set j (some (w n))) own).set i (some x)) fun v g => R v ∧ ∃ m, n ≤ m ∧ Off own g (fr1.set j (some (w m)))) ∧
      ∀ vs m, n0 ≤ m → vs.length = xs.length → (∀ v ∈ vs, R v) → Q (.lst vs) (fr1.set j (some (w m)))) : VE C (.comp s (.nm i) none e own) fr Q := by
  obtain ⟨x, fr1, h1, xs, n0, hx, hw, hst, hk⟩ := h.ex
  have hlt : j < fr1.length := by
    unfold getS at hw
    cases hh : fr1[j]? with
    | none => rw [hh] at hw; cases hw
    | some _ => exact (List.getElem?_eq_some_iff.mp hh).1
  have hset : fr1.set j (some (w n0)) = fr1 := List.ext_getElem? fun k => by
    rw [set_get']
    by_cases hk : j = k
    · subst hk
      rw [if_pos rfl, if_pos hlt]
      unfold getS at hw
      cases hh : fr1[j]? with
      | none => rw [hh] at hw; cases hw
      | some o => rw [hh] at hw; cases o with
        | none => cases hw
        | some z => simpa using hw.symm
    · rw [if_neg hk]
  obtain ⟨vs, g', h4, h5, h6, n, hn, h7⟩ := compL_inv (F := fun x g => (bindTg (.nm i) x (wipeF g own)).bind fun g => (evc C none g).bind fun c => if c.1 = true then (ev C e c.2).map fun r => ([r.1], r.2) else some ([], c.2))
    (I := fun g => ∃ n, n0 ≤ n ∧ Off own g (fr1.set j (some (w n)))) (R := R) xs fr1 ⟨n0, Nat.le_refl _, by rw [hset]; exact .refl⟩ fun x hxm g ⟨n, hn, hg⟩ => by
      obtain ⟨v, g2, e1, hr, m, hm, ho2⟩ := (hst x hxm n hn).ex
      refine ⟨v, g2, ?_, hr, m, Nat.le_trans hn hm, ho2⟩
      rw [hg.wipe]
      simp only [bindTg, Option.bind_some, evc, if_true, e1, Option.map_some]
  refine ⟨⟨.lst vs, fr1.set j (some (w n)), ?_, hk vs n hn h5 h6⟩⟩
  simp only [ev, h1, hx, Option.bind_some]
  rw [h4]
  simp only [Option.map_some]
  rw [back_of h7 (by simp) fun k hk => List.getElem?_set_ne (fun z : j = k => hj (by rw [z]; exact hk))]
theorem w_asgE (h : VE C e fr fun v fr1 => W C ss (fr1.set i (some v)) QS) : W C (.asg i e :: ss) fr QS := by
  obtain ⟨v, fr1, h1, h2⟩ := h.ex
  exact w_one (by simp only [evS, h1, Option.map_some]) h2
theorem w_asgME (h : VE C e fr fun v fr1 => isMut v = true ∧ W C ss (fr1.set i (some v)) QS) : W C (.asgM i e :: ss) fr QS := by
  obtain ⟨v, fr1, h1, h3, h2⟩ := h.ex
  exact w_one (by simp only [evS, h1, Option.bind_some, h3, if_true]) h2
theorem w_parE (h : VEs C es fr fun vs fr1 => parChk bs vs = true ∧ W C ss (setAll is vs fr1) QS) : W C (.par is bs es :: ss) fr QS := by
  obtain ⟨v, fr1, h1, h3, h2⟩ := h.ex
  exact w_one (by simp only [evS, h1, Option.bind_some, h3, if_true]) h2
theorem w_augE (h : ∃ x, getS fr i = some x ∧ VE C e fr fun v fr1 => ∃ w, augop o x v = some w ∧ W C ss (fr1.set i (some w)) QS) : W C (.aug i o e :: ss) fr QS := by
  obtain ⟨x, hx, hv⟩ := h
  obtain ⟨v, fr1, h1, w, h3, h2⟩ := hv.ex
  exact w_one (by simp only [evS, hx, h1, Option.bind_some, h3, Option.map_some]) h2
theorem w_appE (h : ∃ x, getS fr i = some x ∧ VE C e fr fun v fr1 => ∃ w, appV x v = some w ∧ W C ss (fr1.set i (some w)) QS) : W C (.app i e :: ss) fr QS := by
  obtain ⟨x, hx, hv⟩ := h
  obtain ⟨v, fr1, h1, w, h3, h2⟩ := hv.ex
  exact w_one (by simp only [evS, hx, h1, Option.bind_some, h3, Option.map_some]) h2
theorem w_retE (h : VE C e fr fun v fr1 => QS (.rt v) fr1) : W C (.ret e :: ss) fr QS := by
  obtain ⟨v, fr1, h1, h2⟩ := h.ex
  exact .of (es_rt (by simp only [evS, h1, Option.map_some])) h2
theorem w_unpE (h : VE C e fr fun v fr1 => ∃ vs, v = .tup vs ∧ vs.length = is.length ∧ W C ss (setAll is vs fr1) QS) : W C (.unp is e :: ss) fr QS := by
  obtain ⟨v, fr1, h1, vs, rfl, h3, h2⟩ := h.ex
  exact w_one (by simp only [evS, h1, Option.bind_some, h3, if_true]) h2
theorem w_ifE (h : VE C c fr fun v fr1 => ∃ t, v = .bl t ∧ (t = true → W C sa fr1 (Nx C ss QS)) ∧ (t = false → W C sb fr1 (Nx C ss QS))) : W C (.ifs c sa sb :: ss) fr QS := by
  obtain ⟨v, fr1, h1, t, rfl, h2, h3⟩ := h.ex
  refine w_seq ?_
  simp only [evS, h1, Option.bind_some, blOf]
  cases t with
  | true => exact (h2 rfl).ex
  | false => exact (h3 rfl).ex
theorem w_forE {I : Nat → Fr → Prop} (hs : VE C s fr fun x fr1 => ∃ (h : Nat → PV) (n : Nat), iterV x = some ((List.range n).map h) ∧ I 0 fr1 ∧ (∀ k fr, k < n → I k fr → ∃ g, bindTg tg (h k) fr = some g ∧ W C sb g (Tu (I (k + 1)) C ss QS)) ∧ ∀ fr, I n fr → W C ss fr QS) : W C (.for_ tg s sb :: ss) fr QS := by
  obtain ⟨x, fr1, h1, h, n, hx, h0, st, kk⟩ := hs.ex
  have q : W C (.for_ tg (.cst 0 x) sb :: ss) fr1 QS := w_for h n (x := x) rfl (by simp only [vl]) hx h0 st kk
  obtain ⟨fl, fr', e, z⟩ := q.ex
  refine ⟨⟨fl, fr', ?_, z⟩⟩
  rw [es_cons] at e ⊢
  simp only [evS, ev, Option.bind_some] at e
  simp only [evS, h1, Option.bind_some]
  exact e
theorem w_augix {k : Ex} (p : pureE e = true) (pk : pureE k = true) (h : ∃ x, getS fr i = some x ∧ ∃ kv, vl C k fr = some kv ∧ ∃ y, subop x kv = some y ∧ ∃ v, vl C e fr = some v ∧ ∃ z, augop o y v = some z ∧ ∃ w, setIx x kv z = some w ∧ W C ss (fr.set i (some w)) QS) : W C (.augix i k o e :: ss) fr QS := by
  obtain ⟨x, h1, kv, h2, y, h3, v, h4, z, h5, w, h6, h7⟩ := h
  exact w_one (s_augix p pk h1 h2 h3 h4 h5 h6) h7
end
/-! ### the draws -/
abbrev sDr : List Nat := [100, 114, 97, 119, 115]
abbrev sAt : List Nat := [97, 116]
/-- the law's w: what is drawn, how many are used up -/
def wd (l : List Int) (n : Nat) : PV := .dct [(.str sDr, .lst (iL l)), (.str sAt, .int n)]
def bDraws : List Sm := [
  .asgM 2 (.lst []),
  .asg 3 (.int 7),
  .for_ (.nm 4) (.rg1 (.bi .len [(.sl 0)])) [
    .asg 5 (.bi .abs [(.bi .int [(.sub (.sl 0) (.sl 4))])]),
    .asg 3 (.bin .mod (.bi .int [(.bin .add (.bin .add (.bin .mul (.sl 3) (.int 48271)) (.bin .mod (.sl 5) (.int 1000003))) (.sl 4))]) (.int 65537)),
    .asg 6 (.int 0),
    .ifs (.cmp .ge (.sl 5) (.bin .pow (.int 10) (.int 18))) [
      .asg 6 (.sl 5)] [
      .app 2 (.bin .mod (.bi .int [(.sl 5)]) (.int 997)),
      .app 2 (.bin .mod (.bin .mod (.bi .int [(.bin .add (.bin .mul (.sl 3) (.int 69621)) (.int 5))]) (.int 65521)) (.int 997))],
    .for_ (.nm 7) (.rg1 (.int 60)) [
      .ifs (.cmp .gt (.sl 6) (.int 0)) [
        .app 2 (.bin .mod (.bi .int [(.sl 6)]) (.int 997)),
        .asg 6 (.bin .fdiv (.sl 6) (.int 997))] []]],
  .for_ (.nm 4) (.rg1 (.sl 1)) [
    .asg 3 (.bin .mod (.bi .int [(.bin .add (.bin .add (.bin .mul (.sl 3) (.int 16807)) (.sl 4)) (.int 1))]) (.int 65537)),
    .app 2 (.bin .mod (.bi .int [(.sl 3)]) (.int 997))],
  .ret (.cut (.sl 2) none (some (.sl 1)))]
def bNext : List Sm := [
  .augix 0 (.str [97, 116]) .add (.int 1),
  .ifs (.cmp .gt (.sub (.sl 0) (.str [97, 116])) (.bi .len [(.sub (.sl 0) (.str [100, 114, 97, 119, 115]))])) [
    .ret (.int 0)] [],
  .ret (.bin .mod (.bi .int [(.sub (.sub (.sl 0) (.str [100, 114, 97, 119, 115])) (.bin .sub (.sub (.sl 0) (.str [97, 116])) (.int 1)))]) (.sl 1))]
def bPick (i : Nat) : List Sm := [
  .ret (.sub (.sl 1) (.call i [(some 0), none] [(.sl 0), (.bi .len [(.sl 1)])]))]
def fDraws : Fn := { na := 2, ns := 8, cls := [.L, .L, .M, .P, .P, .P, .P, .P], mps := [], fresh := true, body := bDraws }
def fNext : Fn := { na := 2, ns := 2, cls := [.M, .L], mps := [0], fresh := false, body := bNext }
def fPick (i : Nat) : Fn := { na := 2, ns := 2, cls := [.M, .L], mps := [0], fresh := false, body := bPick i }
theorem wd_at (l : List Int) (n : Nat) : subop (wd l n) (.str [97, 116]) = some (.int n) := rfl
theorem wd_dr (l : List Int) (n : Nat) : subop (wd l n) (.str [100, 114, 97, 119, 115]) = some (.lst (iL l)) := rfl
theorem wd_set (l : List Int) (n m : Nat) : setIx (wd l n) (.str [97, 116]) (.int m) = some (wd l m) := by
  unfold setIx wd
  simp only [toKy, Option.bind_some]
  refine (if_pos ?_).trans rfl
  show 2 < 16777216
  decide
section
variable {C : Calls} {l : List Int} {n : Nat}
theorem next_W {m : Int} (hm : 0 < m) : ∃ r : Int, 0 ≤ r ∧ r < m ∧ W C bNext [some (wd l n), some (.int m)] (fun fl fr => ∃ v, fl = .rt v ∧ v = .int r ∧ [0].map (fun i => getS fr i) = [some (wd l (n + 1))]) := by
  have e1 : ((n : Int) + 1) = ((n + 1 : Nat) : Int) := by omega
  by_cases h : l.length < n + 1
  · refine ⟨0, by omega, hm, ?_⟩
    unfold bNext
    refine w_augix rfl rfl ?_
    (simp (config := { implicitDefEqProofs := false }) (disch := first | with_reducible assumption | omega | (simp only [iL_length, List.length_map, List.length_range, List.length_append, List.length_cons, List.length_nil, List.length_take, List.length_drop]; omega)) only [vl, vls, vlo, vlc, getS_z, getS_s, wipeF, bindTg, setAll, List.set_cons_succ, List.set_cons_zero, Option.map_some, Option.bind_some, Option.map_none, Option.bind_none, blOf, intOf, nat_z, ↓reduceIte, if_true, Bool.false_eq_true, if_false, sub_tupI, sub_lstI, bi_sumL, bi_sumT, bi_allM, bi_anyM, bi_lenT, bi_lenL, bi_lenD, bi_lenS, bi_tupL, bi_tupT, bi_lstT, bi_lstL, bi_intI, bi_absI, bi_min2I, bi_max2I, bi_minL, bi_maxL, cutop_tup, cutop_lst, rev_iT, rev_iLs, op_addI, op_subI, op_mulIL, op_mulIR, op_fdivI, op_modI, op_addT, op_addLs, co_eqI, co_neI, co_ltI, co_leI, co_gtI, co_geI, co_isN, co_isntN, co_eqLs, co_neLs, co_eqTs, co_neTs, iter_lst, iter_tup, compG_range, compG_iL, compG_one, compG_if, compR_one, compR_if, compQ_one, compQ_if, compQ_nil, rgV_ok, rgV2_ok, zipV_T, zipV_L, iL_length, map_pvint, map_int0, Int.toNat_natCast, decide_eq_true_eq, zip_iL, compG_rangeMap, cut_to, cut_from, cut_mid, Option.some.injEq, exists_eq_left', Nx_rt, Tu_rt, min_cast, max_cast, max1_cast, toNat_1, toNat_1', toNat_a, toNat_s, toNat_m1, toNat_0, half_cast, co_eqT0, co_neT0, co_eqL0, co_neL0, List.length_cons, List.length_nil,Option.some.injEq, exists_eq_left', wd_at, aug_addI, e1, wd_set])
    ((first | (refine w_asg ?_ ?_; exact rfl) | (refine w_asgM ?_ ?_; exact rfl) | (refine w_par ?_ ?_; exact rfl) | (refine w_unp ?_ ?_; exact rfl) | (refine w_aug ?_ ?_; exact rfl) | (refine w_app ?_ ?_; exact rfl) | (refine w_setix ?_ ?_ ?_; exact rfl; exact rfl) | (refine w_ret ?_ ?_; exact rfl) | refine w_retM ?_ | refine w_pass ?_ | refine w_cnt ?_ | refine w_brk ?_ | (refine w_if ?_ ?_; exact rfl) | refine w_nil ?_))
    (simp (config := { implicitDefEqProofs := false }) (disch := first | with_reducible assumption | omega | (simp only [iL_length, List.length_map, List.length_range, List.length_append, List.length_cons, List.length_nil, List.length_take, List.length_drop]; omega)) only [vl, vls, vlo, vlc, getS_z, getS_s, wipeF, bindTg, setAll, List.set_cons_succ, List.set_cons_zero, Option.map_some, Option.bind_some, Option.map_none, Option.bind_none, blOf, intOf, nat_z, ↓reduceIte, if_true, Bool.false_eq_true, if_false, sub_tupI, sub_lstI, bi_sumL, bi_sumT, bi_allM, bi_anyM, bi_lenT, bi_lenL, bi_lenD, bi_lenS, bi_tupL, bi_tupT, bi_lstT, bi_lstL, bi_intI, bi_absI, bi_min2I, bi_max2I, bi_minL, bi_maxL, cutop_tup, cutop_lst, rev_iT, rev_iLs, op_addI, op_subI, op_mulIL, op_mulIR, op_fdivI, op_modI, op_addT, op_addLs, co_eqI, co_neI, co_ltI, co_leI, co_gtI, co_geI, co_isN, co_isntN, co_eqLs, co_neLs, co_eqTs, co_neTs, iter_lst, iter_tup, compG_range, compG_iL, compG_one, compG_if, compR_one, compR_if, compQ_one, compQ_if, compQ_nil, rgV_ok, rgV2_ok, zipV_T, zipV_L, iL_length, map_pvint, map_int0, Int.toNat_natCast, decide_eq_true_eq, zip_iL, compG_rangeMap, cut_to, cut_from, cut_mid, Option.some.injEq, exists_eq_left', Nx_rt, Tu_rt, min_cast, max_cast, max1_cast, toNat_1, toNat_1', toNat_a, toNat_s, toNat_m1, toNat_0, half_cast, co_eqT0, co_neT0, co_eqL0, co_neL0, List.length_cons, List.length_nil,wd_at, wd_dr, Option.some.injEq, PV.bl.injEq, exists_eq_left'])
    refine ⟨fun _ => ?_, fun z => ?_⟩
    · ((first | (refine w_asg ?_ ?_; exact rfl) | (refine w_asgM ?_ ?_; exact rfl) | (refine w_par ?_ ?_; exact rfl) | (refine w_unp ?_ ?_; exact rfl) | (refine w_aug ?_ ?_; exact rfl) | (refine w_app ?_ ?_; exact rfl) | (refine w_setix ?_ ?_ ?_; exact rfl; exact rfl) | (refine w_ret ?_ ?_; exact rfl) | refine w_retM ?_ | refine w_pass ?_ | refine w_cnt ?_ | refine w_brk ?_ | (refine w_if ?_ ?_; exact rfl) | refine w_nil ?_))
      (simp (config := { implicitDefEqProofs := false }) (disch := first | with_reducible assumption | omega | (simp only [iL_length, List.length_map, List.length_range, List.length_append, List.length_cons, List.length_nil, List.length_take, List.length_drop]; omega)) only [vl, vls, vlo, vlc, getS_z, getS_s, wipeF, bindTg, setAll, List.set_cons_succ, List.set_cons_zero, Option.map_some, Option.bind_some, Option.map_none, Option.bind_none, blOf, intOf, nat_z, ↓reduceIte, if_true, Bool.false_eq_true, if_false, sub_tupI, sub_lstI, bi_sumL, bi_sumT, bi_allM, bi_anyM, bi_lenT, bi_lenL, bi_lenD, bi_lenS, bi_tupL, bi_tupT, bi_lstT, bi_lstL, bi_intI, bi_absI, bi_min2I, bi_max2I, bi_minL, bi_maxL, cutop_tup, cutop_lst, rev_iT, rev_iLs, op_addI, op_subI, op_mulIL, op_mulIR, op_fdivI, op_modI, op_addT, op_addLs, co_eqI, co_neI, co_ltI, co_leI, co_gtI, co_geI, co_isN, co_isntN, co_eqLs, co_neLs, co_eqTs, co_neTs, iter_lst, iter_tup, compG_range, compG_iL, compG_one, compG_if, compR_one, compR_if, compQ_one, compQ_if, compQ_nil, rgV_ok, rgV2_ok, zipV_T, zipV_L, iL_length, map_pvint, map_int0, Int.toNat_natCast, decide_eq_true_eq, zip_iL, compG_rangeMap, cut_to, cut_from, cut_mid, Option.some.injEq, exists_eq_left', Nx_rt, Tu_rt, min_cast, max_cast, max1_cast, toNat_1, toNat_1', toNat_a, toNat_s, toNat_m1, toNat_0, half_cast, co_eqT0, co_neT0, co_eqL0, co_neL0, List.length_cons, List.length_nil,Option.some.injEq, exists_eq_left'])
      exact ⟨_, rfl, rfl, rfl⟩
    · have := of_decide_eq_false z
      omega
  · have hl : n < l.length := by omega
    refine ⟨at' l n % m, Int.emod_nonneg _ (by omega), Int.emod_lt_of_pos _ hm, ?_⟩
    unfold bNext
    refine w_augix rfl rfl ?_
    (simp (config := { implicitDefEqProofs := false }) (disch := first | with_reducible assumption | omega | (simp only [iL_length, List.length_map, List.length_range, List.length_append, List.length_cons, List.length_nil, List.length_take, List.length_drop]; omega)) only [vl, vls, vlo, vlc, getS_z, getS_s, wipeF, bindTg, setAll, List.set_cons_succ, List.set_cons_zero, Option.map_some, Option.bind_some, Option.map_none, Option.bind_none, blOf, intOf, nat_z, ↓reduceIte, if_true, Bool.false_eq_true, if_false, sub_tupI, sub_lstI, bi_sumL, bi_sumT, bi_allM, bi_anyM, bi_lenT, bi_lenL, bi_lenD, bi_lenS, bi_tupL, bi_tupT, bi_lstT, bi_lstL, bi_intI, bi_absI, bi_min2I, bi_max2I, bi_minL, bi_maxL, cutop_tup, cutop_lst, rev_iT, rev_iLs, op_addI, op_subI, op_mulIL, op_mulIR, op_fdivI, op_modI, op_addT, op_addLs, co_eqI, co_neI, co_ltI, co_leI, co_gtI, co_geI, co_isN, co_isntN, co_eqLs, co_neLs, co_eqTs, co_neTs, iter_lst, iter_tup, compG_range, compG_iL, compG_one, compG_if, compR_one, compR_if, compQ_one, compQ_if, compQ_nil, rgV_ok, rgV2_ok, zipV_T, zipV_L, iL_length, map_pvint, map_int0, Int.toNat_natCast, decide_eq_true_eq, zip_iL, compG_rangeMap, cut_to, cut_from, cut_mid, Option.some.injEq, exists_eq_left', Nx_rt, Tu_rt, min_cast, max_cast, max1_cast, toNat_1, toNat_1', toNat_a, toNat_s, toNat_m1, toNat_0, half_cast, co_eqT0, co_neT0, co_eqL0, co_neL0, List.length_cons, List.length_nil,Option.some.injEq, exists_eq_left', wd_at, aug_addI, e1, wd_set])
    ((first | (refine w_asg ?_ ?_; exact rfl) | (refine w_asgM ?_ ?_; exact rfl) | (refine w_par ?_ ?_; exact rfl) | (refine w_unp ?_ ?_; exact rfl) | (refine w_aug ?_ ?_; exact rfl) | (refine w_app ?_ ?_; exact rfl) | (refine w_setix ?_ ?_ ?_; exact rfl; exact rfl) | (refine w_ret ?_ ?_; exact rfl) | refine w_retM ?_ | refine w_pass ?_ | refine w_cnt ?_ | refine w_brk ?_ | (refine w_if ?_ ?_; exact rfl) | refine w_nil ?_))
    (simp (config := { implicitDefEqProofs := false }) (disch := first | with_reducible assumption | omega | (simp only [iL_length, List.length_map, List.length_range, List.length_append, List.length_cons, List.length_nil, List.length_take, List.length_drop]; omega)) only [vl, vls, vlo, vlc, getS_z, getS_s, wipeF, bindTg, setAll, List.set_cons_succ, List.set_cons_zero, Option.map_some, Option.bind_some, Option.map_none, Option.bind_none, blOf, intOf, nat_z, ↓reduceIte, if_true, Bool.false_eq_true, if_false, sub_tupI, sub_lstI, bi_sumL, bi_sumT, bi_allM, bi_anyM, bi_lenT, bi_lenL, bi_lenD, bi_lenS, bi_tupL, bi_tupT, bi_lstT, bi_lstL, bi_intI, bi_absI, bi_min2I, bi_max2I, bi_minL, bi_maxL, cutop_tup, cutop_lst, rev_iT, rev_iLs, op_addI, op_subI, op_mulIL, op_mulIR, op_fdivI, op_modI, op_addT, op_addLs, co_eqI, co_neI, co_ltI, co_leI, co_gtI, co_geI, co_isN, co_isntN, co_eqLs, co_neLs, co_eqTs, co_neTs, iter_lst, iter_tup, compG_range, compG_iL, compG_one, compG_if, compR_one, compR_if, compQ_one, compQ_if, compQ_nil, rgV_ok, rgV2_ok, zipV_T, zipV_L, iL_length, map_pvint, map_int0, Int.toNat_natCast, decide_eq_true_eq, zip_iL, compG_rangeMap, cut_to, cut_from, cut_mid, Option.some.injEq, exists_eq_left', Nx_rt, Tu_rt, min_cast, max_cast, max1_cast, toNat_1, toNat_1', toNat_a, toNat_s, toNat_m1, toNat_0, half_cast, co_eqT0, co_neT0, co_eqL0, co_neL0, List.length_cons, List.length_nil,wd_at, wd_dr, Option.some.injEq, PV.bl.injEq, exists_eq_left'])
    refine ⟨fun z => ?_, fun _ => ?_⟩
    · omega
    · refine w_nil ?_
      unfold Nx
      ((first | (refine w_asg ?_ ?_; exact rfl) | (refine w_asgM ?_ ?_; exact rfl) | (refine w_par ?_ ?_; exact rfl) | (refine w_unp ?_ ?_; exact rfl) | (refine w_aug ?_ ?_; exact rfl) | (refine w_app ?_ ?_; exact rfl) | (refine w_setix ?_ ?_ ?_; exact rfl; exact rfl) | (refine w_ret ?_ ?_; exact rfl) | refine w_retM ?_ | refine w_pass ?_ | refine w_cnt ?_ | refine w_brk ?_ | (refine w_if ?_ ?_; exact rfl) | refine w_nil ?_))
      (simp (config := { implicitDefEqProofs := false }) (disch := first | with_reducible assumption | omega | (simp only [iL_length, List.length_map, List.length_range, List.length_append, List.length_cons, List.length_nil, List.length_take, List.length_drop]; omega)) only [vl, vls, vlo, vlc, getS_z, getS_s, wipeF, bindTg, setAll, List.set_cons_succ, List.set_cons_zero, Option.map_some, Option.bind_some, Option.map_none, Option.bind_none, blOf, intOf, nat_z, ↓reduceIte, if_true, Bool.false_eq_true, if_false, sub_tupI, sub_lstI, bi_sumL, bi_sumT, bi_allM, bi_anyM, bi_lenT, bi_lenL, bi_lenD, bi_lenS, bi_tupL, bi_tupT, bi_lstT, bi_lstL, bi_intI, bi_absI, bi_min2I, bi_max2I, bi_minL, bi_maxL, cutop_tup, cutop_lst, rev_iT, rev_iLs, op_addI, op_subI, op_mulIL, op_mulIR, op_fdivI, op_modI, op_addT, op_addLs, co_eqI, co_neI, co_ltI, co_leI, co_gtI, co_geI, co_isN, co_isntN, co_eqLs, co_neLs, co_eqTs, co_neTs, iter_lst, iter_tup, compG_range, compG_iL, compG_one, compG_if, compR_one, compR_if, compQ_one, compQ_if, compQ_nil, rgV_ok, rgV2_ok, zipV_T, zipV_L, iL_length, map_pvint, map_int0, Int.toNat_natCast, decide_eq_true_eq, zip_iL, compG_rangeMap, cut_to, cut_from, cut_mid, Option.some.injEq, exists_eq_left', Nx_rt, Tu_rt, min_cast, max_cast, max1_cast, toNat_1, toNat_1', toNat_a, toNat_s, toNat_m1, toNat_0, half_cast, co_eqT0, co_neT0, co_eqL0, co_neL0, List.length_cons, List.length_nil,wd_at, wd_dr, Option.some.injEq, exists_eq_left'])
      refine ⟨_, rfl, ?_, rfl⟩
      rw [Nat.add_sub_cancel]
theorem next_call {P : List Fn} {d i : Nat} (h : P[i]? = some fNext) {m : Int} (hm : 0 < m) : ∃ r : Int, 0 ≤ r ∧ r < m ∧ evCall P (d + 1) i [wd l n, .int m] = some (.int r, [some (wd l (n + 1))]) := by
  obtain ⟨r, h1, h2, h3⟩ := next_W (C := evCall P d) (l := l) (n := n) hm
  refine ⟨r, h1, h2, ?_⟩
  obtain ⟨v, outs, q1, q2, q3⟩ := call_wM (F := fNext) (args := [wd l n, .int m]) (Q := fun v outs => v = .int r ∧ outs = [some (wd l (n + 1))]) h rfl h3
  rw [q1, q2, q3]
theorem pick_call {P : List Fn} {d i j : Nat} (h : P[i]? = some fNext) (h' : P[j]? = some (fPick i)) {xs : List PV} (hx : 0 < xs.length) : ∃ x, x ∈ xs ∧ evCall P (d + 2) j [wd l n, .lst xs] = some (x, [some (wd l (n + 1))]) := by
  obtain ⟨r, h1, h2, h3⟩ := next_call (P := P) (d := d) (l := l) (n := n) h (m := (xs.length : Int)) (by omega)
  have hr : r.toNat < xs.length := by omega
  refine ⟨xs[r.toNat], List.getElem_mem hr, ?_⟩
  obtain ⟨v, outs, q1, q2, q3⟩ := call_wM (P := P) (d := d + 1) (f := j) (F := fPick i) (args := [wd l n, .lst xs]) h' rfl (Q := fun v outs => v = xs[r.toNat] ∧ outs = [some (wd l (n + 1))]) (by
    show W _ (bPick i) [some (wd l n), some (.lst xs)] _
    unfold bPick
    refine w_retE (ve_sub (ve_pure rfl ?_))
    generalize evCall P (d + 1) = C at *
    (simp (config := { implicitDefEqProofs := false }) (disch := first | with_reducible assumption | omega | (simp only [iL_length, List.length_map, List.length_range, List.length_append, List.length_cons, List.length_nil, List.length_take, List.length_drop]; omega)) only [vl, vls, vlo, vlc, getS_z, getS_s, wipeF, bindTg, setAll, List.set_cons_succ, List.set_cons_zero, Option.map_some, Option.bind_some, Option.map_none, Option.bind_none, blOf, intOf, nat_z, ↓reduceIte, if_true, Bool.false_eq_true, if_false, sub_tupI, sub_lstI, bi_sumL, bi_sumT, bi_allM, bi_anyM, bi_lenT, bi_lenL, bi_lenD, bi_lenS, bi_tupL, bi_tupT, bi_lstT, bi_lstL, bi_intI, bi_absI, bi_min2I, bi_max2I, bi_minL, bi_maxL, cutop_tup, cutop_lst, rev_iT, rev_iLs, op_addI, op_subI, op_mulIL, op_mulIR, op_fdivI, op_modI, op_addT, op_addLs, co_eqI, co_neI, co_ltI, co_leI, co_gtI, co_geI, co_isN, co_isntN, co_eqLs, co_neLs, co_eqTs, co_neTs, iter_lst, iter_tup, compG_range, compG_iL, compG_one, compG_if, compR_one, compR_if, compQ_one, compQ_if, compQ_nil, rgV_ok, rgV2_ok, zipV_T, zipV_L, iL_length, map_pvint, map_int0, Int.toNat_natCast, decide_eq_true_eq, zip_iL, compG_rangeMap, cut_to, cut_from, cut_mid, Option.some.injEq, exists_eq_left', Nx_rt, Tu_rt, min_cast, max_cast, max1_cast, toNat_1, toNat_1', toNat_a, toNat_s, toNat_m1, toNat_0, half_cast, co_eqT0, co_neT0, co_eqL0, co_neL0, List.length_cons, List.length_nil,Option.some.injEq, exists_eq_left'])
    refine ve_call (ves_cons (ve_pure rfl ?_))
    (simp (config := { implicitDefEqProofs := false }) (disch := first | with_reducible assumption | omega | (simp only [iL_length, List.length_map, List.length_range, List.length_append, List.length_cons, List.length_nil, List.length_take, List.length_drop]; omega)) only [vl, vls, vlo, vlc, getS_z, getS_s, wipeF, bindTg, setAll, List.set_cons_succ, List.set_cons_zero, Option.map_some, Option.bind_some, Option.map_none, Option.bind_none, blOf, intOf, nat_z, ↓reduceIte, if_true, Bool.false_eq_true, if_false, sub_tupI, sub_lstI, bi_sumL, bi_sumT, bi_allM, bi_anyM, bi_lenT, bi_lenL, bi_lenD, bi_lenS, bi_tupL, bi_tupT, bi_lstT, bi_lstL, bi_intI, bi_absI, bi_min2I, bi_max2I, bi_minL, bi_maxL, cutop_tup, cutop_lst, rev_iT, rev_iLs, op_addI, op_subI, op_mulIL, op_mulIR, op_fdivI, op_modI, op_addT, op_addLs, co_eqI, co_neI, co_ltI, co_leI, co_gtI, co_geI, co_isN, co_isntN, co_eqLs, co_neLs, co_eqTs, co_neTs, iter_lst, iter_tup, compG_range, compG_iL, compG_one, compG_if, compR_one, compR_if, compQ_one, compQ_if, compQ_nil, rgV_ok, rgV2_ok, zipV_T, zipV_L, iL_length, map_pvint, map_int0, Int.toNat_natCast, decide_eq_true_eq, zip_iL, compG_rangeMap, cut_to, cut_from, cut_mid, Option.some.injEq, exists_eq_left', Nx_rt, Tu_rt, min_cast, max_cast, max1_cast, toNat_1, toNat_1', toNat_a, toNat_s, toNat_m1, toNat_0, half_cast, co_eqT0, co_neT0, co_eqL0, co_neL0, List.length_cons, List.length_nil,Option.some.injEq, exists_eq_left'])
    refine ves_cons (ve_pure rfl ?_)
    (simp (config := { implicitDefEqProofs := false }) (disch := first | with_reducible assumption | omega | (simp only [iL_length, List.length_map, List.length_range, List.length_append, List.length_cons, List.length_nil, List.length_take, List.length_drop]; omega)) only [vl, vls, vlo, vlc, getS_z, getS_s, wipeF, bindTg, setAll, List.set_cons_succ, List.set_cons_zero, Option.map_some, Option.bind_some, Option.map_none, Option.bind_none, blOf, intOf, nat_z, ↓reduceIte, if_true, Bool.false_eq_true, if_false, sub_tupI, sub_lstI, bi_sumL, bi_sumT, bi_allM, bi_anyM, bi_lenT, bi_lenL, bi_lenD, bi_lenS, bi_tupL, bi_tupT, bi_lstT, bi_lstL, bi_intI, bi_absI, bi_min2I, bi_max2I, bi_minL, bi_maxL, cutop_tup, cutop_lst, rev_iT, rev_iLs, op_addI, op_subI, op_mulIL, op_mulIR, op_fdivI, op_modI, op_addT, op_addLs, co_eqI, co_neI, co_ltI, co_leI, co_gtI, co_geI, co_isN, co_isntN, co_eqLs, co_neLs, co_eqTs, co_neTs, iter_lst, iter_tup, compG_range, compG_iL, compG_one, compG_if, compR_one, compR_if, compQ_one, compQ_if, compQ_nil, rgV_ok, rgV2_ok, zipV_T, zipV_L, iL_length, map_pvint, map_int0, Int.toNat_natCast, decide_eq_true_eq, zip_iL, compG_rangeMap, cut_to, cut_from, cut_mid, Option.some.injEq, exists_eq_left', Nx_rt, Tu_rt, min_cast, max_cast, max1_cast, toNat_1, toNat_1', toNat_a, toNat_s, toNat_m1, toNat_0, half_cast, co_eqT0, co_neT0, co_eqL0, co_neL0, List.length_cons, List.length_nil,Option.some.injEq, exists_eq_left'])
    refine ves_nil ⟨[wd l n, .int xs.length], rfl, _, _, h3, ?_⟩
    refine ⟨xs[r.toNat], ?_, _, rfl, rfl, rfl⟩
    rw [sub_lstG h1 hr]
    simp [List.getD, hr])
  rw [q1, q2, q3]
theorem draws_call {P : List Fn} {d i : Nat} (h : P[i]? = some fDraws) {ns : List Int} (hl : ns.length ≤ 63) {m : Nat} (hm : m ≤ 1000) : ∃ l, evCall P (d + 1) i [.scr ns, .int m] = some (.lst (iL l), []) := by
  have key : ∀ C : Calls, W C bDraws [some (.scr ns), some (.int m), none, none, none, none, none, none] (fun fl _ => ∃ v, fl = .rt v ∧ ∃ l, v = .lst (iL l)) := fun C => by
    unfold bDraws
    ((first | (refine w_asg ?_ ?_; exact rfl) | (refine w_asgM ?_ ?_; exact rfl) | (refine w_par ?_ ?_; exact rfl) | (refine w_unp ?_ ?_; exact rfl) | (refine w_aug ?_ ?_; exact rfl) | (refine w_app ?_ ?_; exact rfl) | (refine w_setix ?_ ?_ ?_; exact rfl; exact rfl) | (refine w_ret ?_ ?_; exact rfl) | refine w_retM ?_ | refine w_pass ?_ | refine w_cnt ?_ | refine w_brk ?_ | (refine w_if ?_ ?_; exact rfl) | refine w_nil ?_))
    (simp (config := { implicitDefEqProofs := false }) (disch := first | with_reducible assumption | omega | (simp only [iL_length, List.length_map, List.length_range, List.length_append, List.length_cons, List.length_nil, List.length_take, List.length_drop]; omega)) only [vl, vls, vlo, vlc, getS_z, getS_s, wipeF, bindTg, setAll, List.set_cons_succ, List.set_cons_zero, Option.map_some, Option.bind_some, Option.map_none, Option.bind_none, blOf, intOf, nat_z, ↓reduceIte, if_true, Bool.false_eq_true, if_false, sub_tupI, sub_lstI, bi_sumL, bi_sumT, bi_allM, bi_anyM, bi_lenT, bi_lenL, bi_lenD, bi_lenS, bi_tupL, bi_tupT, bi_lstT, bi_lstL, bi_intI, bi_absI, bi_min2I, bi_max2I, bi_minL, bi_maxL, cutop_tup, cutop_lst, rev_iT, rev_iLs, op_addI, op_subI, op_mulIL, op_mulIR, op_fdivI, op_modI, op_addT, op_addLs, co_eqI, co_neI, co_ltI, co_leI, co_gtI, co_geI, co_isN, co_isntN, co_eqLs, co_neLs, co_eqTs, co_neTs, iter_lst, iter_tup, compG_range, compG_iL, compG_one, compG_if, compR_one, compR_if, compQ_one, compQ_if, compQ_nil, rgV_ok, rgV2_ok, zipV_T, zipV_L, iL_length, map_pvint, map_int0, Int.toNat_natCast, decide_eq_true_eq, zip_iL, compG_rangeMap, cut_to, cut_from, cut_mid, Option.some.injEq, exists_eq_left', Nx_rt, Tu_rt, min_cast, max_cast, max1_cast, toNat_1, toNat_1', toNat_a, toNat_s, toNat_m1, toNat_0, half_cast, co_eqT0, co_neT0, co_eqL0, co_neL0, List.length_cons, List.length_nil,Option.some.injEq, exists_eq_left', isMut, true_and])
    ((first | (refine w_asg ?_ ?_; exact rfl) | (refine w_asgM ?_ ?_; exact rfl) | (refine w_par ?_ ?_; exact rfl) | (refine w_unp ?_ ?_; exact rfl) | (refine w_aug ?_ ?_; exact rfl) | (refine w_app ?_ ?_; exact rfl) | (refine w_setix ?_ ?_ ?_; exact rfl; exact rfl) | (refine w_ret ?_ ?_; exact rfl) | refine w_retM ?_ | refine w_pass ?_ | refine w_cnt ?_ | refine w_brk ?_ | (refine w_if ?_ ?_; exact rfl) | refine w_nil ?_))
    (simp (config := { implicitDefEqProofs := false }) (disch := first | with_reducible assumption | omega | (simp only [iL_length, List.length_map, List.length_range, List.length_append, List.length_cons, List.length_nil, List.length_take, List.length_drop]; omega)) only [vl, vls, vlo, vlc, getS_z, getS_s, wipeF, bindTg, setAll, List.set_cons_succ, List.set_cons_zero, Option.map_some, Option.bind_some, Option.map_none, Option.bind_none, blOf, intOf, nat_z, ↓reduceIte, if_true, Bool.false_eq_true, if_false, sub_tupI, sub_lstI, bi_sumL, bi_sumT, bi_allM, bi_anyM, bi_lenT, bi_lenL, bi_lenD, bi_lenS, bi_tupL, bi_tupT, bi_lstT, bi_lstL, bi_intI, bi_absI, bi_min2I, bi_max2I, bi_minL, bi_maxL, cutop_tup, cutop_lst, rev_iT, rev_iLs, op_addI, op_subI, op_mulIL, op_mulIR, op_fdivI, op_modI, op_addT, op_addLs, co_eqI, co_neI, co_ltI, co_leI, co_gtI, co_geI, co_isN, co_isntN, co_eqLs, co_neLs, co_eqTs, co_neTs, iter_lst, iter_tup, compG_range, compG_iL, compG_one, compG_if, compR_one, compR_if, compQ_one, compQ_if, compQ_nil, rgV_ok, rgV2_ok, zipV_T, zipV_L, iL_length, map_pvint, map_int0, Int.toNat_natCast, decide_eq_true_eq, zip_iL, compG_rangeMap, cut_to, cut_from, cut_mid, Option.some.injEq, exists_eq_left', Nx_rt, Tu_rt, min_cast, max_cast, max1_cast, toNat_1, toNat_1', toNat_a, toNat_s, toNat_m1, toNat_0, half_cast, co_eqT0, co_neT0, co_eqL0, co_neL0, List.length_cons, List.length_nil,Option.some.injEq, exists_eq_left'])
    refine w_rg (I := fun k fr => ∃ (l : List Int) (x : Int) (a b c e : Option PV), l.length ≤ 62 * k ∧ fr = [some (.scr ns), some (.int m), some (.lst (iL l)), some (.int x), a, b, c, e]) ns.length rfl (by (simp (config := { implicitDefEqProofs := false }) (disch := first | with_reducible assumption | omega | (simp only [iL_length, List.length_map, List.length_range, List.length_append, List.length_cons, List.length_nil, List.length_take, List.length_drop]; omega)) only [vl, vls, vlo, vlc, getS_z, getS_s, wipeF, bindTg, setAll, List.set_cons_succ, List.set_cons_zero, Option.map_some, Option.bind_some, Option.map_none, Option.bind_none, blOf, intOf, nat_z, ↓reduceIte, if_true, Bool.false_eq_true, if_false, sub_tupI, sub_lstI, bi_sumL, bi_sumT, bi_allM, bi_anyM, bi_lenT, bi_lenL, bi_lenD, bi_lenS, bi_tupL, bi_tupT, bi_lstT, bi_lstL, bi_intI, bi_absI, bi_min2I, bi_max2I, bi_minL, bi_maxL, cutop_tup, cutop_lst, rev_iT, rev_iLs, op_addI, op_subI, op_mulIL, op_mulIR, op_fdivI, op_modI, op_addT, op_addLs, co_eqI, co_neI, co_ltI, co_leI, co_gtI, co_geI, co_isN, co_isntN, co_eqLs, co_neLs, co_eqTs, co_neTs, iter_lst, iter_tup, compG_range, compG_iL, compG_one, compG_if, compR_one, compR_if, compQ_one, compQ_if, compQ_nil, rgV_ok, rgV2_ok, zipV_T, zipV_L, iL_length, map_pvint, map_int0, Int.toNat_natCast, decide_eq_true_eq, zip_iL, compG_rangeMap, cut_to, cut_from, cut_mid, Option.some.injEq, exists_eq_left', Nx_rt, Tu_rt, min_cast, max_cast, max1_cast, toNat_1, toNat_1', toNat_a, toNat_s, toNat_m1, toNat_0, half_cast, co_eqT0, co_neT0, co_eqL0, co_neL0, List.length_cons, List.length_nil])) ⟨[], 7, none, none, none, none, by simp, rfl⟩ ?_ ?_
    · rintro k _ hk ⟨l, x, a, b, c, e, hll, rfl⟩
      refine ⟨_, rfl, ?_⟩
      have hs : subop (.scr ns) (.int (k : Int)) = some (.int (at' ns k)) := by
        simp only [subop]
        rw [ixOf_nat hk]
        simp [at', List.getD, hk]
      ((first | (refine w_asg ?_ ?_; exact rfl) | (refine w_asgM ?_ ?_; exact rfl) | (refine w_par ?_ ?_; exact rfl) | (refine w_unp ?_ ?_; exact rfl) | (refine w_aug ?_ ?_; exact rfl) | (refine w_app ?_ ?_; exact rfl) | (refine w_setix ?_ ?_ ?_; exact rfl; exact rfl) | (refine w_ret ?_ ?_; exact rfl) | refine w_retM ?_ | refine w_pass ?_ | refine w_cnt ?_ | refine w_brk ?_ | (refine w_if ?_ ?_; exact rfl) | refine w_nil ?_))
      (simp (config := { implicitDefEqProofs := false }) (disch := first | with_reducible assumption | omega | (simp only [iL_length, List.length_map, List.length_range, List.length_append, List.length_cons, List.length_nil, List.length_take, List.length_drop]; omega)) only [vl, vls, vlo, vlc, getS_z, getS_s, wipeF, bindTg, setAll, List.set_cons_succ, List.set_cons_zero, Option.map_some, Option.bind_some, Option.map_none, Option.bind_none, blOf, intOf, nat_z, ↓reduceIte, if_true, Bool.false_eq_true, if_false, sub_tupI, sub_lstI, bi_sumL, bi_sumT, bi_allM, bi_anyM, bi_lenT, bi_lenL, bi_lenD, bi_lenS, bi_tupL, bi_tupT, bi_lstT, bi_lstL, bi_intI, bi_absI, bi_min2I, bi_max2I, bi_minL, bi_maxL, cutop_tup, cutop_lst, rev_iT, rev_iLs, op_addI, op_subI, op_mulIL, op_mulIR, op_fdivI, op_modI, op_addT, op_addLs, co_eqI, co_neI, co_ltI, co_leI, co_gtI, co_geI, co_isN, co_isntN, co_eqLs, co_neLs, co_eqTs, co_neTs, iter_lst, iter_tup, compG_range, compG_iL, compG_one, compG_if, compR_one, compR_if, compQ_one, compQ_if, compQ_nil, rgV_ok, rgV2_ok, zipV_T, zipV_L, iL_length, map_pvint, map_int0, Int.toNat_natCast, decide_eq_true_eq, zip_iL, compG_rangeMap, cut_to, cut_from, cut_mid, Option.some.injEq, exists_eq_left', Nx_rt, Tu_rt, min_cast, max_cast, max1_cast, toNat_1, toNat_1', toNat_a, toNat_s, toNat_m1, toNat_0, half_cast, co_eqT0, co_neT0, co_eqL0, co_neL0, List.length_cons, List.length_nil,Option.some.injEq, exists_eq_left', hs])
      ((first | (refine w_asg ?_ ?_; exact rfl) | (refine w_asgM ?_ ?_; exact rfl) | (refine w_par ?_ ?_; exact rfl) | (refine w_unp ?_ ?_; exact rfl) | (refine w_aug ?_ ?_; exact rfl) | (refine w_app ?_ ?_; exact rfl) | (refine w_setix ?_ ?_ ?_; exact rfl; exact rfl) | (refine w_ret ?_ ?_; exact rfl) | refine w_retM ?_ | refine w_pass ?_ | refine w_cnt ?_ | refine w_brk ?_ | (refine w_if ?_ ?_; exact rfl) | refine w_nil ?_))
      (simp (config := { implicitDefEqProofs := false }) (disch := first | with_reducible assumption | omega | (simp only [iL_length, List.length_map, List.length_range, List.length_append, List.length_cons, List.length_nil, List.length_take, List.length_drop]; omega)) only [vl, vls, vlo, vlc, getS_z, getS_s, wipeF, bindTg, setAll, List.set_cons_succ, List.set_cons_zero, Option.map_some, Option.bind_some, Option.map_none, Option.bind_none, blOf, intOf, nat_z, ↓reduceIte, if_true, Bool.false_eq_true, if_false, sub_tupI, sub_lstI, bi_sumL, bi_sumT, bi_allM, bi_anyM, bi_lenT, bi_lenL, bi_lenD, bi_lenS, bi_tupL, bi_tupT, bi_lstT, bi_lstL, bi_intI, bi_absI, bi_min2I, bi_max2I, bi_minL, bi_maxL, cutop_tup, cutop_lst, rev_iT, rev_iLs, op_addI, op_subI, op_mulIL, op_mulIR, op_fdivI, op_modI, op_addT, op_addLs, co_eqI, co_neI, co_ltI, co_leI, co_gtI, co_geI, co_isN, co_isntN, co_eqLs, co_neLs, co_eqTs, co_neTs, iter_lst, iter_tup, compG_range, compG_iL, compG_one, compG_if, compR_one, compR_if, compQ_one, compQ_if, compQ_nil, rgV_ok, rgV2_ok, zipV_T, zipV_L, iL_length, map_pvint, map_int0, Int.toNat_natCast, decide_eq_true_eq, zip_iL, compG_rangeMap, cut_to, cut_from, cut_mid, Option.some.injEq, exists_eq_left', Nx_rt, Tu_rt, min_cast, max_cast, max1_cast, toNat_1, toNat_1', toNat_a, toNat_s, toNat_m1, toNat_0, half_cast, co_eqT0, co_neT0, co_eqL0, co_neL0, List.length_cons, List.length_nil,Option.some.injEq, exists_eq_left', hs])
      ((first | (refine w_asg ?_ ?_; exact rfl) | (refine w_asgM ?_ ?_; exact rfl) | (refine w_par ?_ ?_; exact rfl) | (refine w_unp ?_ ?_; exact rfl) | (refine w_aug ?_ ?_; exact rfl) | (refine w_app ?_ ?_; exact rfl) | (refine w_setix ?_ ?_ ?_; exact rfl; exact rfl) | (refine w_ret ?_ ?_; exact rfl) | refine w_retM ?_ | refine w_pass ?_ | refine w_cnt ?_ | refine w_brk ?_ | (refine w_if ?_ ?_; exact rfl) | refine w_nil ?_))
      (simp (config := { implicitDefEqProofs := false }) (disch := first | with_reducible assumption | omega | (simp only [iL_length, List.length_map, List.length_range, List.length_append, List.length_cons, List.length_nil, List.length_take, List.length_drop]; omega)) only [vl, vls, vlo, vlc, getS_z, getS_s, wipeF, bindTg, setAll, List.set_cons_succ, List.set_cons_zero, Option.map_some, Option.bind_some, Option.map_none, Option.bind_none, blOf, intOf, nat_z, ↓reduceIte, if_true, Bool.false_eq_true, if_false, sub_tupI, sub_lstI, bi_sumL, bi_sumT, bi_allM, bi_anyM, bi_lenT, bi_lenL, bi_lenD, bi_lenS, bi_tupL, bi_tupT, bi_lstT, bi_lstL, bi_intI, bi_absI, bi_min2I, bi_max2I, bi_minL, bi_maxL, cutop_tup, cutop_lst, rev_iT, rev_iLs, op_addI, op_subI, op_mulIL, op_mulIR, op_fdivI, op_modI, op_addT, op_addLs, co_eqI, co_neI, co_ltI, co_leI, co_gtI, co_geI, co_isN, co_isntN, co_eqLs, co_neLs, co_eqTs, co_neTs, iter_lst, iter_tup, compG_range, compG_iL, compG_one, compG_if, compR_one, compR_if, compQ_one, compQ_if, compQ_nil, rgV_ok, rgV2_ok, zipV_T, zipV_L, iL_length, map_pvint, map_int0, Int.toNat_natCast, decide_eq_true_eq, zip_iL, compG_rangeMap, cut_to, cut_from, cut_mid, Option.some.injEq, exists_eq_left', Nx_rt, Tu_rt, min_cast, max_cast, max1_cast, toNat_1, toNat_1', toNat_a, toNat_s, toNat_m1, toNat_0, half_cast, co_eqT0, co_neT0, co_eqL0, co_neL0, List.length_cons, List.length_nil,Option.some.injEq, exists_eq_left', hs])
      have hp : binop .pow (.int 10) (.int 18) = some (.int 1000000000000000000) := by
        simp only [binop]
        rw [if_pos (by decide)]
        rfl
      generalize ((x * 48271 + ((at' ns k).natAbs : Int) % 1000003 + (k : Int)) % 65537) = x1
      generalize ((at' ns k).natAbs : Int) = z1
      -- the inner loop
      have inner : ∀ (l1 : List Int) (r : Int), l1.length ≤ 62 * k + 2 → W C [.for_ (.nm 7) (.rg1 (.int 60)) [
          .ifs (.cmp .gt (.sl 6) (.int 0)) [
            .app 2 (.bin .mod (.bi .int [(.sl 6)]) (.int 997)),
            .asg 6 (.bin .fdiv (.sl 6) (.int 997))] []]] [some (.scr ns), some (.int m), some (.lst (iL l1)), some (.int x1), some (.int k), some (.int z1), some (.int r), e]
          (Tu (fun fr => ∃ (l : List Int) (x : Int) (a b c e : Option PV), l.length ≤ 62 * (k + 1) ∧ fr = [some (.scr ns), some (.int m), some (.lst (iL l)), some (.int x), a, b, c, e]) C
            [.for_ (.nm 4) (.rg1 (.sl 1)) [
                .asg 3 (.bin .mod (.bi .int [(.bin .add (.bin .add (.bin .mul (.sl 3) (.int 16807)) (.sl 4)) (.int 1))]) (.int 65537)),
                .app 2 (.bin .mod (.bi .int [(.sl 3)]) (.int 997))],
              .ret (.cut (.sl 2) none (some (.sl 1)))] (fun fl _ => ∃ v, fl = .rt v ∧ ∃ l, v = .lst (iL l))) := by
        intro l1 r hl1
        refine w_rg (I := fun q fr => ∃ (l : List Int) (r : Int) (e : Option PV), l.length ≤ 62 * k + 2 + q ∧ fr = [some (.scr ns), some (.int m), some (.lst (iL l)), some (.int x1), some (.int k), some (.int z1), some (.int r), e]) 60 rfl (by (simp (config := { implicitDefEqProofs := false }) (disch := first | with_reducible assumption | omega | (simp only [iL_length, List.length_map, List.length_range, List.length_append, List.length_cons, List.length_nil, List.length_take, List.length_drop]; omega)) only [vl, vls, vlo, vlc, getS_z, getS_s, wipeF, bindTg, setAll, List.set_cons_succ, List.set_cons_zero, Option.map_some, Option.bind_some, Option.map_none, Option.bind_none, blOf, intOf, nat_z, ↓reduceIte, if_true, Bool.false_eq_true, if_false, sub_tupI, sub_lstI, bi_sumL, bi_sumT, bi_allM, bi_anyM, bi_lenT, bi_lenL, bi_lenD, bi_lenS, bi_tupL, bi_tupT, bi_lstT, bi_lstL, bi_intI, bi_absI, bi_min2I, bi_max2I, bi_minL, bi_maxL, cutop_tup, cutop_lst, rev_iT, rev_iLs, op_addI, op_subI, op_mulIL, op_mulIR, op_fdivI, op_modI, op_addT, op_addLs, co_eqI, co_neI, co_ltI, co_leI, co_gtI, co_geI, co_isN, co_isntN, co_eqLs, co_neLs, co_eqTs, co_neTs, iter_lst, iter_tup, compG_range, compG_iL, compG_one, compG_if, compR_one, compR_if, compQ_one, compQ_if, compQ_nil, rgV_ok, rgV2_ok, zipV_T, zipV_L, iL_length, map_pvint, map_int0, Int.toNat_natCast, decide_eq_true_eq, zip_iL, compG_rangeMap, cut_to, cut_from, cut_mid, Option.some.injEq, exists_eq_left', Nx_rt, Tu_rt, min_cast, max_cast, max1_cast, toNat_1, toNat_1', toNat_a, toNat_s, toNat_m1, toNat_0, half_cast, co_eqT0, co_neT0, co_eqL0, co_neL0, List.length_cons, List.length_nil]); rfl) ⟨l1, r, e, hl1, rfl⟩ ?_ ?_
        · rintro q _ hq ⟨l2, r2, e2, hl2, rfl⟩
          refine ⟨_, rfl, ?_⟩
          ((first | (refine w_asg ?_ ?_; exact rfl) | (refine w_asgM ?_ ?_; exact rfl) | (refine w_par ?_ ?_; exact rfl) | (refine w_unp ?_ ?_; exact rfl) | (refine w_aug ?_ ?_; exact rfl) | (refine w_app ?_ ?_; exact rfl) | (refine w_setix ?_ ?_ ?_; exact rfl; exact rfl) | (refine w_ret ?_ ?_; exact rfl) | refine w_retM ?_ | refine w_pass ?_ | refine w_cnt ?_ | refine w_brk ?_ | (refine w_if ?_ ?_; exact rfl) | refine w_nil ?_))
          (simp (config := { implicitDefEqProofs := false }) (disch := first | with_reducible assumption | omega | (simp only [iL_length, List.length_map, List.length_range, List.length_append, List.length_cons, List.length_nil, List.length_take, List.length_drop]; omega)) only [vl, vls, vlo, vlc, getS_z, getS_s, wipeF, bindTg, setAll, List.set_cons_succ, List.set_cons_zero, Option.map_some, Option.bind_some, Option.map_none, Option.bind_none, blOf, intOf, nat_z, ↓reduceIte, if_true, Bool.false_eq_true, if_false, sub_tupI, sub_lstI, bi_sumL, bi_sumT, bi_allM, bi_anyM, bi_lenT, bi_lenL, bi_lenD, bi_lenS, bi_tupL, bi_tupT, bi_lstT, bi_lstL, bi_intI, bi_absI, bi_min2I, bi_max2I, bi_minL, bi_maxL, cutop_tup, cutop_lst, rev_iT, rev_iLs, op_addI, op_subI, op_mulIL, op_mulIR, op_fdivI, op_modI, op_addT, op_addLs, co_eqI, co_neI, co_ltI, co_leI, co_gtI, co_geI, co_isN, co_isntN, co_eqLs, co_neLs, co_eqTs, co_neTs, iter_lst, iter_tup, compG_range, compG_iL, compG_one, compG_if, compR_one, compR_if, compQ_one, compQ_if, compQ_nil, rgV_ok, rgV2_ok, zipV_T, zipV_L, iL_length, map_pvint, map_int0, Int.toNat_natCast, decide_eq_true_eq, zip_iL, compG_rangeMap, cut_to, cut_from, cut_mid, Option.some.injEq, exists_eq_left', Nx_rt, Tu_rt, min_cast, max_cast, max1_cast, toNat_1, toNat_1', toNat_a, toNat_s, toNat_m1, toNat_0, half_cast, co_eqT0, co_neT0, co_eqL0, co_neL0, List.length_cons, List.length_nil,Option.some.injEq, exists_eq_left', PV.bl.injEq])
          refine ⟨fun _ => ?_, fun _ => ?_⟩
          · ((first | (refine w_asg ?_ ?_; exact rfl) | (refine w_asgM ?_ ?_; exact rfl) | (refine w_par ?_ ?_; exact rfl) | (refine w_unp ?_ ?_; exact rfl) | (refine w_aug ?_ ?_; exact rfl) | (refine w_app ?_ ?_; exact rfl) | (refine w_setix ?_ ?_ ?_; exact rfl; exact rfl) | (refine w_ret ?_ ?_; exact rfl) | refine w_retM ?_ | refine w_pass ?_ | refine w_cnt ?_ | refine w_brk ?_ | (refine w_if ?_ ?_; exact rfl) | refine w_nil ?_))
            (simp (config := { implicitDefEqProofs := false }) (disch := first | with_reducible assumption | omega | (simp only [iL_length, List.length_map, List.length_range, List.length_append, List.length_cons, List.length_nil, List.length_take, List.length_drop]; omega)) only [vl, vls, vlo, vlc, getS_z, getS_s, wipeF, bindTg, setAll, List.set_cons_succ, List.set_cons_zero, Option.map_some, Option.bind_some, Option.map_none, Option.bind_none, blOf, intOf, nat_z, ↓reduceIte, if_true, Bool.false_eq_true, if_false, sub_tupI, sub_lstI, bi_sumL, bi_sumT, bi_allM, bi_anyM, bi_lenT, bi_lenL, bi_lenD, bi_lenS, bi_tupL, bi_tupT, bi_lstT, bi_lstL, bi_intI, bi_absI, bi_min2I, bi_max2I, bi_minL, bi_maxL, cutop_tup, cutop_lst, rev_iT, rev_iLs, op_addI, op_subI, op_mulIL, op_mulIR, op_fdivI, op_modI, op_addT, op_addLs, co_eqI, co_neI, co_ltI, co_leI, co_gtI, co_geI, co_isN, co_isntN, co_eqLs, co_neLs, co_eqTs, co_neTs, iter_lst, iter_tup, compG_range, compG_iL, compG_one, compG_if, compR_one, compR_if, compQ_one, compQ_if, compQ_nil, rgV_ok, rgV2_ok, zipV_T, zipV_L, iL_length, map_pvint, map_int0, Int.toNat_natCast, decide_eq_true_eq, zip_iL, compG_rangeMap, cut_to, cut_from, cut_mid, Option.some.injEq, exists_eq_left', Nx_rt, Tu_rt, min_cast, max_cast, max1_cast, toNat_1, toNat_1', toNat_a, toNat_s, toNat_m1, toNat_0, half_cast, co_eqT0, co_neT0, co_eqL0, co_neL0, List.length_cons, List.length_nil,Option.some.injEq, exists_eq_left', app_lst, aug_addI, aug_subI, iL_snoc, List.length_append, List.length_cons, List.length_nil, PV.tup.injEq, PV.bl.injEq, List.map_cons, List.map_nil, List.cons_append, List.nil_append, isMut, parChk, Bool.not_true, Bool.not_false, Bool.or_true, Bool.true_or, Bool.false_or, Bool.true_and, true_and])
            ((first | (refine w_asg ?_ ?_; exact rfl) | (refine w_asgM ?_ ?_; exact rfl) | (refine w_par ?_ ?_; exact rfl) | (refine w_unp ?_ ?_; exact rfl) | (refine w_aug ?_ ?_; exact rfl) | (refine w_app ?_ ?_; exact rfl) | (refine w_setix ?_ ?_ ?_; exact rfl; exact rfl) | (refine w_ret ?_ ?_; exact rfl) | refine w_retM ?_ | refine w_pass ?_ | refine w_cnt ?_ | refine w_brk ?_ | (refine w_if ?_ ?_; exact rfl) | refine w_nil ?_))
            (simp (config := { implicitDefEqProofs := false }) (disch := first | with_reducible assumption | omega | (simp only [iL_length, List.length_map, List.length_range, List.length_append, List.length_cons, List.length_nil, List.length_take, List.length_drop]; omega)) only [vl, vls, vlo, vlc, getS_z, getS_s, wipeF, bindTg, setAll, List.set_cons_succ, List.set_cons_zero, Option.map_some, Option.bind_some, Option.map_none, Option.bind_none, blOf, intOf, nat_z, ↓reduceIte, if_true, Bool.false_eq_true, if_false, sub_tupI, sub_lstI, bi_sumL, bi_sumT, bi_allM, bi_anyM, bi_lenT, bi_lenL, bi_lenD, bi_lenS, bi_tupL, bi_tupT, bi_lstT, bi_lstL, bi_intI, bi_absI, bi_min2I, bi_max2I, bi_minL, bi_maxL, cutop_tup, cutop_lst, rev_iT, rev_iLs, op_addI, op_subI, op_mulIL, op_mulIR, op_fdivI, op_modI, op_addT, op_addLs, co_eqI, co_neI, co_ltI, co_leI, co_gtI, co_geI, co_isN, co_isntN, co_eqLs, co_neLs, co_eqTs, co_neTs, iter_lst, iter_tup, compG_range, compG_iL, compG_one, compG_if, compR_one, compR_if, compQ_one, compQ_if, compQ_nil, rgV_ok, rgV2_ok, zipV_T, zipV_L, iL_length, map_pvint, map_int0, Int.toNat_natCast, decide_eq_true_eq, zip_iL, compG_rangeMap, cut_to, cut_from, cut_mid, Option.some.injEq, exists_eq_left', Nx_rt, Tu_rt, min_cast, max_cast, max1_cast, toNat_1, toNat_1', toNat_a, toNat_s, toNat_m1, toNat_0, half_cast, co_eqT0, co_neT0, co_eqL0, co_neL0, List.length_cons, List.length_nil,Option.some.injEq, exists_eq_left', app_lst, aug_addI, aug_subI, iL_snoc, List.length_append, List.length_cons, List.length_nil, PV.tup.injEq, PV.bl.injEq, List.map_cons, List.map_nil, List.cons_append, List.nil_append, isMut, parChk, Bool.not_true, Bool.not_false, Bool.or_true, Bool.true_or, Bool.false_or, Bool.true_and, true_and])
            refine w_nil (w_nil ⟨_, _, _, ?_, rfl⟩)
            simp; omega
          · refine w_nil (w_nil ⟨l2, r2, _, by omega, rfl⟩)
        · rintro _ ⟨l2, r2, e2, hl2, rfl⟩
          exact w_nil ⟨l2, x1, _, _, _, _, by omega, rfl⟩
      ((first | (refine w_asg ?_ ?_; exact rfl) | (refine w_asgM ?_ ?_; exact rfl) | (refine w_par ?_ ?_; exact rfl) | (refine w_unp ?_ ?_; exact rfl) | (refine w_aug ?_ ?_; exact rfl) | (refine w_app ?_ ?_; exact rfl) | (refine w_setix ?_ ?_ ?_; exact rfl; exact rfl) | (refine w_ret ?_ ?_; exact rfl) | refine w_retM ?_ | refine w_pass ?_ | refine w_cnt ?_ | refine w_brk ?_ | (refine w_if ?_ ?_; exact rfl) | refine w_nil ?_))
      (simp (config := { implicitDefEqProofs := false }) (disch := first | with_reducible assumption | omega | (simp only [iL_length, List.length_map, List.length_range, List.length_append, List.length_cons, List.length_nil, List.length_take, List.length_drop]; omega)) only [vl, vls, vlo, vlc, getS_z, getS_s, wipeF, bindTg, setAll, List.set_cons_succ, List.set_cons_zero, Option.map_some, Option.bind_some, Option.map_none, Option.bind_none, blOf, intOf, nat_z, ↓reduceIte, if_true, Bool.false_eq_true, if_false, sub_tupI, sub_lstI, bi_sumL, bi_sumT, bi_allM, bi_anyM, bi_lenT, bi_lenL, bi_lenD, bi_lenS, bi_tupL, bi_tupT, bi_lstT, bi_lstL, bi_intI, bi_absI, bi_min2I, bi_max2I, bi_minL, bi_maxL, cutop_tup, cutop_lst, rev_iT, rev_iLs, op_addI, op_subI, op_mulIL, op_mulIR, op_fdivI, op_modI, op_addT, op_addLs, co_eqI, co_neI, co_ltI, co_leI, co_gtI, co_geI, co_isN, co_isntN, co_eqLs, co_neLs, co_eqTs, co_neTs, iter_lst, iter_tup, compG_range, compG_iL, compG_one, compG_if, compR_one, compR_if, compQ_one, compQ_if, compQ_nil, rgV_ok, rgV2_ok, zipV_T, zipV_L, iL_length, map_pvint, map_int0, Int.toNat_natCast, decide_eq_true_eq, zip_iL, compG_rangeMap, cut_to, cut_from, cut_mid, Option.some.injEq, exists_eq_left', Nx_rt, Tu_rt, min_cast, max_cast, max1_cast, toNat_1, toNat_1', toNat_a, toNat_s, toNat_m1, toNat_0, half_cast, co_eqT0, co_neT0, co_eqL0, co_neL0, List.length_cons, List.length_nil,Option.some.injEq, exists_eq_left', PV.bl.injEq, hp])
      refine ⟨fun _ => ?_, fun _ => ?_⟩
      · ((first | (refine w_asg ?_ ?_; exact rfl) | (refine w_asgM ?_ ?_; exact rfl) | (refine w_par ?_ ?_; exact rfl) | (refine w_unp ?_ ?_; exact rfl) | (refine w_aug ?_ ?_; exact rfl) | (refine w_app ?_ ?_; exact rfl) | (refine w_setix ?_ ?_ ?_; exact rfl; exact rfl) | (refine w_ret ?_ ?_; exact rfl) | refine w_retM ?_ | refine w_pass ?_ | refine w_cnt ?_ | refine w_brk ?_ | (refine w_if ?_ ?_; exact rfl) | refine w_nil ?_))
        (simp (config := { implicitDefEqProofs := false }) (disch := first | with_reducible assumption | omega | (simp only [iL_length, List.length_map, List.length_range, List.length_append, List.length_cons, List.length_nil, List.length_take, List.length_drop]; omega)) only [vl, vls, vlo, vlc, getS_z, getS_s, wipeF, bindTg, setAll, List.set_cons_succ, List.set_cons_zero, Option.map_some, Option.bind_some, Option.map_none, Option.bind_none, blOf, intOf, nat_z, ↓reduceIte, if_true, Bool.false_eq_true, if_false, sub_tupI, sub_lstI, bi_sumL, bi_sumT, bi_allM, bi_anyM, bi_lenT, bi_lenL, bi_lenD, bi_lenS, bi_tupL, bi_tupT, bi_lstT, bi_lstL, bi_intI, bi_absI, bi_min2I, bi_max2I, bi_minL, bi_maxL, cutop_tup, cutop_lst, rev_iT, rev_iLs, op_addI, op_subI, op_mulIL, op_mulIR, op_fdivI, op_modI, op_addT, op_addLs, co_eqI, co_neI, co_ltI, co_leI, co_gtI, co_geI, co_isN, co_isntN, co_eqLs, co_neLs, co_eqTs, co_neTs, iter_lst, iter_tup, compG_range, compG_iL, compG_one, compG_if, compR_one, compR_if, compQ_one, compQ_if, compQ_nil, rgV_ok, rgV2_ok, zipV_T, zipV_L, iL_length, map_pvint, map_int0, Int.toNat_natCast, decide_eq_true_eq, zip_iL, compG_rangeMap, cut_to, cut_from, cut_mid, Option.some.injEq, exists_eq_left', Nx_rt, Tu_rt, min_cast, max_cast, max1_cast, toNat_1, toNat_1', toNat_a, toNat_s, toNat_m1, toNat_0, half_cast, co_eqT0, co_neT0, co_eqL0, co_neL0, List.length_cons, List.length_nil,Option.some.injEq, exists_eq_left'])
        exact w_nil (inner l z1 (by omega))
      · ((first | (refine w_asg ?_ ?_; exact rfl) | (refine w_asgM ?_ ?_; exact rfl) | (refine w_par ?_ ?_; exact rfl) | (refine w_unp ?_ ?_; exact rfl) | (refine w_aug ?_ ?_; exact rfl) | (refine w_app ?_ ?_; exact rfl) | (refine w_setix ?_ ?_ ?_; exact rfl; exact rfl) | (refine w_ret ?_ ?_; exact rfl) | refine w_retM ?_ | refine w_pass ?_ | refine w_cnt ?_ | refine w_brk ?_ | (refine w_if ?_ ?_; exact rfl) | refine w_nil ?_))
        (simp (config := { implicitDefEqProofs := false }) (disch := first | with_reducible assumption | omega | (simp only [iL_length, List.length_map, List.length_range, List.length_append, List.length_cons, List.length_nil, List.length_take, List.length_drop]; omega)) only [vl, vls, vlo, vlc, getS_z, getS_s, wipeF, bindTg, setAll, List.set_cons_succ, List.set_cons_zero, Option.map_some, Option.bind_some, Option.map_none, Option.bind_none, blOf, intOf, nat_z, ↓reduceIte, if_true, Bool.false_eq_true, if_false, sub_tupI, sub_lstI, bi_sumL, bi_sumT, bi_allM, bi_anyM, bi_lenT, bi_lenL, bi_lenD, bi_lenS, bi_tupL, bi_tupT, bi_lstT, bi_lstL, bi_intI, bi_absI, bi_min2I, bi_max2I, bi_minL, bi_maxL, cutop_tup, cutop_lst, rev_iT, rev_iLs, op_addI, op_subI, op_mulIL, op_mulIR, op_fdivI, op_modI, op_addT, op_addLs, co_eqI, co_neI, co_ltI, co_leI, co_gtI, co_geI, co_isN, co_isntN, co_eqLs, co_neLs, co_eqTs, co_neTs, iter_lst, iter_tup, compG_range, compG_iL, compG_one, compG_if, compR_one, compR_if, compQ_one, compQ_if, compQ_nil, rgV_ok, rgV2_ok, zipV_T, zipV_L, iL_length, map_pvint, map_int0, Int.toNat_natCast, decide_eq_true_eq, zip_iL, compG_rangeMap, cut_to, cut_from, cut_mid, Option.some.injEq, exists_eq_left', Nx_rt, Tu_rt, min_cast, max_cast, max1_cast, toNat_1, toNat_1', toNat_a, toNat_s, toNat_m1, toNat_0, half_cast, co_eqT0, co_neT0, co_eqL0, co_neL0, List.length_cons, List.length_nil,Option.some.injEq, exists_eq_left', app_lst, aug_addI, aug_subI, iL_snoc, List.length_append, List.length_cons, List.length_nil, PV.tup.injEq, PV.bl.injEq, List.map_cons, List.map_nil, List.cons_append, List.nil_append, isMut, parChk, Bool.not_true, Bool.not_false, Bool.or_true, Bool.true_or, Bool.false_or, Bool.true_and, true_and])
        ((first | (refine w_asg ?_ ?_; exact rfl) | (refine w_asgM ?_ ?_; exact rfl) | (refine w_par ?_ ?_; exact rfl) | (refine w_unp ?_ ?_; exact rfl) | (refine w_aug ?_ ?_; exact rfl) | (refine w_app ?_ ?_; exact rfl) | (refine w_setix ?_ ?_ ?_; exact rfl; exact rfl) | (refine w_ret ?_ ?_; exact rfl) | refine w_retM ?_ | refine w_pass ?_ | refine w_cnt ?_ | refine w_brk ?_ | (refine w_if ?_ ?_; exact rfl) | refine w_nil ?_))
        (simp (config := { implicitDefEqProofs := false }) (disch := first | with_reducible assumption | omega | (simp only [iL_length, List.length_map, List.length_range, List.length_append, List.length_cons, List.length_nil, List.length_take, List.length_drop]; omega)) only [vl, vls, vlo, vlc, getS_z, getS_s, wipeF, bindTg, setAll, List.set_cons_succ, List.set_cons_zero, Option.map_some, Option.bind_some, Option.map_none, Option.bind_none, blOf, intOf, nat_z, ↓reduceIte, if_true, Bool.false_eq_true, if_false, sub_tupI, sub_lstI, bi_sumL, bi_sumT, bi_allM, bi_anyM, bi_lenT, bi_lenL, bi_lenD, bi_lenS, bi_tupL, bi_tupT, bi_lstT, bi_lstL, bi_intI, bi_absI, bi_min2I, bi_max2I, bi_minL, bi_maxL, cutop_tup, cutop_lst, rev_iT, rev_iLs, op_addI, op_subI, op_mulIL, op_mulIR, op_fdivI, op_modI, op_addT, op_addLs, co_eqI, co_neI, co_ltI, co_leI, co_gtI, co_geI, co_isN, co_isntN, co_eqLs, co_neLs, co_eqTs, co_neTs, iter_lst, iter_tup, compG_range, compG_iL, compG_one, compG_if, compR_one, compR_if, compQ_one, compQ_if, compQ_nil, rgV_ok, rgV2_ok, zipV_T, zipV_L, iL_length, map_pvint, map_int0, Int.toNat_natCast, decide_eq_true_eq, zip_iL, compG_rangeMap, cut_to, cut_from, cut_mid, Option.some.injEq, exists_eq_left', Nx_rt, Tu_rt, min_cast, max_cast, max1_cast, toNat_1, toNat_1', toNat_a, toNat_s, toNat_m1, toNat_0, half_cast, co_eqT0, co_neT0, co_eqL0, co_neL0, List.length_cons, List.length_nil,Option.some.injEq, exists_eq_left', app_lst, aug_addI, aug_subI, iL_snoc, List.length_append, List.length_cons, List.length_nil, PV.tup.injEq, PV.bl.injEq, List.map_cons, List.map_nil, List.cons_append, List.nil_append, isMut, parChk, Bool.not_true, Bool.not_false, Bool.or_true, Bool.true_or, Bool.false_or, Bool.true_and, true_and])
        refine w_nil ?_
        refine inner _ 0 ?_
        simp; omega
    · rintro _ ⟨l, x, a, b, c, e, hll, rfl⟩
      refine w_rg (I := fun k fr => ∃ (l : List Int) (x : Int) (a : Option PV), l.length ≤ 62 * 63 + k ∧ fr = [some (.scr ns), some (.int m), some (.lst (iL l)), some (.int x), a, b, c, e]) m rfl (by (simp (config := { implicitDefEqProofs := false }) (disch := first | with_reducible assumption | omega | (simp only [iL_length, List.length_map, List.length_range, List.length_append, List.length_cons, List.length_nil, List.length_take, List.length_drop]; omega)) only [vl, vls, vlo, vlc, getS_z, getS_s, wipeF, bindTg, setAll, List.set_cons_succ, List.set_cons_zero, Option.map_some, Option.bind_some, Option.map_none, Option.bind_none, blOf, intOf, nat_z, ↓reduceIte, if_true, Bool.false_eq_true, if_false, sub_tupI, sub_lstI, bi_sumL, bi_sumT, bi_allM, bi_anyM, bi_lenT, bi_lenL, bi_lenD, bi_lenS, bi_tupL, bi_tupT, bi_lstT, bi_lstL, bi_intI, bi_absI, bi_min2I, bi_max2I, bi_minL, bi_maxL, cutop_tup, cutop_lst, rev_iT, rev_iLs, op_addI, op_subI, op_mulIL, op_mulIR, op_fdivI, op_modI, op_addT, op_addLs, co_eqI, co_neI, co_ltI, co_leI, co_gtI, co_geI, co_isN, co_isntN, co_eqLs, co_neLs, co_eqTs, co_neTs, iter_lst, iter_tup, compG_range, compG_iL, compG_one, compG_if, compR_one, compR_if, compQ_one, compQ_if, compQ_nil, rgV_ok, rgV2_ok, zipV_T, zipV_L, iL_length, map_pvint, map_int0, Int.toNat_natCast, decide_eq_true_eq, zip_iL, compG_rangeMap, cut_to, cut_from, cut_mid, Option.some.injEq, exists_eq_left', Nx_rt, Tu_rt, min_cast, max_cast, max1_cast, toNat_1, toNat_1', toNat_a, toNat_s, toNat_m1, toNat_0, half_cast, co_eqT0, co_neT0, co_eqL0, co_neL0, List.length_cons, List.length_nil])) ⟨l, x, a, by omega, rfl⟩ ?_ ?_
      · rintro k _ hk ⟨l, x, a, hll, rfl⟩
        refine ⟨_, rfl, ?_⟩
        ((first | (refine w_asg ?_ ?_; exact rfl) | (refine w_asgM ?_ ?_; exact rfl) | (refine w_par ?_ ?_; exact rfl) | (refine w_unp ?_ ?_; exact rfl) | (refine w_aug ?_ ?_; exact rfl) | (refine w_app ?_ ?_; exact rfl) | (refine w_setix ?_ ?_ ?_; exact rfl; exact rfl) | (refine w_ret ?_ ?_; exact rfl) | refine w_retM ?_ | refine w_pass ?_ | refine w_cnt ?_ | refine w_brk ?_ | (refine w_if ?_ ?_; exact rfl) | refine w_nil ?_))
        (simp (config := { implicitDefEqProofs := false }) (disch := first | with_reducible assumption | omega | (simp only [iL_length, List.length_map, List.length_range, List.length_append, List.length_cons, List.length_nil, List.length_take, List.length_drop]; omega)) only [vl, vls, vlo, vlc, getS_z, getS_s, wipeF, bindTg, setAll, List.set_cons_succ, List.set_cons_zero, Option.map_some, Option.bind_some, Option.map_none, Option.bind_none, blOf, intOf, nat_z, ↓reduceIte, if_true, Bool.false_eq_true, if_false, sub_tupI, sub_lstI, bi_sumL, bi_sumT, bi_allM, bi_anyM, bi_lenT, bi_lenL, bi_lenD, bi_lenS, bi_tupL, bi_tupT, bi_lstT, bi_lstL, bi_intI, bi_absI, bi_min2I, bi_max2I, bi_minL, bi_maxL, cutop_tup, cutop_lst, rev_iT, rev_iLs, op_addI, op_subI, op_mulIL, op_mulIR, op_fdivI, op_modI, op_addT, op_addLs, co_eqI, co_neI, co_ltI, co_leI, co_gtI, co_geI, co_isN, co_isntN, co_eqLs, co_neLs, co_eqTs, co_neTs, iter_lst, iter_tup, compG_range, compG_iL, compG_one, compG_if, compR_one, compR_if, compQ_one, compQ_if, compQ_nil, rgV_ok, rgV2_ok, zipV_T, zipV_L, iL_length, map_pvint, map_int0, Int.toNat_natCast, decide_eq_true_eq, zip_iL, compG_rangeMap, cut_to, cut_from, cut_mid, Option.some.injEq, exists_eq_left', Nx_rt, Tu_rt, min_cast, max_cast, max1_cast, toNat_1, toNat_1', toNat_a, toNat_s, toNat_m1, toNat_0, half_cast, co_eqT0, co_neT0, co_eqL0, co_neL0, List.length_cons, List.length_nil,Option.some.injEq, exists_eq_left', app_lst, aug_addI, aug_subI, iL_snoc, List.length_append, List.length_cons, List.length_nil, PV.tup.injEq, PV.bl.injEq, List.map_cons, List.map_nil, List.cons_append, List.nil_append, isMut, parChk, Bool.not_true, Bool.not_false, Bool.or_true, Bool.true_or, Bool.false_or, Bool.true_and, true_and])
        ((first | (refine w_asg ?_ ?_; exact rfl) | (refine w_asgM ?_ ?_; exact rfl) | (refine w_par ?_ ?_; exact rfl) | (refine w_unp ?_ ?_; exact rfl) | (refine w_aug ?_ ?_; exact rfl) | (refine w_app ?_ ?_; exact rfl) | (refine w_setix ?_ ?_ ?_; exact rfl; exact rfl) | (refine w_ret ?_ ?_; exact rfl) | refine w_retM ?_ | refine w_pass ?_ | refine w_cnt ?_ | refine w_brk ?_ | (refine w_if ?_ ?_; exact rfl) | refine w_nil ?_))
        (simp (config := { implicitDefEqProofs := false }) (disch := first | with_reducible assumption | omega | (simp only [iL_length, List.length_map, List.length_range, List.length_append, List.length_cons, List.length_nil, List.length_take, List.length_drop]; omega)) only [vl, vls, vlo, vlc, getS_z, getS_s, wipeF, bindTg, setAll, List.set_cons_succ, List.set_cons_zero, Option.map_some, Option.bind_some, Option.map_none, Option.bind_none, blOf, intOf, nat_z, ↓reduceIte, if_true, Bool.false_eq_true, if_false, sub_tupI, sub_lstI, bi_sumL, bi_sumT, bi_allM, bi_anyM, bi_lenT, bi_lenL, bi_lenD, bi_lenS, bi_tupL, bi_tupT, bi_lstT, bi_lstL, bi_intI, bi_absI, bi_min2I, bi_max2I, bi_minL, bi_maxL, cutop_tup, cutop_lst, rev_iT, rev_iLs, op_addI, op_subI, op_mulIL, op_mulIR, op_fdivI, op_modI, op_addT, op_addLs, co_eqI, co_neI, co_ltI, co_leI, co_gtI, co_geI, co_isN, co_isntN, co_eqLs, co_neLs, co_eqTs, co_neTs, iter_lst, iter_tup, compG_range, compG_iL, compG_one, compG_if, compR_one, compR_if, compQ_one, compQ_if, compQ_nil, rgV_ok, rgV2_ok, zipV_T, zipV_L, iL_length, map_pvint, map_int0, Int.toNat_natCast, decide_eq_true_eq, zip_iL, compG_rangeMap, cut_to, cut_from, cut_mid, Option.some.injEq, exists_eq_left', Nx_rt, Tu_rt, min_cast, max_cast, max1_cast, toNat_1, toNat_1', toNat_a, toNat_s, toNat_m1, toNat_0, half_cast, co_eqT0, co_neT0, co_eqL0, co_neL0, List.length_cons, List.length_nil,Option.some.injEq, exists_eq_left', app_lst, aug_addI, aug_subI, iL_snoc, List.length_append, List.length_cons, List.length_nil, PV.tup.injEq, PV.bl.injEq, List.map_cons, List.map_nil, List.cons_append, List.nil_append, isMut, parChk, Bool.not_true, Bool.not_false, Bool.or_true, Bool.true_or, Bool.false_or, Bool.true_and, true_and])
        refine w_nil ⟨_, _, _, ?_, rfl⟩
        simp; omega
      · rintro _ ⟨l, x, a, hll, rfl⟩
        ((first | (refine w_asg ?_ ?_; exact rfl) | (refine w_asgM ?_ ?_; exact rfl) | (refine w_par ?_ ?_; exact rfl) | (refine w_unp ?_ ?_; exact rfl) | (refine w_aug ?_ ?_; exact rfl) | (refine w_app ?_ ?_; exact rfl) | (refine w_setix ?_ ?_ ?_; exact rfl; exact rfl) | (refine w_ret ?_ ?_; exact rfl) | refine w_retM ?_ | refine w_pass ?_ | refine w_cnt ?_ | refine w_brk ?_ | (refine w_if ?_ ?_; exact rfl) | refine w_nil ?_))
        (simp (config := { implicitDefEqProofs := false }) (disch := first | with_reducible assumption | omega | (simp only [iL_length, List.length_map, List.length_range, List.length_append, List.length_cons, List.length_nil, List.length_take, List.length_drop]; omega)) only [vl, vls, vlo, vlc, getS_z, getS_s, wipeF, bindTg, setAll, List.set_cons_succ, List.set_cons_zero, Option.map_some, Option.bind_some, Option.map_none, Option.bind_none, blOf, intOf, nat_z, ↓reduceIte, if_true, Bool.false_eq_true, if_false, sub_tupI, sub_lstI, bi_sumL, bi_sumT, bi_allM, bi_anyM, bi_lenT, bi_lenL, bi_lenD, bi_lenS, bi_tupL, bi_tupT, bi_lstT, bi_lstL, bi_intI, bi_absI, bi_min2I, bi_max2I, bi_minL, bi_maxL, cutop_tup, cutop_lst, rev_iT, rev_iLs, op_addI, op_subI, op_mulIL, op_mulIR, op_fdivI, op_modI, op_addT, op_addLs, co_eqI, co_neI, co_ltI, co_leI, co_gtI, co_geI, co_isN, co_isntN, co_eqLs, co_neLs, co_eqTs, co_neTs, iter_lst, iter_tup, compG_range, compG_iL, compG_one, compG_if, compR_one, compR_if, compQ_one, compQ_if, compQ_nil, rgV_ok, rgV2_ok, zipV_T, zipV_L, iL_length, map_pvint, map_int0, Int.toNat_natCast, decide_eq_true_eq, zip_iL, compG_rangeMap, cut_to, cut_from, cut_mid, Option.some.injEq, exists_eq_left', Nx_rt, Tu_rt, min_cast, max_cast, max1_cast, toNat_1, toNat_1', toNat_a, toNat_s, toNat_m1, toNat_0, half_cast, co_eqT0, co_neT0, co_eqL0, co_neL0, List.length_cons, List.length_nil,Option.some.injEq, exists_eq_left'])
        exact ⟨_, rfl, _, rfl⟩
  obtain ⟨v, q1, l, q2⟩ := call_wE (F := fDraws) (args := [.scr ns, .int m]) (R := fun v => ∃ l, v = .lst (iL l)) h rfl rfl (key (evCall P d))
  exact ⟨l, by rw [q1, q2]⟩
end
/-! ### drawn numbers in a law -/
def NextOk (C : Calls) (i : Nat) : Prop := ∀ (l : List Int) (n : Nat) (m : Int), 0 < m → ∃ r : Int, 0 ≤ r ∧ r < m ∧ C i [wd l n, .int m] = some (.int r, [some (wd l (n + 1))])
def PickOk (C : Calls) (i : Nat) : Prop := ∀ (l : List Int) (n : Nat) (xs : List PV), 0 < xs.length → ∃ x, x ∈ xs ∧ C i [wd l n, .lst xs] = some (x, [some (wd l (n + 1))])
theorem nextOk {P : List Fn} {d i : Nat} (h : P[i]? = some fNext) : NextOk (evCall P (d + 1)) i := fun _ _ _ hm => next_call h hm
theorem pickOk {P : List Fn} {d i j : Nat} (h : P[i]? = some fNext) (h' : P[j]? = some (fPick i)) : PickOk (evCall P (d + 2)) j := fun _ _ _ hx => pick_call h h' hx
section
variable {C : Calls} {e s : Ex} {fr : Fr} {i j iN : Nat} {Q : PV → Fr → Prop} {l : List Int} {n : Nat} {m : Int} {own : List Nat}
theorem ve_next (hN : NextOk C iN) (hw : getS fr j = some (wd l n)) (p : pureE e = true) (hv : vl C e fr = some (.int m)) (hm : 0 < m) (k : ∀ r : Int, 0 ≤ r → r < m → Q (.int r) (fr.set j (some (wd l (n + 1))))) : VE C (.call iN [some j, none] [.sl j, e]) fr Q := by
  obtain ⟨r, h1, h2, h3⟩ := hN l n m hm
  refine ve_call (ves_cons (ve_pure rfl ⟨_, by simp only [vl]; exact hw, ves_cons (ve_pure p ⟨_, hv, ves_nil ⟨[wd l n, .int m], ?_, _, _, h3, ?_⟩⟩)⟩))
  · simp only [fillM, hw, Option.bind_some, Option.map_some]
  · exact k r h1 h2
theorem ve_pick (hN : PickOk C iN) (hw : getS fr j = some (wd l n)) {xs : List PV} (p : pureE e = true) (hv : vl C e fr = some (.lst xs)) (hm : 0 < xs.length) (k : ∀ x, x ∈ xs → Q x (fr.set j (some (wd l (n + 1))))) : VE C (.call iN [some j, none] [.sl j, e]) fr Q := by
  obtain ⟨r, h1, h3⟩ := hN l n xs hm
  refine ve_call (ves_cons (ve_pure rfl ⟨_, by simp only [vl]; exact hw, ves_cons (ve_pure p ⟨_, hv, ves_nil ⟨[wd l n, .lst xs], ?_, _, _, h3, ?_⟩⟩)⟩))
  · simp only [fillM, hw, Option.bind_some, Option.map_some]
  · exact k r h1
theorem getS_set {fr : Fr} {i j : Nat} {v : Option PV} (h : i < fr.length) : getS (fr.set i v) j = if i = j then v else getS fr j := by
  unfold getS
  rw [set_get']
  by_cases e : i = j
  · rw [if_pos e, if_pos e, if_pos h]; rfl
  · rw [if_neg e, if_neg e]
theorem getS_lt {fr : Fr} {j : Nat} {v : PV} (h : getS fr j = some v) : j < fr.length := by
  unfold getS at h
  cases hh : fr[j]? with
  | none => rw [hh] at h; cases h
  | some _ => exact (List.getElem?_eq_some_iff.mp hh).1
theorem getS_wipe {fr : Fr} {own : List Nat} {j : Nat} (h : j ∉ own) : getS (wipeF fr own) j = getS fr j := by
  unfold getS
  rw [wipeF_get', if_neg h]
theorem getS_self {fr : Fr} {j : Nat} {v : PV} (h : getS fr j = some v) : fr.set j (some v) = fr := List.ext_getElem? fun k => by
  rw [set_get']
  by_cases hk : j = k
  · subst hk
    rw [if_pos rfl, if_pos (getS_lt h)]
    unfold getS at h
    cases hh : fr[j]? with
    | none => rw [hh] at h; cases h
    | some o => rw [hh] at h; cases o with
      | none => cases h
      | some z => simpa using h.symm
  · rw [if_neg hk]
theorem off_set {g fr : Fr} {j : Nat} {v : Option PV} {own : List Nat} (h : Off own g fr) : Off own (g.set j v) (fr.set j v) := ⟨by simp [h.1], fun i hi => by
  rw [set_get', set_get', h.1, h.2 i hi]⟩
theorem off_own {fr : Fr} {i : Nat} {v : Option PV} {own : List Nat} (h : i ∈ own) : Off own (fr.set i v) fr := ⟨by simp, fun k hk => by
  rw [List.getElem?_set_ne fun z => hk (by rw [← z]; exact h)]⟩
theorem all_R {R : PV → Prop} {S : Int → Prop} (h : ∀ v, R v → ∃ x, v = .int x ∧ S x) : ∀ {vs : List PV}, (∀ v ∈ vs, R v) → ∃ xs : List Int, vs = iL xs ∧ ∀ x ∈ xs, S x
  | [], _ => ⟨[], rfl, fun _ z => absurd z (by simp)⟩
  | v :: vs, hv => by
    obtain ⟨x, rfl, hx⟩ := h v (hv v List.mem_cons_self)
    obtain ⟨xs, rfl, hxs⟩ := all_R h (vs := vs) fun w hw => hv w (List.mem_cons_of_mem _ hw)
    refine ⟨x :: xs, rfl, fun y hy => ?_⟩
    rcases List.mem_cons.mp hy with hy | hy
    · rw [hy]; exact hx
    · exact hxs y hy
/-- [_law_next(w, m) for .. in range(q)] -/
theorem ve_drawn (hN : NextOk C iN) (hm : 0 < m) (hj : j ∉ own) (ho : i ∈ own)
    (h : VE C s fr fun x fr1 => ∃ (q n0 : Nat), x = .lst (rangeL 0 q 1) ∧ getS fr1 j = some (wd l n0) ∧ ∀ (xs : List Int) (n' : Nat), xs.length = q → (∀ x ∈ xs, 0 ≤ x ∧ x < m) → Q (.lst (iL xs)) (fr1.set j (some (wd l n')))) :
    VE C (.comp s (.nm i) none (.call iN [some j, none] [.sl j, .int m]) own) fr Q := by
  refine ve_compW (w := wd l) (R := fun v => ∃ x : Int, v = .int x ∧ 0 ≤ x ∧ x < m) hj ho (h.imp fun x fr1 ⟨q, n0, hx, hw, hk⟩ => ?_)
  subst hx
  refine ⟨_, n0, rfl, hw, fun x hx n hn => ?_, fun vs k hk' hlen hR => ?_⟩
  · have hlt := getS_lt hw
    have hij : i ≠ j := fun z => hj (z ▸ ho)
    have hg : getS ((wipeF (fr1.set j (some (wd l n))) own).set i (some x)) j = some (wd l n) := by
      have : getS ((wipeF (fr1.set j (some (wd l n))) own).set i (some x)) j = getS (wipeF (fr1.set j (some (wd l n))) own) j := by
        unfold getS
        rw [List.getElem?_set_ne hij]
      rw [this, getS_wipe hj, getS_set hlt, if_pos rfl]
    refine ve_next hN hg rfl (by simp only [vl]) hm fun r h1 h2 => ⟨⟨r, rfl, h1, h2⟩, n + 1, by omega, ?_⟩
    have o1 : Off own ((wipeF (fr1.set j (some (wd l n))) own).set i (some x)) (fr1.set j (some (wd l n))) := (off_own ho).trans off_wipe
    have o2 := off_set (j := j) (v := some (wd l (n + 1))) o1
    rw [List.set_set] at o2
    exact o2
  · obtain ⟨xs, rfl, hxs⟩ := all_R (S := fun x => 0 ≤ x ∧ x < m) (fun v h => h) hR
    refine hk xs k ?_ hxs
    rw [iL_length] at hlen
    rw [hlen]
    simp [rangeL]
end
/-! ### greatest, least of rows -/
theorem foldl_max_le (xs : List Int) : ∀ x : Int, x ≤ xs.foldl max x ∧ (∀ y ∈ xs, y ≤ xs.foldl max x) ∧ (xs.foldl max x = x ∨ xs.foldl max x ∈ xs) := by
  induction xs with
  | nil => intro x; exact ⟨Int.le_refl _, fun _ z => absurd z (by simp), .inl rfl⟩
  | cons y xs ih =>
    intro x
    rw [List.foldl_cons]
    obtain ⟨h1, h2, h3⟩ := ih (max x y)
    refine ⟨by omega, fun z hz => ?_, ?_⟩
    · rcases List.mem_cons.mp hz with hz | hz
      · subst hz; omega
      · exact h2 z hz
    · rcases h3 with h3 | h3
      · rcases Int.le_total x y with h | h
        · right; rw [h3]; rw [Int.max_eq_right h]; exact List.mem_cons_self
        · left; rw [h3]; exact Int.max_eq_left h
      · exact .inr (List.mem_cons_of_mem _ h3)
theorem mxL_spec {l : List Int} (h : 0 < l.length) : mxL l ∈ l ∧ ∀ y ∈ l, y ≤ mxL l := by
  cases l with
  | nil => simp at h
  | cons x xs =>
    obtain ⟨h1, h2, h3⟩ := foldl_max_le xs x
    refine ⟨?_, fun y hy => ?_⟩
    · rcases h3 with h3 | h3
      · have e : mxL (x :: xs) = x := h3
        rw [e]; exact List.mem_cons_self
      · exact List.mem_cons_of_mem _ h3
    · rcases List.mem_cons.mp hy with hy | hy
      · rw [hy]; exact h1
      · exact h2 y hy
theorem mxL_uniq {l : List Int} {v : Int} (h : v ∈ l) (h2 : ∀ y ∈ l, y ≤ v) : mxL l = v := by
  obtain ⟨a, b⟩ := mxL_spec (List.length_pos_of_mem h)
  have := h2 _ a
  have := b _ h
  omega
theorem mxL_snoc (l : List Int) (a : Int) (h : 0 < l.length) : mxL (l ++ [a]) = max (mxL l) a := by
  cases l with
  | nil => simp at h
  | cons x xs => simp [mxL, List.foldl_append]
theorem mem_at {l : List Int} {x : Int} (h : x ∈ l) : ∃ k, k < l.length ∧ at' l k = x := by
  obtain ⟨k, hk, rfl⟩ := List.getElem_of_mem h
  exact ⟨k, hk, at_get hk⟩
theorem at_mem {l : List Int} {k : Nat} (h : k < l.length) : at' l k ∈ l := by rw [at_get h]; exact List.getElem_mem h
theorem at_map {α : Type} {l : List α} {f : α → Int} {k : Nat} {a : α} (h : l[k]? = some a) : at' (l.map f) k = f a := by simp [at', List.getD, h]
theorem at_rmap {n k : Nat} {f : Nat → Int} (h : k < n) : at' ((List.range n).map f) k = f k := at_map (by simp [h])
theorem indexL_iL {m : Int} : ∀ {l : List Int} {i j : Nat}, i < l.length → at' l i = m → (∀ k, k < i → at' l k ≠ m) → indexL (.int m) (iL l) j = some (j + i)
  | x :: l, 0, j, _, h2, _ => by
    have : x = m := h2
    subst this
    rw [iL_cons]
    simp [indexL, pyEq]
  | x :: l, i + 1, j, h1, h2, h3 => by
    have hx : ¬ x = m := h3 0 (by omega)
    rw [iL_cons]
    simp only [indexL, pyEq, decide_eq_true_eq]
    rw [if_neg hx, indexL_iL (i := i) (by simpa using h1) h2 fun k hk => h3 (k + 1) (by omega)]
    congr 1; omega
  | [], i, _, h1, _, _ => by simp at h1
theorem meth_idx {l : List Int} {m : Int} {i : Nat} (h1 : i < l.length) (h2 : at' l i = m) (h3 : ∀ k, k < i → at' l k ≠ m) : methop .index (.lst (iL l)) [.int m] = some (.int i) := by
  simp only [methop]
  rw [datOk_iL, depth_iL, indexL_iL h1 h2 h3]
  simp [datOk, depth]
theorem recv_idx (xs : List PV) : recvOk .index (.lst xs) = true := rfl
/-- for x in a row: an invariant -/
theorem w_each {C : Calls} {s : Ex} {tg : Tg} {b ss : List Sm} {fr : Fr} {Q : Fl → Fr → Prop} {I : Fr → Prop} {x : PV} {xs : List PV} (p : pureE s = true) (hs : vl C s fr = some x) (hx : iterV x = some xs) (h0 : I fr)
    (st : ∀ y ∈ xs, ∀ fr, I fr → ∃ g, bindTg tg y fr = some g ∧ W C b g (Tu I C ss Q)) (k : ∀ fr, I fr → W C ss fr Q) : W C (.for_ tg s b :: ss) fr Q := by
  have e : xs = (List.range xs.length).map fun k => xs.getD k .non := by
    apply List.ext_getElem?
    intro i
    by_cases h : i < xs.length
    · simp [h, List.getD]
    · rw [List.getElem?_eq_none (by omega), List.getElem?_eq_none (by simp; omega)]
  refine w_for (I := fun _ => I) (fun k => xs.getD k .non) xs.length p hs (by rw [hx, ← e]) h0 (fun k fr hk hI => ?_) k
  refine st _ ?_ fr hI
  simp only [List.getD, List.getElem?_eq_getElem hk, Option.getD_some]
  exact List.getElem_mem hk
end EV

set_option linter.all false
set_option Elab.async false
set_option maxRecDepth 100000
/-! k34: the compiled defs. -/
namespace K34
open EV
def b_is_number : List Sm := [
  .ret (.and (.isi .int (.sl 0)) (.not (.isi .bool (.sl 0))))]
def f_is_number : Fn := { na := 1, ns := 1, cls := [.L], mps := [], fresh := false, body := b_is_number }
def b_are_numbers : List Sm := [
  .ret (.and (.isi .tuple (.sl 0)) (.bi .all [(.comp (.sl 0) (.nm 1) none (.call 0 [none] [(.sl 1)]) [1])]))]
def f_are_numbers : Fn := { na := 1, ns := 2, cls := [.L, .P], mps := [], fresh := false, body := b_are_numbers }
def b_is_curve : List Sm := [
  .ifs (.or (.not (.call 1 [none] [(.sl 0)])) (.or (.cmp .eq (.sl 0) (.tup [])) (.cmp .lt (.sub (.sl 0) (.int 0)) (.int 0)))) [
    .ret (.bl false)] [],
  .ret (.bi .all [(.comp (.rg1 (.bin .sub (.bi .len [(.sl 0)]) (.int 1))) (.nm 1) none (.cmp .le (.sub (.sl 0) (.sl 1)) (.sub (.sl 0) (.bin .add (.sl 1) (.int 1)))) [1])])]
def f_is_curve : Fn := { na := 1, ns := 2, cls := [.L, .P], mps := [], fresh := false, body := b_is_curve }
def b_served : List Sm := [
  .par [2, 3, 4] [false, true, false] [(.int 0), (.lst []), (.int 0)],
  .for_ (.nm 5) (.rg1 (.bi .len [(.sl 0)])) [
    .aug 2 .add (.sub (.sl 0) (.sl 5)),
    .asg 6 (.bi .min2 [(.sl 2), (.sub (.sl 1) (.sl 5))]),
    .aug 2 .sub (.sl 6),
    .aug 4 .add (.sl 6),
    .app 3 (.sl 4)],
  .ret (.bi .tuple [(.sl 3)])]
def f_served : Fn := { na := 2, ns := 7, cls := [.L, .L, .P, .M, .P, .P, .P], mps := [], fresh := true, body := b_served }
def b_backlogs : List Sm := [
  .asg 2 (.call 3 [none, none] [(.sl 0), (.sl 1)]),
  .ret (.bi .tuple [(.comp (.rg1 (.bi .len [(.sl 0)])) (.nm 3) none (.bin .sub (.bi .sum [(.cut (.sl 0) none (some (.bin .add (.sl 3) (.int 1))))]) (.sub (.sl 2) (.sl 3))) [3])])]
def f_backlogs : Fn := { na := 2, ns := 4, cls := [.L, .L, .P, .P], mps := [], fresh := true, body := b_backlogs }
def b_rows_behind : List Sm := [
  .asg 2 (.bi .min2 [(.bi .len [(.sl 0)]), (.bi .len [(.sl 1)])]),
  .ret (.bi .tuple [(.comp (.rg1 (.sl 2)) (.nm 3) none (.bi .min [(.comp (.rg1 (.bin .add (.sl 3) (.int 1))) (.nm 4) none (.bin .add (.sub (.sl 0) (.sl 4)) (.sub (.sl 1) (.bin .sub (.sl 3) (.sl 4)))) [4])]) [3])])]
def f_rows_behind : Fn := { na := 2, ns := 5, cls := [.L, .L, .P, .P, .P], mps := [], fresh := true, body := b_rows_behind }
def b_most_left : List Sm := [
  .asg 2 (.comp (.rg1 (.bi .min2 [(.bi .len [(.sl 0)]), (.bi .len [(.sl 1)])])) (.nm 3) none (.tup [(.bin .sub (.sub (.sl 1) (.sl 3)) (.sub (.sl 0) (.sl 3))), (.sl 3)]) [3]),
  .ret (.tup [(.bi .max2 [(.int 0), (.neg (.sub (.bi .min [(.sl 2)]) (.int 0)))]), (.sub (.bi .min [(.sl 2)]) (.int 1))])]
def f_most_left : Fn := { na := 2, ns := 4, cls := [.L, .L, .P, .P], mps := [], fresh := true, body := b_most_left }
def b_longest_wait : List Sm := [
  .asg 2 (.int 0),
  .for_ (.nm 3) (.rg1 (.bi .len [(.sl 0)])) [
    .asg 4 (.comp (.rg1 (.bin .sub (.bi .len [(.sl 1)]) (.sl 3))) (.nm 5) (some (.cmp .ge (.sub (.sl 1) (.bin .add (.sl 3) (.sl 5))) (.sub (.sl 0) (.sl 3)))) (.sl 5) [5]),
    .ifs (.cmp .eq (.sl 4) (.lst [])) [
      .ret .non] [],
    .asg 2 (.bi .max2 [(.sl 2), (.sub (.sl 4) (.int 0))])],
  .ret (.sl 2)]
def f_longest_wait : Fn := { na := 2, ns := 6, cls := [.L, .L, .P, .P, .P, .P], mps := [], fresh := false, body := b_longest_wait }
def b_left_over : List Sm := [
  .par [2, 3] [true, false] [(.lst []), (.int 0)],
  .for_ (.nm 4) (.rg1 (.bi .min2 [(.bi .len [(.sl 0)]), (.bi .len [(.sl 1)])])) [
    .asg 3 (.bi .max2 [(.sl 3), (.bin .sub (.sub (.sl 0) (.sl 4)) (.sub (.sl 1) (.sl 4)))]),
    .app 2 (.sl 3)],
  .ret (.bi .tuple [(.sl 2)])]
def f_left_over : Fn := { na := 2, ns := 5, cls := [.L, .L, .M, .P, .P], mps := [], fresh := true, body := b_left_over }
def b_after : List Sm := [
  .asg 2 (.bin .fdiv (.bin .add (.bi .min2 [(.bi .len [(.sl 0)]), (.bi .len [(.sl 1)])]) (.int 1)) (.int 2)),
  .ret (.bi .tuple [(.comp (.rg1 (.sl 2)) (.nm 3) none (.bi .max [(.comp (.rg1 (.sl 2)) (.nm 4) none (.bin .sub (.sub (.sl 0) (.bin .add (.sl 3) (.sl 4))) (.sub (.sl 1) (.sl 4))) [4])]) [3])])]
def f_after : Fn := { na := 2, ns := 5, cls := [.L, .L, .P, .P, .P], mps := [], fresh := true, body := b_after }
def b_steps_curve : List Sm := [
  .ret (.bi .tuple [(.comp (.rg1 (.bin .add (.sl 2) (.int 1))) (.nm 3) none (.bin .mul (.sl 0) (.neg (.bin .fdiv (.neg (.sl 3)) (.sl 1)))) [3])])]
def f_steps_curve : Fn := { na := 3, ns := 4, cls := [.L, .L, .L, .P], mps := [], fresh := true, body := b_steps_curve }
def b_rate_curve : List Sm := [
  .ret (.bi .tuple [(.comp (.rg1 (.bin .add (.sl 2) (.int 1))) (.nm 3) none (.bin .mul (.bi .max2 [(.int 0), (.bin .sub (.sl 3) (.sl 0))]) (.sl 1)) [3])])]
def f_rate_curve : Fn := { na := 3, ns := 4, cls := [.L, .L, .L, .P], mps := [], fresh := true, body := b_rate_curve }
def b_is_within : List Sm := [
  .for_ (.nm 2) (.rg1 (.bi .len [(.sl 0)])) [
    .for_ (.nm 3) (.rg2 (.bin .add (.sl 2) (.int 1)) (.bin .add (.bi .min2 [(.bi .len [(.sl 0)]), (.bin .sub (.bin .add (.sl 2) (.bi .len [(.sl 1)])) (.int 1))]) (.int 1))) [
      .ifs (.cmp .gt (.bi .sum [(.cut (.sl 0) (some (.sl 2)) (some (.sl 3)))]) (.sub (.sl 1) (.bin .sub (.sl 3) (.sl 2)))) [
        .ret (.tup [(.sl 2), (.sl 3)])] []]],
  .ret .non]
def f_is_within : Fn := { na := 2, ns := 4, cls := [.L, .L, .P, .P], mps := [], fresh := false, body := b_is_within }
def b_narrowest : List Sm := [
  .asgM 2 (.lst [(.int 0)]),
  .for_ (.nm 3) (.rg2 (.int 1) (.bin .add (.sl 1) (.int 1))) [
    .asg 4 (.comp (.rg1 (.bi .max2 [(.int 1), (.bi .len [(.sl 0)])])) (.nm 5) none (.bi .sum [(.cut (.sl 0) (some (.sl 5)) (some (.bin .add (.sl 5) (.sl 3))))]) [5]),
    .app 2 (.bi .max [(.sl 4)])],
  .ret (.bi .tuple [(.sl 2)])]
def f_narrowest : Fn := { na := 2, ns := 6, cls := [.L, .L, .M, .P, .P, .P], mps := [], fresh := true, body := b_narrowest }
def b_is_kept : List Sm := [
  .ret (.bi .all [(.comp (.zip (.sl 0) (.sl 1)) (.tp [2, 3]) none (.cmp .le (.sl 2) (.sl 3)) [2, 3])])]
def f_is_kept : Fn := { na := 2, ns := 4, cls := [.P, .P, .P, .P], mps := [], fresh := true, body := b_is_kept }
def b__law_draws : List Sm := [
  .asgM 2 (.lst []),
  .asg 3 (.int 7),
  .for_ (.nm 4) (.rg1 (.bi .len [(.sl 0)])) [
    .asg 5 (.bi .abs [(.bi .int [(.sub (.sl 0) (.sl 4))])]),
    .asg 3 (.bin .mod (.bi .int [(.bin .add (.bin .add (.bin .mul (.sl 3) (.int 48271)) (.bin .mod (.sl 5) (.int 1000003))) (.sl 4))]) (.int 65537)),
    .asg 6 (.int 0),
    .ifs (.cmp .ge (.sl 5) (.bin .pow (.int 10) (.int 18))) [
      .asg 6 (.sl 5)] [
      .app 2 (.bin .mod (.bi .int [(.sl 5)]) (.int 997)),
      .app 2 (.bin .mod (.bin .mod (.bi .int [(.bin .add (.bin .mul (.sl 3) (.int 69621)) (.int 5))]) (.int 65521)) (.int 997))],
    .for_ (.nm 7) (.rg1 (.int 60)) [
      .ifs (.cmp .gt (.sl 6) (.int 0)) [
        .app 2 (.bin .mod (.bi .int [(.sl 6)]) (.int 997)),
        .asg 6 (.bin .fdiv (.sl 6) (.int 997))] []]],
  .for_ (.nm 4) (.rg1 (.sl 1)) [
    .asg 3 (.bin .mod (.bi .int [(.bin .add (.bin .add (.bin .mul (.sl 3) (.int 16807)) (.sl 4)) (.int 1))]) (.int 65537)),
    .app 2 (.bin .mod (.bi .int [(.sl 3)]) (.int 997))],
  .ret (.cut (.sl 2) none (some (.sl 1)))]
def f__law_draws : Fn := { na := 2, ns := 8, cls := [.L, .L, .M, .P, .P, .P, .P, .P], mps := [], fresh := true, body := b__law_draws }
def b__law_next : List Sm := [
  .augix 0 (.str [97, 116]) .add (.int 1),
  .ifs (.cmp .gt (.sub (.sl 0) (.str [97, 116])) (.bi .len [(.sub (.sl 0) (.str [100, 114, 97, 119, 115]))])) [
    .ret (.int 0)] [],
  .ret (.bin .mod (.bi .int [(.sub (.sub (.sl 0) (.str [100, 114, 97, 119, 115])) (.bin .sub (.sub (.sl 0) (.str [97, 116])) (.int 1)))]) (.sl 1))]
def f__law_next : Fn := { na := 2, ns := 2, cls := [.M, .L], mps := [0], fresh := false, body := b__law_next }
def b__law_pick : List Sm := [
  .ret (.sub (.sl 1) (.call 16 [(some 0), none] [(.sl 0), (.bi .len [(.sl 1)])]))]
def f__law_pick : Fn := { na := 2, ns := 2, cls := [.M, .L], mps := [0], fresh := false, body := b__law_pick }
def b__law_is_number : List Sm := [
  .ret (.and (.isi .int (.sl 0)) (.not (.isi .bool (.sl 0))))]
def f__law_is_number : Fn := { na := 1, ns := 1, cls := [.L], mps := [], fresh := false, body := b__law_is_number }
def b__law_is_bit : List Sm := [
  .ret (.or (.and (.sl 1) (.cmp .is (.sl 0) (.bl true))) (.and (.not (.sl 1)) (.cmp .is (.sl 0) (.bl false))))]
def f__law_is_bit : Fn := { na := 2, ns := 2, cls := [.L, .L], mps := [], fresh := false, body := b__law_is_bit }
def b__law_curve : List Sm := [
  .par [2, 3] [false, false] [(.tup []), (.call 16 [(some 0), none] [(.sl 0), (.int 3)])],
  .for_ (.nm 4) (.rg1 (.bin .add (.int 1) (.call 16 [(some 0), none] [(.sl 0), (.sl 1)]))) [
    .asg 2 (.bin .add (.sl 2) (.tup [(.sl 3)])),
    .aug 3 .add (.call 17 [(some 0), none] [(.sl 0), (.lst [(.int 0), (.int 1), (.int 2), (.int 4)])])],
  .ret (.sl 2)]
def f__law_curve : Fn := { na := 2, ns := 5, cls := [.M, .L, .P, .P, .P], mps := [0], fresh := false, body := b__law_curve }
def b_law : List Sm := [
  .asgM 1 (.dct [(.str [100, 114, 97, 119, 115]), (.call 15 [none, none] [(.sl 0), (.int 300)]), (.str [97, 116]), (.int 0)]),
  .for_ (.nm 2) (.rg1 (.int 4)) [
    .par [3, 4] [false, false] [(.call 20 [(some 1), none] [(.sl 1), (.int 9)]), (.call 20 [(some 1), none] [(.sl 1), (.int 9)])],
    .asg 5 (.bi .tuple [(.comp (.rg1 (.call 16 [(some 1), none] [(.sl 1), (.int 9)])) (.nm 28) none (.call 16 [(some 1), none] [(.sl 1), (.int 5)]) [28])]),
    .asg 6 (.bi .tuple [(.comp (.rg1 (.bin .add (.bi .len [(.sl 5)]) (.call 16 [(some 1), none] [(.sl 1), (.int 3)]))) (.nm 28) none (.call 16 [(some 1), none] [(.sl 1), (.int 4)]) [28])]),
    .par [7, 8, 9, 10] [false, false, true, true] [(.int 0), (.int 0), (.lst []), (.lst [])],
    .for_ (.nm 11) (.rg1 (.bi .len [(.sl 5)])) [
      .aug 7 .add (.sub (.sl 5) (.sl 11)),
      .asg 12 (.ife (.cmp .lt (.sl 7) (.sub (.sl 6) (.sl 11))) (.sl 7) (.sub (.sl 6) (.sl 11))),
      .par [7, 8] [false, false] [(.bin .sub (.sl 7) (.sl 12)), (.bin .add (.sl 8) (.sl 12))],
      .app 9 (.sl 8),
      .app 10 (.sl 7)],
    .ifs (.or (.cmp .ne (.call 3 [none, none] [(.sl 5), (.sl 6)]) (.bi .tuple [(.sl 9)])) (.cmp .ne (.call 4 [none, none] [(.sl 5), (.sl 6)]) (.bi .tuple [(.sl 10)]))) [
      .ret (.bl false)] [],
    .asg 13 (.bi .min2 [(.bi .len [(.sl 3)]), (.bi .len [(.sl 4)])]),
    .asgM 14 (.lst []),
    .for_ (.nm 15) (.rg1 (.sl 13)) [
      .app 14 (.bi .min [(.comp (.rg1 (.bin .add (.sl 15) (.int 1))) (.nm 28) none (.bin .add (.sub (.sl 3) (.sl 28)) (.sub (.sl 4) (.bin .sub (.sl 15) (.sl 28)))) [28])])],
    .ifs (.cmp .ne (.call 5 [none, none] [(.sl 3), (.sl 4)]) (.bi .tuple [(.sl 14)])) [
      .ret (.bl false)] [],
    .asg 16 (.comp (.rg1 (.sl 13)) (.nm 15) none (.bin .sub (.sub (.sl 3) (.sl 15)) (.sub (.sl 4) (.sl 15))) [15]),
    .ifs (.cmp .ne (.call 6 [none, none] [(.sl 3), (.sl 4)]) (.tup [(.bi .max [(.bin .add (.lst [(.int 0)]) (.sl 16))]), (.meth .index (.sl 16) [(.bi .max [(.sl 16)])])])) [
      .ret (.bl false)] [],
    .asgM 17 (.lst []),
    .for_ (.nm 15) (.rg1 (.bi .len [(.sl 3)])) [
      .asg 18 (.comp (.rg2 (.sl 15) (.bi .len [(.sl 4)])) (.nm 35) (some (.cmp .ge (.sub (.sl 4) (.sl 35)) (.sub (.sl 3) (.sl 15)))) (.sl 35) [35]),
      .app 17 (.ife (.cmp .ne (.sl 18) (.lst [])) (.bin .sub (.sub (.sl 18) (.int 0)) (.sl 15)) .non)],
    .ifs (.cmp .ne (.call 7 [none, none] [(.sl 3), (.sl 4)]) (.ife (.cmp .isin .non (.sl 17)) .non (.bi .max [(.sl 17)]))) [
      .ret (.bl false)] [],
    .ifs (.cmp .ne (.call 8 [none, none] [(.sl 3), (.sl 4)]) (.bi .tuple [(.comp (.rg1 (.sl 13)) (.nm 15) none (.bi .max [(.bin .add (.lst [(.int 0)]) (.cut (.sl 16) none (some (.bin .add (.sl 15) (.int 1)))))]) [15])])) [
      .ret (.bl false)] [],
    .asg 19 (.bin .fdiv (.bin .add (.sl 13) (.int 1)) (.int 2)),
    .ifs (.cmp .ne (.call 9 [none, none] [(.sl 3), (.sl 4)]) (.bi .tuple [(.comp (.rg1 (.sl 19)) (.nm 15) none (.bi .max [(.comp (.rg1 (.sl 19)) (.nm 28) none (.bin .sub (.sub (.sl 3) (.bin .add (.sl 15) (.sl 28))) (.sub (.sl 4) (.sl 28))) [28])]) [15])])) [
      .ret (.bl false)] [],
    .par [20, 21, 22, 15] [false, false, false, false] [(.bin .add (.int 1) (.call 16 [(some 1), none] [(.sl 1), (.int 4)])), (.bin .add (.int 1) (.call 16 [(some 1), none] [(.sl 1), (.int 5)])), (.call 16 [(some 1), none] [(.sl 1), (.int 5)]), (.call 16 [(some 1), none] [(.sl 1), (.int 9)])],
    .asg 23 (.comp (.rg1 (.bin .add (.sl 15) (.int 1))) (.nm 34) none (.bi .sum [(.comp (.rg1 (.sl 34)) (.nm 28) (some (.cmp .lt (.bin .mul (.sl 28) (.sl 21)) (.sl 34))) (.sl 20) [28])]) [34]),
    .ifs (.or (.cmp .ne (.call 10 [none, none, none] [(.sl 20), (.sl 21), (.sl 15)]) (.bi .tuple [(.sl 23)])) (.cmp .ne (.call 11 [none, none, none] [(.sl 22), (.sl 20), (.sl 15)]) (.bi .tuple [(.comp (.rg1 (.bin .add (.sl 15) (.int 1))) (.nm 34) none (.ife (.cmp .gt (.sl 34) (.sl 22)) (.bin .mul (.sl 20) (.bin .sub (.sl 34) (.sl 22))) (.int 0)) [34])]))) [
      .ret (.bl false)] [],
    .asg 24 (.lst []),
    .for_ (.nm 25) (.rg1 (.bi .len [(.sl 5)])) [
      .asg 24 (.bin .add (.sl 24) (.comp (.rg2 (.bin .add (.sl 25) (.int 1)) (.bin .add (.bi .len [(.sl 5)]) (.int 1))) (.nm 37) (some (.and (.cmp .lt (.bin .sub (.sl 37) (.sl 25)) (.bi .len [(.sl 3)])) (.cmp .gt (.bi .sum [(.cut (.sl 5) (some (.sl 25)) (some (.sl 37)))]) (.sub (.sl 3) (.bin .sub (.sl 37) (.sl 25)))))) (.tup [(.sl 25), (.sl 37)]) [37]))],
    .ifs (.cmp .ne (.call 12 [none, none] [(.sl 5), (.sl 3)]) (.ife (.cmp .ne (.sl 24) (.lst [])) (.bi .min [(.sl 24)]) .non)) [
      .ret (.bl false)] [],
    .asg 26 (.call 13 [none, none] [(.sl 5), (.sl 15)]),
    .asg 27 (.comp (.rg1 (.bin .add (.sl 15) (.int 1))) (.nm 34) none (.bi .max [(.bin .add (.lst [(.int 0)]) (.comp (.rg1 (.bi .len [(.sl 5)])) (.nm 25) none (.bi .sum [(.cut (.sl 5) (some (.sl 25)) (some (.bin .add (.sl 25) (.sl 34))))]) [25]))]) [34]),
    .ifs (.or (.cmp .ne (.sl 26) (.bi .tuple [(.sl 27)])) (.cmp .isnt (.call 12 [none, none] [(.sl 5), (.sl 26)]) .non)) [
      .ret (.bl false)] [],
    .ifs (.not (.call 19 [none, none] [(.call 14 [none, none] [(.sl 3), (.sl 4)]), (.cmp .eq (.comp (.sl 16) (.nm 21) (some (.cmp .gt (.sl 21) (.int 0))) (.sl 21) [21]) (.lst []))])) [
      .ret (.bl false)] [],
    .asg 28 (.call 16 [(some 1), none] [(.sl 1), (.bi .len [(.sl 3)])]),
    .par [29, 30] [false, false] [(.cut (.sl 3) none (some (.sl 28))), (.cut (.sl 3) (some (.bin .add (.sl 28) (.int 1))) none)],
    .asg 31 (.bin .add (.lst [(.sl 3), (.rev (.sl 3)), (.bi .list [(.sl 3)]), .non, (.tup []), (.tup [(.int 0)]), (.tup [(.bl false)])]) (.comp (.tup [(.neg (.int 1)), (.bl true), (.int 99), (.str [97])]) (.nm 36) none (.bin .add (.bin .add (.sl 29) (.tup [(.sl 36)])) (.sl 30)) [36])),
    .for_ (.nm 32) (.sl 31) [
      .asg 33 (.and (.isi .tuple (.sl 32)) (.and (.cmp .ne (.sl 32) (.tup [])) (.cmp .eq (.comp (.sl 32) (.nm 34) (some (.not (.call 18 [none] [(.sl 34)]))) (.sl 34) [34]) (.lst [])))),
      .ifs (.not (.call 19 [none, none] [(.call 2 [none] [(.sl 32)]), (.and (.sl 33) (.and (.cmp .ge (.sub (.sl 32) (.int 0)) (.int 0)) (.cmp .eq (.bi .list [(.sl 32)]) (.bi .sorted [(.sl 32)]))))])) [
        .ret (.bl false)] []]],
  .ret (.bl true)]
def f_law : Fn := { na := 1, ns := 38, cls := [.L, .M, .P, .P, .P, .P, .P, .P, .P, .M, .M, .P, .P, .P, .M, .P, .P, .M, .P, .P, .P, .P, .P, .P, .P, .P, .P, .P, .P, .P, .P, .P, .P, .P, .P, .P, .P, .P], mps := [], fresh := false, body := b_law }
def P : List Fn := [f_is_number, f_are_numbers, f_is_curve, f_served, f_backlogs, f_rows_behind, f_most_left, f_longest_wait, f_left_over, f_after, f_steps_curve, f_rate_curve, f_is_within, f_narrowest, f_is_kept, f__law_draws, f__law_next, f__law_pick, f__law_is_number, f__law_is_bit, f__law_curve, f_law]
end K34

set_option linter.all false
set_option Elab.async false
set_option maxRecDepth 10000
namespace K34
open EV
def isNum : PV → Bool
  | .int _ => true | _ => false
/-- what isinstance can be asked of -/
def smp : PV → Bool
  | .ins _ _ => false | .fn _ => false | .bm _ _ => false | .scr _ => false | _ => true
theorem num_vl (C : Calls) {v : PV} (h : smp v = true) : vl C (.and (.isi .int (.sl 0)) (.not (.isi .bool (.sl 0)))) [some v] = some (.bl (isNum v)) := by
  cases v <;> first | (simp [smp] at h; done) | rfl
section
variable {d : Nat}
theorem ok0 {v : PV} (h : smp v = true) : evCall P (d + 1) 0 [v] = some (.bl (isNum v), []) := by
  refine call_w (F := f_is_number) rfl rfl rfl ?_
  generalize evCall P d = C at *
  show W C b_is_number [some v] _
  unfold b_is_number
  ((first | (refine w_asg ?_ ?_; exact rfl) | (refine w_asgM ?_ ?_; exact rfl) | (refine w_par ?_ ?_; exact rfl) | (refine w_unp ?_ ?_; exact rfl) | (refine w_aug ?_ ?_; exact rfl) | (refine w_app ?_ ?_; exact rfl) | (refine w_setix ?_ ?_ ?_; exact rfl; exact rfl) | (refine w_ret ?_ ?_; exact rfl) | refine w_retM ?_ | refine w_pass ?_ | refine w_cnt ?_ | refine w_brk ?_ | (refine w_if ?_ ?_; exact rfl) | refine w_nil ?_))
  exact ⟨_, num_vl C h, rfl⟩
theorem ok18 {v : PV} (h : smp v = true) : evCall P (d + 1) 18 [v] = some (.bl (isNum v), []) := by
  refine call_w (F := f__law_is_number) rfl rfl rfl ?_
  generalize evCall P d = C at *
  show W C b__law_is_number [some v] _
  unfold b__law_is_number
  ((first | (refine w_asg ?_ ?_; exact rfl) | (refine w_asgM ?_ ?_; exact rfl) | (refine w_par ?_ ?_; exact rfl) | (refine w_unp ?_ ?_; exact rfl) | (refine w_aug ?_ ?_; exact rfl) | (refine w_app ?_ ?_; exact rfl) | (refine w_setix ?_ ?_ ?_; exact rfl; exact rfl) | (refine w_ret ?_ ?_; exact rfl) | refine w_retM ?_ | refine w_pass ?_ | refine w_cnt ?_ | refine w_brk ?_ | (refine w_if ?_ ?_; exact rfl) | refine w_nil ?_))
  exact ⟨_, num_vl C h, rfl⟩
theorem ok1 {xs : List PV} (h : ∀ x ∈ xs, smp x = true) : evCall P (d + 2) 1 [.tup xs] = some (.bl (xs.all isNum), []) := by
  have h0 : ∀ x ∈ xs, evCall P (d + 1) 0 [x] = some (.bl (isNum x), []) := fun x hx => ok0 (h x hx)
  refine call_w (d := d + 1) (F := f_are_numbers) rfl rfl rfl ?_
  generalize evCall P (d + 1) = C at *
  show W C b_are_numbers [some (.tup xs), none] _
  unfold b_are_numbers
  ((first | (refine w_asg ?_ ?_; exact rfl) | (refine w_asgM ?_ ?_; exact rfl) | (refine w_par ?_ ?_; exact rfl) | (refine w_unp ?_ ?_; exact rfl) | (refine w_aug ?_ ?_; exact rfl) | (refine w_app ?_ ?_; exact rfl) | (refine w_setix ?_ ?_ ?_; exact rfl; exact rfl) | (refine w_ret ?_ ?_; exact rfl) | refine w_retM ?_ | refine w_pass ?_ | refine w_cnt ?_ | refine w_brk ?_ | (refine w_if ?_ ?_; exact rfl) | refine w_nil ?_))
  (simp (config := { implicitDefEqProofs := false }) (disch := first | with_reducible assumption | omega | (simp only [iL_length, List.length_map, List.length_range, List.length_append, List.length_cons, List.length_nil, List.length_take, List.length_drop]; omega)) only [vl, vls, vlo, vlc, getS_z, getS_s, wipeF, bindTg, setAll, List.set_cons_succ, List.set_cons_zero, Option.map_some, Option.bind_some, Option.map_none, Option.bind_none, blOf, intOf, nat_z, ↓reduceIte, if_true, Bool.false_eq_true, if_false, sub_tupI, sub_lstI, bi_sumL, bi_sumT, bi_allM, bi_anyM, bi_lenT, bi_lenL, bi_lenD, bi_lenS, bi_tupL, bi_tupT, bi_lstT, bi_lstL, bi_intI, bi_absI, bi_min2I, bi_max2I, bi_minL, bi_maxL, cutop_tup, cutop_lst, rev_iT, rev_iLs, op_addI, op_subI, op_mulIL, op_mulIR, op_fdivI, op_modI, op_addT, op_addLs, co_eqI, co_neI, co_ltI, co_leI, co_gtI, co_geI, co_isN, co_isntN, co_eqLs, co_neLs, co_eqTs, co_neTs, iter_lst, iter_tup, compG_range, compG_iL, compG_one, compG_if, compR_one, compR_if, compQ_one, compQ_if, compQ_nil, rgV_ok, rgV2_ok, zipV_T, zipV_L, iL_length, map_pvint, map_int0, Int.toNat_natCast, decide_eq_true_eq, zip_iL, compG_rangeMap, cut_to, cut_from, cut_mid, Option.some.injEq, exists_eq_left', Nx_rt, Tu_rt, min_cast, max_cast, max1_cast, toNat_1, toNat_1', toNat_a, toNat_s, toNat_m1, toNat_0, half_cast, co_eqT0, co_neT0, co_eqL0, co_neL0, List.length_cons, List.length_nil,isTy, h0, compG_memC, Option.some.injEq, exists_eq_left'])
theorem ok1n {v : PV} (h : smp v = true) (hn : ∀ xs, v ≠ .tup xs) : evCall P (d + 2) 1 [v] = some (.bl false, []) := by
  refine call_w (d := d + 1) (F := f_are_numbers) rfl rfl rfl ?_
  generalize evCall P (d + 1) = C at *
  show W C b_are_numbers [some v, none] _
  unfold b_are_numbers
  ((first | (refine w_asg ?_ ?_; exact rfl) | (refine w_asgM ?_ ?_; exact rfl) | (refine w_par ?_ ?_; exact rfl) | (refine w_unp ?_ ?_; exact rfl) | (refine w_aug ?_ ?_; exact rfl) | (refine w_app ?_ ?_; exact rfl) | (refine w_setix ?_ ?_ ?_; exact rfl; exact rfl) | (refine w_ret ?_ ?_; exact rfl) | refine w_retM ?_ | refine w_pass ?_ | refine w_cnt ?_ | refine w_brk ?_ | (refine w_if ?_ ?_; exact rfl) | refine w_nil ?_))
  cases v <;> first | (simp [smp] at h; done) | exact ⟨_, rfl, rfl⟩ | exact (hn _ rfl).elim
def curveB (l : List Int) : Bool := decide (l ≠ []) && (decide (0 ≤ at' l 0) && (List.range (l.length - 1)).all fun k => decide (at' l k ≤ at' l (k + 1)))
theorem smp_iL {l : List Int} : ∀ x ∈ iL l, smp x = true := fun x hx => by
  obtain ⟨a, _, rfl⟩ := List.mem_map.mp hx
  rfl
theorem all_iL {l : List Int} : (iL l).all isNum = true := by simp [iL, isNum]
theorem ok2 {l : List Int} (hz : l.length ≤ 1000) : evCall P (d + 3) 2 [.tup (iL l)] = some (.bl (curveB l), []) := by
  have h1 : evCall P (d + 2) 1 [.tup (iL l)] = some (.bl true, []) := by rw [ok1 smp_iL, all_iL]
  refine call_w (d := d + 2) (F := f_is_curve) rfl rfl rfl ?_
  generalize evCall P (d + 2) = C at *
  show W C b_is_curve [some (.tup (iL l)), none] _
  unfold b_is_curve
  by_cases hl : l = []
  · subst hl
    have h1' : C 1 [.tup []] = some (.bl true, []) := h1
    have e0 : cmpop .eq (.tup []) (.tup []) = some (.bl true) := rfl
    ((first | (refine w_asg ?_ ?_; exact rfl) | (refine w_asgM ?_ ?_; exact rfl) | (refine w_par ?_ ?_; exact rfl) | (refine w_unp ?_ ?_; exact rfl) | (refine w_aug ?_ ?_; exact rfl) | (refine w_app ?_ ?_; exact rfl) | (refine w_setix ?_ ?_ ?_; exact rfl; exact rfl) | (refine w_ret ?_ ?_; exact rfl) | refine w_retM ?_ | refine w_pass ?_ | refine w_cnt ?_ | refine w_brk ?_ | (refine w_if ?_ ?_; exact rfl) | refine w_nil ?_))
    (simp (config := { implicitDefEqProofs := false }) (disch := first | with_reducible assumption | omega | (simp only [iL_length, List.length_map, List.length_range, List.length_append, List.length_cons, List.length_nil, List.length_take, List.length_drop]; omega)) only [vl, vls, vlo, vlc, getS_z, getS_s, wipeF, bindTg, setAll, List.set_cons_succ, List.set_cons_zero, Option.map_some, Option.bind_some, Option.map_none, Option.bind_none, blOf, intOf, nat_z, ↓reduceIte, if_true, Bool.false_eq_true, if_false, sub_tupI, sub_lstI, bi_sumL, bi_sumT, bi_allM, bi_anyM, bi_lenT, bi_lenL, bi_lenD, bi_lenS, bi_tupL, bi_tupT, bi_lstT, bi_lstL, bi_intI, bi_absI, bi_min2I, bi_max2I, bi_minL, bi_maxL, cutop_tup, cutop_lst, rev_iT, rev_iLs, op_addI, op_subI, op_mulIL, op_mulIR, op_fdivI, op_modI, op_addT, op_addLs, co_eqI, co_neI, co_ltI, co_leI, co_gtI, co_geI, co_isN, co_isntN, co_eqLs, co_neLs, co_eqTs, co_neTs, iter_lst, iter_tup, compG_range, compG_iL, compG_one, compG_if, compR_one, compR_if, compQ_one, compQ_if, compQ_nil, rgV_ok, rgV2_ok, zipV_T, zipV_L, iL_length, map_pvint, map_int0, Int.toNat_natCast, decide_eq_true_eq, zip_iL, compG_rangeMap, cut_to, cut_from, cut_mid, Option.some.injEq, exists_eq_left', Nx_rt, Tu_rt, min_cast, max_cast, max1_cast, toNat_1, toNat_1', toNat_a, toNat_s, toNat_m1, toNat_0, half_cast, co_eqT0, co_neT0, co_eqL0, co_neL0, List.length_cons, List.length_nil,h1', iL_nil, e0, PV.bl.injEq, Bool.not_true])
    refine ⟨fun _ => ?_, fun z => by cases z⟩
    ((first | (refine w_asg ?_ ?_; exact rfl) | (refine w_asgM ?_ ?_; exact rfl) | (refine w_par ?_ ?_; exact rfl) | (refine w_unp ?_ ?_; exact rfl) | (refine w_aug ?_ ?_; exact rfl) | (refine w_app ?_ ?_; exact rfl) | (refine w_setix ?_ ?_ ?_; exact rfl; exact rfl) | (refine w_ret ?_ ?_; exact rfl) | refine w_retM ?_ | refine w_pass ?_ | refine w_cnt ?_ | refine w_brk ?_ | (refine w_if ?_ ?_; exact rfl) | refine w_nil ?_))
    (simp (config := { implicitDefEqProofs := false }) (disch := first | with_reducible assumption | omega | (simp only [iL_length, List.length_map, List.length_range, List.length_append, List.length_cons, List.length_nil, List.length_take, List.length_drop]; omega)) only [vl, vls, vlo, vlc, getS_z, getS_s, wipeF, bindTg, setAll, List.set_cons_succ, List.set_cons_zero, Option.map_some, Option.bind_some, Option.map_none, Option.bind_none, blOf, intOf, nat_z, ↓reduceIte, if_true, Bool.false_eq_true, if_false, sub_tupI, sub_lstI, bi_sumL, bi_sumT, bi_allM, bi_anyM, bi_lenT, bi_lenL, bi_lenD, bi_lenS, bi_tupL, bi_tupT, bi_lstT, bi_lstL, bi_intI, bi_absI, bi_min2I, bi_max2I, bi_minL, bi_maxL, cutop_tup, cutop_lst, rev_iT, rev_iLs, op_addI, op_subI, op_mulIL, op_mulIR, op_fdivI, op_modI, op_addT, op_addLs, co_eqI, co_neI, co_ltI, co_leI, co_gtI, co_geI, co_isN, co_isntN, co_eqLs, co_neLs, co_eqTs, co_neTs, iter_lst, iter_tup, compG_range, compG_iL, compG_one, compG_if, compR_one, compR_if, compQ_one, compQ_if, compQ_nil, rgV_ok, rgV2_ok, zipV_T, zipV_L, iL_length, map_pvint, map_int0, Int.toNat_natCast, decide_eq_true_eq, zip_iL, compG_rangeMap, cut_to, cut_from, cut_mid, Option.some.injEq, exists_eq_left', Nx_rt, Tu_rt, min_cast, max_cast, max1_cast, toNat_1, toNat_1', toNat_a, toNat_s, toNat_m1, toNat_0, half_cast, co_eqT0, co_neT0, co_eqL0, co_neL0, List.length_cons, List.length_nil])
    rfl
  · have hlen : 0 < l.length := List.length_pos_iff.mpr hl
    ((first | (refine w_asg ?_ ?_; exact rfl) | (refine w_asgM ?_ ?_; exact rfl) | (refine w_par ?_ ?_; exact rfl) | (refine w_unp ?_ ?_; exact rfl) | (refine w_aug ?_ ?_; exact rfl) | (refine w_app ?_ ?_; exact rfl) | (refine w_setix ?_ ?_ ?_; exact rfl; exact rfl) | (refine w_ret ?_ ?_; exact rfl) | refine w_retM ?_ | refine w_pass ?_ | refine w_cnt ?_ | refine w_brk ?_ | (refine w_if ?_ ?_; exact rfl) | refine w_nil ?_))
    have e2 : (¬ l = []) := hl
    (simp (config := { implicitDefEqProofs := false }) (disch := first | with_reducible assumption | omega | (simp only [iL_length, List.length_map, List.length_range, List.length_append, List.length_cons, List.length_nil, List.length_take, List.length_drop]; omega)) only [vl, vls, vlo, vlc, getS_z, getS_s, wipeF, bindTg, setAll, List.set_cons_succ, List.set_cons_zero, Option.map_some, Option.bind_some, Option.map_none, Option.bind_none, blOf, intOf, nat_z, ↓reduceIte, if_true, Bool.false_eq_true, if_false, sub_tupI, sub_lstI, bi_sumL, bi_sumT, bi_allM, bi_anyM, bi_lenT, bi_lenL, bi_lenD, bi_lenS, bi_tupL, bi_tupT, bi_lstT, bi_lstL, bi_intI, bi_absI, bi_min2I, bi_max2I, bi_minL, bi_maxL, cutop_tup, cutop_lst, rev_iT, rev_iLs, op_addI, op_subI, op_mulIL, op_mulIR, op_fdivI, op_modI, op_addT, op_addLs, co_eqI, co_neI, co_ltI, co_leI, co_gtI, co_geI, co_isN, co_isntN, co_eqLs, co_neLs, co_eqTs, co_neTs, iter_lst, iter_tup, compG_range, compG_iL, compG_one, compG_if, compR_one, compR_if, compQ_one, compQ_if, compQ_nil, rgV_ok, rgV2_ok, zipV_T, zipV_L, iL_length, map_pvint, map_int0, Int.toNat_natCast, decide_eq_true_eq, zip_iL, compG_rangeMap, cut_to, cut_from, cut_mid, Option.some.injEq, exists_eq_left', Nx_rt, Tu_rt, min_cast, max_cast, max1_cast, toNat_1, toNat_1', toNat_a, toNat_s, toNat_m1, toNat_0, half_cast, co_eqT0, co_neT0, co_eqL0, co_neL0, List.length_cons, List.length_nil,h1, co_eqT0, Option.some.injEq, PV.bl.injEq, exists_eq_left', Bool.not_true, hl, decide_false])
    refine ⟨fun z => ?_, fun z => ?_⟩
    · ((first | (refine w_asg ?_ ?_; exact rfl) | (refine w_asgM ?_ ?_; exact rfl) | (refine w_par ?_ ?_; exact rfl) | (refine w_unp ?_ ?_; exact rfl) | (refine w_aug ?_ ?_; exact rfl) | (refine w_app ?_ ?_; exact rfl) | (refine w_setix ?_ ?_ ?_; exact rfl; exact rfl) | (refine w_ret ?_ ?_; exact rfl) | refine w_retM ?_ | refine w_pass ?_ | refine w_cnt ?_ | refine w_brk ?_ | (refine w_if ?_ ?_; exact rfl) | refine w_nil ?_))
      (simp (config := { implicitDefEqProofs := false }) (disch := first | with_reducible assumption | omega | (simp only [iL_length, List.length_map, List.length_range, List.length_append, List.length_cons, List.length_nil, List.length_take, List.length_drop]; omega)) only [vl, vls, vlo, vlc, getS_z, getS_s, wipeF, bindTg, setAll, List.set_cons_succ, List.set_cons_zero, Option.map_some, Option.bind_some, Option.map_none, Option.bind_none, blOf, intOf, nat_z, ↓reduceIte, if_true, Bool.false_eq_true, if_false, sub_tupI, sub_lstI, bi_sumL, bi_sumT, bi_allM, bi_anyM, bi_lenT, bi_lenL, bi_lenD, bi_lenS, bi_tupL, bi_tupT, bi_lstT, bi_lstL, bi_intI, bi_absI, bi_min2I, bi_max2I, bi_minL, bi_maxL, cutop_tup, cutop_lst, rev_iT, rev_iLs, op_addI, op_subI, op_mulIL, op_mulIR, op_fdivI, op_modI, op_addT, op_addLs, co_eqI, co_neI, co_ltI, co_leI, co_gtI, co_geI, co_isN, co_isntN, co_eqLs, co_neLs, co_eqTs, co_neTs, iter_lst, iter_tup, compG_range, compG_iL, compG_one, compG_if, compR_one, compR_if, compQ_one, compQ_if, compQ_nil, rgV_ok, rgV2_ok, zipV_T, zipV_L, iL_length, map_pvint, map_int0, Int.toNat_natCast, decide_eq_true_eq, zip_iL, compG_rangeMap, cut_to, cut_from, cut_mid, Option.some.injEq, exists_eq_left', Nx_rt, Tu_rt, min_cast, max_cast, max1_cast, toNat_1, toNat_1', toNat_a, toNat_s, toNat_m1, toNat_0, half_cast, co_eqT0, co_neT0, co_eqL0, co_neL0, List.length_cons, List.length_nil])
      have hb : curveB l = false := by
        unfold curveB
        have : ¬ (0 ≤ at' l 0) := by simpa using z
        simp [this]
      rw [hb]
    · refine w_nil ?_
      unfold Nx
      ((first | (refine w_asg ?_ ?_; exact rfl) | (refine w_asgM ?_ ?_; exact rfl) | (refine w_par ?_ ?_; exact rfl) | (refine w_unp ?_ ?_; exact rfl) | (refine w_aug ?_ ?_; exact rfl) | (refine w_app ?_ ?_; exact rfl) | (refine w_setix ?_ ?_ ?_; exact rfl; exact rfl) | (refine w_ret ?_ ?_; exact rfl) | refine w_retM ?_ | refine w_pass ?_ | refine w_cnt ?_ | refine w_brk ?_ | (refine w_if ?_ ?_; exact rfl) | refine w_nil ?_))
      have h0 : 0 ≤ at' l 0 := by
        have := of_decide_eq_false z
        omega
      have e3 : ((l.length : Int) - 1).toNat = l.length - 1 := by omega
      (simp (config := { implicitDefEqProofs := false }) (disch := first | with_reducible assumption | omega | (simp only [iL_length, List.length_map, List.length_range, List.length_append, List.length_cons, List.length_nil, List.length_take, List.length_drop]; omega)) only [vl, vls, vlo, vlc, getS_z, getS_s, wipeF, bindTg, setAll, List.set_cons_succ, List.set_cons_zero, Option.map_some, Option.bind_some, Option.map_none, Option.bind_none, blOf, intOf, nat_z, ↓reduceIte, if_true, Bool.false_eq_true, if_false, sub_tupI, sub_lstI, bi_sumL, bi_sumT, bi_allM, bi_anyM, bi_lenT, bi_lenL, bi_lenD, bi_lenS, bi_tupL, bi_tupT, bi_lstT, bi_lstL, bi_intI, bi_absI, bi_min2I, bi_max2I, bi_minL, bi_maxL, cutop_tup, cutop_lst, rev_iT, rev_iLs, op_addI, op_subI, op_mulIL, op_mulIR, op_fdivI, op_modI, op_addT, op_addLs, co_eqI, co_neI, co_ltI, co_leI, co_gtI, co_geI, co_isN, co_isntN, co_eqLs, co_neLs, co_eqTs, co_neTs, iter_lst, iter_tup, compG_range, compG_iL, compG_one, compG_if, compR_one, compR_if, compQ_one, compQ_if, compQ_nil, rgV_ok, rgV2_ok, zipV_T, zipV_L, iL_length, map_pvint, map_int0, Int.toNat_natCast, decide_eq_true_eq, zip_iL, compG_rangeMap, cut_to, cut_from, cut_mid, Option.some.injEq, exists_eq_left', Nx_rt, Tu_rt, min_cast, max_cast, max1_cast, toNat_1, toNat_1', toNat_a, toNat_s, toNat_m1, toNat_0, half_cast, co_eqT0, co_neT0, co_eqL0, co_neL0, List.length_cons, List.length_nil,Option.some.injEq, exists_eq_left', e3])
      unfold curveB
      simp [hl, h0]
end
end K34

set_option linter.all false
set_option Elab.async false
set_option maxRecDepth 10000
namespace K34
open EV
section
variable (come rates one other : List Int)
def lef : Nat → Int
  | 0 => 0
  | k + 1 => (lef k + at' come k) - min (lef k + at' come k) (at' rates k)
def don : Nat → Int
  | 0 => 0
  | k + 1 => don k + min (lef come rates k + at' come k) (at' rates k)
def donL (n : Nat) : List Int := (List.range n).map fun k => don come rates (k + 1)
def lefL (n : Nat) : List Int := (List.range n).map fun k => lef come rates (k + 1)
theorem donL_s (n : Nat) : donL come rates (n + 1) = donL come rates n ++ [don come rates (n + 1)] := by simp [donL, List.range_succ]
theorem lefL_s (n : Nat) : lefL come rates (n + 1) = lefL come rates n ++ [lef come rates (n + 1)] := by simp [lefL, List.range_succ]
theorem donL_len (n : Nat) : (donL come rates n).length = n := by simp [donL]
theorem lefL_len (n : Nat) : (lefL come rates n).length = n := by simp [lefL]
theorem sum_take : ∀ (l : List Int) (k : Nat), k < l.length → (l.take (k + 1)).sum = (l.take k).sum + at' l k
  | [], k, h => by simp at h
  | x :: l, 0, h => by simp [at', List.getD]
  | x :: l, k + 1, h => by
    have := sum_take l k (by simpa using h)
    simp only [List.take_succ_cons, List.sum_cons, this]
    simp [at', List.getD]; omega
theorem lef_don : ∀ k, k ≤ come.length → lef come rates k + don come rates k = (come.take k).sum
  | 0, _ => by simp [lef, don]
  | k + 1, h => by
    have := lef_don k (by omega)
    rw [sum_take come k (by omega), ← this]
    simp only [lef, don]
    omega
variable {come rates one other} {d : Nat}
theorem ok3 (hl : come.length ≤ rates.length) (hz : come.length ≤ 1000) : evCall P (d + 1) 3 [.tup (iL come), .tup (iL rates)] = some (.tup (iL (donL come rates come.length)), []) := by
  refine call_w (F := f_served) rfl rfl rfl ?_
  generalize evCall P d = C at *
  show W C b_served [some (.tup (iL come)), some (.tup (iL rates)), none, none, none, none, none] _
  unfold b_served
  ((first | (refine w_asg ?_ ?_; exact rfl) | (refine w_asgM ?_ ?_; exact rfl) | (refine w_par ?_ ?_; exact rfl) | (refine w_unp ?_ ?_; exact rfl) | (refine w_aug ?_ ?_; exact rfl) | (refine w_app ?_ ?_; exact rfl) | (refine w_setix ?_ ?_ ?_; exact rfl; exact rfl) | (refine w_ret ?_ ?_; exact rfl) | refine w_retM ?_ | refine w_pass ?_ | refine w_cnt ?_ | refine w_brk ?_ | (refine w_if ?_ ?_; exact rfl) | refine w_nil ?_))
  (simp (config := { implicitDefEqProofs := false }) (disch := first | with_reducible assumption | omega | (simp only [iL_length, List.length_map, List.length_range, List.length_append, List.length_cons, List.length_nil, List.length_take, List.length_drop]; omega)) only [vl, vls, vlo, vlc, getS_z, getS_s, wipeF, bindTg, setAll, List.set_cons_succ, List.set_cons_zero, Option.map_some, Option.bind_some, Option.map_none, Option.bind_none, blOf, intOf, nat_z, ↓reduceIte, if_true, Bool.false_eq_true, if_false, sub_tupI, sub_lstI, bi_sumL, bi_sumT, bi_allM, bi_anyM, bi_lenT, bi_lenL, bi_lenD, bi_lenS, bi_tupL, bi_tupT, bi_lstT, bi_lstL, bi_intI, bi_absI, bi_min2I, bi_max2I, bi_minL, bi_maxL, cutop_tup, cutop_lst, rev_iT, rev_iLs, op_addI, op_subI, op_mulIL, op_mulIR, op_fdivI, op_modI, op_addT, op_addLs, co_eqI, co_neI, co_ltI, co_leI, co_gtI, co_geI, co_isN, co_isntN, co_eqLs, co_neLs, co_eqTs, co_neTs, iter_lst, iter_tup, compG_range, compG_iL, compG_one, compG_if, compR_one, compR_if, compQ_one, compQ_if, compQ_nil, rgV_ok, rgV2_ok, zipV_T, zipV_L, iL_length, map_pvint, map_int0, Int.toNat_natCast, decide_eq_true_eq, zip_iL, compG_rangeMap, cut_to, cut_from, cut_mid, Option.some.injEq, exists_eq_left', Nx_rt, Tu_rt, min_cast, max_cast, max1_cast, toNat_1, toNat_1', toNat_a, toNat_s, toNat_m1, toNat_0, half_cast, co_eqT0, co_neT0, co_eqL0, co_neL0, List.length_cons, List.length_nil,Option.some.injEq, exists_eq_left', app_lst, aug_addI, aug_subI, iL_snoc, List.length_append, List.length_cons, List.length_nil, PV.tup.injEq, PV.bl.injEq, List.map_cons, List.map_nil, List.cons_append, List.nil_append, isMut, parChk, Bool.not_true, Bool.not_false, Bool.or_true, Bool.true_or, Bool.false_or, Bool.true_and, true_and])
  refine w_rg (I := fun k fr => ∃ a b, fr = [some (.tup (iL come)), some (.tup (iL rates)), some (.int (lef come rates k)), some (.lst (iL (donL come rates k))), some (.int (don come rates k)), a, b]) come.length rfl (by (simp (config := { implicitDefEqProofs := false }) (disch := first | with_reducible assumption | omega | (simp only [iL_length, List.length_map, List.length_range, List.length_append, List.length_cons, List.length_nil, List.length_take, List.length_drop]; omega)) only [vl, vls, vlo, vlc, getS_z, getS_s, wipeF, bindTg, setAll, List.set_cons_succ, List.set_cons_zero, Option.map_some, Option.bind_some, Option.map_none, Option.bind_none, blOf, intOf, nat_z, ↓reduceIte, if_true, Bool.false_eq_true, if_false, sub_tupI, sub_lstI, bi_sumL, bi_sumT, bi_allM, bi_anyM, bi_lenT, bi_lenL, bi_lenD, bi_lenS, bi_tupL, bi_tupT, bi_lstT, bi_lstL, bi_intI, bi_absI, bi_min2I, bi_max2I, bi_minL, bi_maxL, cutop_tup, cutop_lst, rev_iT, rev_iLs, op_addI, op_subI, op_mulIL, op_mulIR, op_fdivI, op_modI, op_addT, op_addLs, co_eqI, co_neI, co_ltI, co_leI, co_gtI, co_geI, co_isN, co_isntN, co_eqLs, co_neLs, co_eqTs, co_neTs, iter_lst, iter_tup, compG_range, compG_iL, compG_one, compG_if, compR_one, compR_if, compQ_one, compQ_if, compQ_nil, rgV_ok, rgV2_ok, zipV_T, zipV_L, iL_length, map_pvint, map_int0, Int.toNat_natCast, decide_eq_true_eq, zip_iL, compG_rangeMap, cut_to, cut_from, cut_mid, Option.some.injEq, exists_eq_left', Nx_rt, Tu_rt, min_cast, max_cast, max1_cast, toNat_1, toNat_1', toNat_a, toNat_s, toNat_m1, toNat_0, half_cast, co_eqT0, co_neT0, co_eqL0, co_neL0, List.length_cons, List.length_nil])) ⟨none, none, rfl⟩ ?_ ?_
  · rintro k _ hk ⟨a, b, rfl⟩
    have hd := donL_len come rates k
    refine ⟨_, rfl, ?_⟩
    ((first | (refine w_asg ?_ ?_; exact rfl) | (refine w_asgM ?_ ?_; exact rfl) | (refine w_par ?_ ?_; exact rfl) | (refine w_unp ?_ ?_; exact rfl) | (refine w_aug ?_ ?_; exact rfl) | (refine w_app ?_ ?_; exact rfl) | (refine w_setix ?_ ?_ ?_; exact rfl; exact rfl) | (refine w_ret ?_ ?_; exact rfl) | refine w_retM ?_ | refine w_pass ?_ | refine w_cnt ?_ | refine w_brk ?_ | (refine w_if ?_ ?_; exact rfl) | refine w_nil ?_))
    (simp (config := { implicitDefEqProofs := false }) (disch := first | with_reducible assumption | omega | (simp only [iL_length, List.length_map, List.length_range, List.length_append, List.length_cons, List.length_nil, List.length_take, List.length_drop]; omega)) only [vl, vls, vlo, vlc, getS_z, getS_s, wipeF, bindTg, setAll, List.set_cons_succ, List.set_cons_zero, Option.map_some, Option.bind_some, Option.map_none, Option.bind_none, blOf, intOf, nat_z, ↓reduceIte, if_true, Bool.false_eq_true, if_false, sub_tupI, sub_lstI, bi_sumL, bi_sumT, bi_allM, bi_anyM, bi_lenT, bi_lenL, bi_lenD, bi_lenS, bi_tupL, bi_tupT, bi_lstT, bi_lstL, bi_intI, bi_absI, bi_min2I, bi_max2I, bi_minL, bi_maxL, cutop_tup, cutop_lst, rev_iT, rev_iLs, op_addI, op_subI, op_mulIL, op_mulIR, op_fdivI, op_modI, op_addT, op_addLs, co_eqI, co_neI, co_ltI, co_leI, co_gtI, co_geI, co_isN, co_isntN, co_eqLs, co_neLs, co_eqTs, co_neTs, iter_lst, iter_tup, compG_range, compG_iL, compG_one, compG_if, compR_one, compR_if, compQ_one, compQ_if, compQ_nil, rgV_ok, rgV2_ok, zipV_T, zipV_L, iL_length, map_pvint, map_int0, Int.toNat_natCast, decide_eq_true_eq, zip_iL, compG_rangeMap, cut_to, cut_from, cut_mid, Option.some.injEq, exists_eq_left', Nx_rt, Tu_rt, min_cast, max_cast, max1_cast, toNat_1, toNat_1', toNat_a, toNat_s, toNat_m1, toNat_0, half_cast, co_eqT0, co_neT0, co_eqL0, co_neL0, List.length_cons, List.length_nil,Option.some.injEq, exists_eq_left', app_lst, aug_addI, aug_subI, iL_snoc, List.length_append, List.length_cons, List.length_nil, PV.tup.injEq, PV.bl.injEq, List.map_cons, List.map_nil, List.cons_append, List.nil_append, isMut, parChk, Bool.not_true, Bool.not_false, Bool.or_true, Bool.true_or, Bool.false_or, Bool.true_and, true_and])
    ((first | (refine w_asg ?_ ?_; exact rfl) | (refine w_asgM ?_ ?_; exact rfl) | (refine w_par ?_ ?_; exact rfl) | (refine w_unp ?_ ?_; exact rfl) | (refine w_aug ?_ ?_; exact rfl) | (refine w_app ?_ ?_; exact rfl) | (refine w_setix ?_ ?_ ?_; exact rfl; exact rfl) | (refine w_ret ?_ ?_; exact rfl) | refine w_retM ?_ | refine w_pass ?_ | refine w_cnt ?_ | refine w_brk ?_ | (refine w_if ?_ ?_; exact rfl) | refine w_nil ?_))
    (simp (config := { implicitDefEqProofs := false }) (disch := first | with_reducible assumption | omega | (simp only [iL_length, List.length_map, List.length_range, List.length_append, List.length_cons, List.length_nil, List.length_take, List.length_drop]; omega)) only [vl, vls, vlo, vlc, getS_z, getS_s, wipeF, bindTg, setAll, List.set_cons_succ, List.set_cons_zero, Option.map_some, Option.bind_some, Option.map_none, Option.bind_none, blOf, intOf, nat_z, ↓reduceIte, if_true, Bool.false_eq_true, if_false, sub_tupI, sub_lstI, bi_sumL, bi_sumT, bi_allM, bi_anyM, bi_lenT, bi_lenL, bi_lenD, bi_lenS, bi_tupL, bi_tupT, bi_lstT, bi_lstL, bi_intI, bi_absI, bi_min2I, bi_max2I, bi_minL, bi_maxL, cutop_tup, cutop_lst, rev_iT, rev_iLs, op_addI, op_subI, op_mulIL, op_mulIR, op_fdivI, op_modI, op_addT, op_addLs, co_eqI, co_neI, co_ltI, co_leI, co_gtI, co_geI, co_isN, co_isntN, co_eqLs, co_neLs, co_eqTs, co_neTs, iter_lst, iter_tup, compG_range, compG_iL, compG_one, compG_if, compR_one, compR_if, compQ_one, compQ_if, compQ_nil, rgV_ok, rgV2_ok, zipV_T, zipV_L, iL_length, map_pvint, map_int0, Int.toNat_natCast, decide_eq_true_eq, zip_iL, compG_rangeMap, cut_to, cut_from, cut_mid, Option.some.injEq, exists_eq_left', Nx_rt, Tu_rt, min_cast, max_cast, max1_cast, toNat_1, toNat_1', toNat_a, toNat_s, toNat_m1, toNat_0, half_cast, co_eqT0, co_neT0, co_eqL0, co_neL0, List.length_cons, List.length_nil,Option.some.injEq, exists_eq_left', app_lst, aug_addI, aug_subI, iL_snoc, List.length_append, List.length_cons, List.length_nil, PV.tup.injEq, PV.bl.injEq, List.map_cons, List.map_nil, List.cons_append, List.nil_append, isMut, parChk, Bool.not_true, Bool.not_false, Bool.or_true, Bool.true_or, Bool.false_or, Bool.true_and, true_and])
    ((first | (refine w_asg ?_ ?_; exact rfl) | (refine w_asgM ?_ ?_; exact rfl) | (refine w_par ?_ ?_; exact rfl) | (refine w_unp ?_ ?_; exact rfl) | (refine w_aug ?_ ?_; exact rfl) | (refine w_app ?_ ?_; exact rfl) | (refine w_setix ?_ ?_ ?_; exact rfl; exact rfl) | (refine w_ret ?_ ?_; exact rfl) | refine w_retM ?_ | refine w_pass ?_ | refine w_cnt ?_ | refine w_brk ?_ | (refine w_if ?_ ?_; exact rfl) | refine w_nil ?_))
    (simp (config := { implicitDefEqProofs := false }) (disch := first | with_reducible assumption | omega | (simp only [iL_length, List.length_map, List.length_range, List.length_append, List.length_cons, List.length_nil, List.length_take, List.length_drop]; omega)) only [vl, vls, vlo, vlc, getS_z, getS_s, wipeF, bindTg, setAll, List.set_cons_succ, List.set_cons_zero, Option.map_some, Option.bind_some, Option.map_none, Option.bind_none, blOf, intOf, nat_z, ↓reduceIte, if_true, Bool.false_eq_true, if_false, sub_tupI, sub_lstI, bi_sumL, bi_sumT, bi_allM, bi_anyM, bi_lenT, bi_lenL, bi_lenD, bi_lenS, bi_tupL, bi_tupT, bi_lstT, bi_lstL, bi_intI, bi_absI, bi_min2I, bi_max2I, bi_minL, bi_maxL, cutop_tup, cutop_lst, rev_iT, rev_iLs, op_addI, op_subI, op_mulIL, op_mulIR, op_fdivI, op_modI, op_addT, op_addLs, co_eqI, co_neI, co_ltI, co_leI, co_gtI, co_geI, co_isN, co_isntN, co_eqLs, co_neLs, co_eqTs, co_neTs, iter_lst, iter_tup, compG_range, compG_iL, compG_one, compG_if, compR_one, compR_if, compQ_one, compQ_if, compQ_nil, rgV_ok, rgV2_ok, zipV_T, zipV_L, iL_length, map_pvint, map_int0, Int.toNat_natCast, decide_eq_true_eq, zip_iL, compG_rangeMap, cut_to, cut_from, cut_mid, Option.some.injEq, exists_eq_left', Nx_rt, Tu_rt, min_cast, max_cast, max1_cast, toNat_1, toNat_1', toNat_a, toNat_s, toNat_m1, toNat_0, half_cast, co_eqT0, co_neT0, co_eqL0, co_neL0, List.length_cons, List.length_nil,Option.some.injEq, exists_eq_left', app_lst, aug_addI, aug_subI, iL_snoc, List.length_append, List.length_cons, List.length_nil, PV.tup.injEq, PV.bl.injEq, List.map_cons, List.map_nil, List.cons_append, List.nil_append, isMut, parChk, Bool.not_true, Bool.not_false, Bool.or_true, Bool.true_or, Bool.false_or, Bool.true_and, true_and])
    ((first | (refine w_asg ?_ ?_; exact rfl) | (refine w_asgM ?_ ?_; exact rfl) | (refine w_par ?_ ?_; exact rfl) | (refine w_unp ?_ ?_; exact rfl) | (refine w_aug ?_ ?_; exact rfl) | (refine w_app ?_ ?_; exact rfl) | (refine w_setix ?_ ?_ ?_; exact rfl; exact rfl) | (refine w_ret ?_ ?_; exact rfl) | refine w_retM ?_ | refine w_pass ?_ | refine w_cnt ?_ | refine w_brk ?_ | (refine w_if ?_ ?_; exact rfl) | refine w_nil ?_))
    (simp (config := { implicitDefEqProofs := false }) (disch := first | with_reducible assumption | omega | (simp only [iL_length, List.length_map, List.length_range, List.length_append, List.length_cons, List.length_nil, List.length_take, List.length_drop]; omega)) only [vl, vls, vlo, vlc, getS_z, getS_s, wipeF, bindTg, setAll, List.set_cons_succ, List.set_cons_zero, Option.map_some, Option.bind_some, Option.map_none, Option.bind_none, blOf, intOf, nat_z, ↓reduceIte, if_true, Bool.false_eq_true, if_false, sub_tupI, sub_lstI, bi_sumL, bi_sumT, bi_allM, bi_anyM, bi_lenT, bi_lenL, bi_lenD, bi_lenS, bi_tupL, bi_tupT, bi_lstT, bi_lstL, bi_intI, bi_absI, bi_min2I, bi_max2I, bi_minL, bi_maxL, cutop_tup, cutop_lst, rev_iT, rev_iLs, op_addI, op_subI, op_mulIL, op_mulIR, op_fdivI, op_modI, op_addT, op_addLs, co_eqI, co_neI, co_ltI, co_leI, co_gtI, co_geI, co_isN, co_isntN, co_eqLs, co_neLs, co_eqTs, co_neTs, iter_lst, iter_tup, compG_range, compG_iL, compG_one, compG_if, compR_one, compR_if, compQ_one, compQ_if, compQ_nil, rgV_ok, rgV2_ok, zipV_T, zipV_L, iL_length, map_pvint, map_int0, Int.toNat_natCast, decide_eq_true_eq, zip_iL, compG_rangeMap, cut_to, cut_from, cut_mid, Option.some.injEq, exists_eq_left', Nx_rt, Tu_rt, min_cast, max_cast, max1_cast, toNat_1, toNat_1', toNat_a, toNat_s, toNat_m1, toNat_0, half_cast, co_eqT0, co_neT0, co_eqL0, co_neL0, List.length_cons, List.length_nil,Option.some.injEq, exists_eq_left', app_lst, aug_addI, aug_subI, iL_snoc, List.length_append, List.length_cons, List.length_nil, PV.tup.injEq, PV.bl.injEq, List.map_cons, List.map_nil, List.cons_append, List.nil_append, isMut, parChk, Bool.not_true, Bool.not_false, Bool.or_true, Bool.true_or, Bool.false_or, Bool.true_and, true_and])
    ((first | (refine w_asg ?_ ?_; exact rfl) | (refine w_asgM ?_ ?_; exact rfl) | (refine w_par ?_ ?_; exact rfl) | (refine w_unp ?_ ?_; exact rfl) | (refine w_aug ?_ ?_; exact rfl) | (refine w_app ?_ ?_; exact rfl) | (refine w_setix ?_ ?_ ?_; exact rfl; exact rfl) | (refine w_ret ?_ ?_; exact rfl) | refine w_retM ?_ | refine w_pass ?_ | refine w_cnt ?_ | refine w_brk ?_ | (refine w_if ?_ ?_; exact rfl) | refine w_nil ?_))
    (simp (config := { implicitDefEqProofs := false }) (disch := first | with_reducible assumption | omega | (simp only [iL_length, List.length_map, List.length_range, List.length_append, List.length_cons, List.length_nil, List.length_take, List.length_drop]; omega)) only [vl, vls, vlo, vlc, getS_z, getS_s, wipeF, bindTg, setAll, List.set_cons_succ, List.set_cons_zero, Option.map_some, Option.bind_some, Option.map_none, Option.bind_none, blOf, intOf, nat_z, ↓reduceIte, if_true, Bool.false_eq_true, if_false, sub_tupI, sub_lstI, bi_sumL, bi_sumT, bi_allM, bi_anyM, bi_lenT, bi_lenL, bi_lenD, bi_lenS, bi_tupL, bi_tupT, bi_lstT, bi_lstL, bi_intI, bi_absI, bi_min2I, bi_max2I, bi_minL, bi_maxL, cutop_tup, cutop_lst, rev_iT, rev_iLs, op_addI, op_subI, op_mulIL, op_mulIR, op_fdivI, op_modI, op_addT, op_addLs, co_eqI, co_neI, co_ltI, co_leI, co_gtI, co_geI, co_isN, co_isntN, co_eqLs, co_neLs, co_eqTs, co_neTs, iter_lst, iter_tup, compG_range, compG_iL, compG_one, compG_if, compR_one, compR_if, compQ_one, compQ_if, compQ_nil, rgV_ok, rgV2_ok, zipV_T, zipV_L, iL_length, map_pvint, map_int0, Int.toNat_natCast, decide_eq_true_eq, zip_iL, compG_rangeMap, cut_to, cut_from, cut_mid, Option.some.injEq, exists_eq_left', Nx_rt, Tu_rt, min_cast, max_cast, max1_cast, toNat_1, toNat_1', toNat_a, toNat_s, toNat_m1, toNat_0, half_cast, co_eqT0, co_neT0, co_eqL0, co_neL0, List.length_cons, List.length_nil,Option.some.injEq, exists_eq_left', app_lst, aug_addI, aug_subI, iL_snoc, List.length_append, List.length_cons, List.length_nil, PV.tup.injEq, PV.bl.injEq, List.map_cons, List.map_nil, List.cons_append, List.nil_append, isMut, parChk, Bool.not_true, Bool.not_false, Bool.or_true, Bool.true_or, Bool.false_or, Bool.true_and, true_and])
    exact w_nil ⟨_, _, by rw [donL_s]; rfl⟩
  · rintro _ ⟨a, b, rfl⟩
    ((first | (refine w_asg ?_ ?_; exact rfl) | (refine w_asgM ?_ ?_; exact rfl) | (refine w_par ?_ ?_; exact rfl) | (refine w_unp ?_ ?_; exact rfl) | (refine w_aug ?_ ?_; exact rfl) | (refine w_app ?_ ?_; exact rfl) | (refine w_setix ?_ ?_ ?_; exact rfl; exact rfl) | (refine w_ret ?_ ?_; exact rfl) | refine w_retM ?_ | refine w_pass ?_ | refine w_cnt ?_ | refine w_brk ?_ | (refine w_if ?_ ?_; exact rfl) | refine w_nil ?_))
    (simp (config := { implicitDefEqProofs := false }) (disch := first | with_reducible assumption | omega | (simp only [iL_length, List.length_map, List.length_range, List.length_append, List.length_cons, List.length_nil, List.length_take, List.length_drop]; omega)) only [vl, vls, vlo, vlc, getS_z, getS_s, wipeF, bindTg, setAll, List.set_cons_succ, List.set_cons_zero, Option.map_some, Option.bind_some, Option.map_none, Option.bind_none, blOf, intOf, nat_z, ↓reduceIte, if_true, Bool.false_eq_true, if_false, sub_tupI, sub_lstI, bi_sumL, bi_sumT, bi_allM, bi_anyM, bi_lenT, bi_lenL, bi_lenD, bi_lenS, bi_tupL, bi_tupT, bi_lstT, bi_lstL, bi_intI, bi_absI, bi_min2I, bi_max2I, bi_minL, bi_maxL, cutop_tup, cutop_lst, rev_iT, rev_iLs, op_addI, op_subI, op_mulIL, op_mulIR, op_fdivI, op_modI, op_addT, op_addLs, co_eqI, co_neI, co_ltI, co_leI, co_gtI, co_geI, co_isN, co_isntN, co_eqLs, co_neLs, co_eqTs, co_neTs, iter_lst, iter_tup, compG_range, compG_iL, compG_one, compG_if, compR_one, compR_if, compQ_one, compQ_if, compQ_nil, rgV_ok, rgV2_ok, zipV_T, zipV_L, iL_length, map_pvint, map_int0, Int.toNat_natCast, decide_eq_true_eq, zip_iL, compG_rangeMap, cut_to, cut_from, cut_mid, Option.some.injEq, exists_eq_left', Nx_rt, Tu_rt, min_cast, max_cast, max1_cast, toNat_1, toNat_1', toNat_a, toNat_s, toNat_m1, toNat_0, half_cast, co_eqT0, co_neT0, co_eqL0, co_neL0, List.length_cons, List.length_nil])
theorem ok4 (hl : come.length ≤ rates.length) (hz : come.length ≤ 1000) : evCall P (d + 2) 4 [.tup (iL come), .tup (iL rates)] = some (.tup (iL (lefL come rates come.length)), []) := by
  have h := ok3 (d := d) hl hz
  have hd := donL_len come rates come.length
  refine call_w (d := d + 1) (F := f_backlogs) rfl rfl rfl ?_
  generalize evCall P (d + 1) = C at *
  show W C b_backlogs [some (.tup (iL come)), some (.tup (iL rates)), none, none] _
  unfold b_backlogs
  ((first | (refine w_asg ?_ ?_; exact rfl) | (refine w_asgM ?_ ?_; exact rfl) | (refine w_par ?_ ?_; exact rfl) | (refine w_unp ?_ ?_; exact rfl) | (refine w_aug ?_ ?_; exact rfl) | (refine w_app ?_ ?_; exact rfl) | (refine w_setix ?_ ?_ ?_; exact rfl; exact rfl) | (refine w_ret ?_ ?_; exact rfl) | refine w_retM ?_ | refine w_pass ?_ | refine w_cnt ?_ | refine w_brk ?_ | (refine w_if ?_ ?_; exact rfl) | refine w_nil ?_))
  (simp (config := { implicitDefEqProofs := false }) (disch := first | with_reducible assumption | omega | (simp only [iL_length, List.length_map, List.length_range, List.length_append, List.length_cons, List.length_nil, List.length_take, List.length_drop]; omega)) only [vl, vls, vlo, vlc, getS_z, getS_s, wipeF, bindTg, setAll, List.set_cons_succ, List.set_cons_zero, Option.map_some, Option.bind_some, Option.map_none, Option.bind_none, blOf, intOf, nat_z, ↓reduceIte, if_true, Bool.false_eq_true, if_false, sub_tupI, sub_lstI, bi_sumL, bi_sumT, bi_allM, bi_anyM, bi_lenT, bi_lenL, bi_lenD, bi_lenS, bi_tupL, bi_tupT, bi_lstT, bi_lstL, bi_intI, bi_absI, bi_min2I, bi_max2I, bi_minL, bi_maxL, cutop_tup, cutop_lst, rev_iT, rev_iLs, op_addI, op_subI, op_mulIL, op_mulIR, op_fdivI, op_modI, op_addT, op_addLs, co_eqI, co_neI, co_ltI, co_leI, co_gtI, co_geI, co_isN, co_isntN, co_eqLs, co_neLs, co_eqTs, co_neTs, iter_lst, iter_tup, compG_range, compG_iL, compG_one, compG_if, compR_one, compR_if, compQ_one, compQ_if, compQ_nil, rgV_ok, rgV2_ok, zipV_T, zipV_L, iL_length, map_pvint, map_int0, Int.toNat_natCast, decide_eq_true_eq, zip_iL, compG_rangeMap, cut_to, cut_from, cut_mid, Option.some.injEq, exists_eq_left', Nx_rt, Tu_rt, min_cast, max_cast, max1_cast, toNat_1, toNat_1', toNat_a, toNat_s, toNat_m1, toNat_0, half_cast, co_eqT0, co_neT0, co_eqL0, co_neL0, List.length_cons, List.length_nil,h])
  ((first | (refine w_asg ?_ ?_; exact rfl) | (refine w_asgM ?_ ?_; exact rfl) | (refine w_par ?_ ?_; exact rfl) | (refine w_unp ?_ ?_; exact rfl) | (refine w_aug ?_ ?_; exact rfl) | (refine w_app ?_ ?_; exact rfl) | (refine w_setix ?_ ?_ ?_; exact rfl; exact rfl) | (refine w_ret ?_ ?_; exact rfl) | refine w_retM ?_ | refine w_pass ?_ | refine w_cnt ?_ | refine w_brk ?_ | (refine w_if ?_ ?_; exact rfl) | refine w_nil ?_))
  (simp (config := { implicitDefEqProofs := false }) (disch := first | with_reducible assumption | omega | (simp only [iL_length, List.length_map, List.length_range, List.length_append, List.length_cons, List.length_nil, List.length_take, List.length_drop]; omega)) only [vl, vls, vlo, vlc, getS_z, getS_s, wipeF, bindTg, setAll, List.set_cons_succ, List.set_cons_zero, Option.map_some, Option.bind_some, Option.map_none, Option.bind_none, blOf, intOf, nat_z, ↓reduceIte, if_true, Bool.false_eq_true, if_false, sub_tupI, sub_lstI, bi_sumL, bi_sumT, bi_allM, bi_anyM, bi_lenT, bi_lenL, bi_lenD, bi_lenS, bi_tupL, bi_tupT, bi_lstT, bi_lstL, bi_intI, bi_absI, bi_min2I, bi_max2I, bi_minL, bi_maxL, cutop_tup, cutop_lst, rev_iT, rev_iLs, op_addI, op_subI, op_mulIL, op_mulIR, op_fdivI, op_modI, op_addT, op_addLs, co_eqI, co_neI, co_ltI, co_leI, co_gtI, co_geI, co_isN, co_isntN, co_eqLs, co_neLs, co_eqTs, co_neTs, iter_lst, iter_tup, compG_range, compG_iL, compG_one, compG_if, compR_one, compR_if, compQ_one, compQ_if, compQ_nil, rgV_ok, rgV2_ok, zipV_T, zipV_L, iL_length, map_pvint, map_int0, Int.toNat_natCast, decide_eq_true_eq, zip_iL, compG_rangeMap, cut_to, cut_from, cut_mid, Option.some.injEq, exists_eq_left', Nx_rt, Tu_rt, min_cast, max_cast, max1_cast, toNat_1, toNat_1', toNat_a, toNat_s, toNat_m1, toNat_0, half_cast, co_eqT0, co_neT0, co_eqL0, co_neL0, List.length_cons, List.length_nil])
  congr 3
  apply List.map_congr_left
  intro k hk
  have hk := List.mem_range.mp hk
  have e1 := lef_don come rates (k + 1) (by omega)
  have e2 : at' (donL come rates come.length) k = don come rates (k + 1) := by
    rw [at_get (by rw [hd]; exact hk)]; simp [donL]
  rw [e2, ← e1]
  omega
def beh (one other : List Int) (s : Nat) : Int := mnL ((List.range (s + 1)).map fun k => at' one k + at' other (s - k))
theorem ok5 (h1 : one.length ≤ 1000) (h2 : other.length ≤ 1000) : evCall P (d + 1) 5 [.tup (iL one), .tup (iL other)] = some (.tup (iL ((List.range (min one.length other.length)).map (beh one other))), []) := by
  refine call_w (F := f_rows_behind) rfl rfl rfl ?_
  generalize evCall P d = C at *
  show W C b_rows_behind [some (.tup (iL one)), some (.tup (iL other)), none, none, none] _
  unfold b_rows_behind
  ((first | (refine w_asg ?_ ?_; exact rfl) | (refine w_asgM ?_ ?_; exact rfl) | (refine w_par ?_ ?_; exact rfl) | (refine w_unp ?_ ?_; exact rfl) | (refine w_aug ?_ ?_; exact rfl) | (refine w_app ?_ ?_; exact rfl) | (refine w_setix ?_ ?_ ?_; exact rfl; exact rfl) | (refine w_ret ?_ ?_; exact rfl) | refine w_retM ?_ | refine w_pass ?_ | refine w_cnt ?_ | refine w_brk ?_ | (refine w_if ?_ ?_; exact rfl) | refine w_nil ?_))
  (simp (config := { implicitDefEqProofs := false }) (disch := first | with_reducible assumption | omega | (simp only [iL_length, List.length_map, List.length_range, List.length_append, List.length_cons, List.length_nil, List.length_take, List.length_drop]; omega)) only [vl, vls, vlo, vlc, getS_z, getS_s, wipeF, bindTg, setAll, List.set_cons_succ, List.set_cons_zero, Option.map_some, Option.bind_some, Option.map_none, Option.bind_none, blOf, intOf, nat_z, ↓reduceIte, if_true, Bool.false_eq_true, if_false, sub_tupI, sub_lstI, bi_sumL, bi_sumT, bi_allM, bi_anyM, bi_lenT, bi_lenL, bi_lenD, bi_lenS, bi_tupL, bi_tupT, bi_lstT, bi_lstL, bi_intI, bi_absI, bi_min2I, bi_max2I, bi_minL, bi_maxL, cutop_tup, cutop_lst, rev_iT, rev_iLs, op_addI, op_subI, op_mulIL, op_mulIR, op_fdivI, op_modI, op_addT, op_addLs, co_eqI, co_neI, co_ltI, co_leI, co_gtI, co_geI, co_isN, co_isntN, co_eqLs, co_neLs, co_eqTs, co_neTs, iter_lst, iter_tup, compG_range, compG_iL, compG_one, compG_if, compR_one, compR_if, compQ_one, compQ_if, compQ_nil, rgV_ok, rgV2_ok, zipV_T, zipV_L, iL_length, map_pvint, map_int0, Int.toNat_natCast, decide_eq_true_eq, zip_iL, compG_rangeMap, cut_to, cut_from, cut_mid, Option.some.injEq, exists_eq_left', Nx_rt, Tu_rt, min_cast, max_cast, max1_cast, toNat_1, toNat_1', toNat_a, toNat_s, toNat_m1, toNat_0, half_cast, co_eqT0, co_neT0, co_eqL0, co_neL0, List.length_cons, List.length_nil])
  ((first | (refine w_asg ?_ ?_; exact rfl) | (refine w_asgM ?_ ?_; exact rfl) | (refine w_par ?_ ?_; exact rfl) | (refine w_unp ?_ ?_; exact rfl) | (refine w_aug ?_ ?_; exact rfl) | (refine w_app ?_ ?_; exact rfl) | (refine w_setix ?_ ?_ ?_; exact rfl; exact rfl) | (refine w_ret ?_ ?_; exact rfl) | refine w_retM ?_ | refine w_pass ?_ | refine w_cnt ?_ | refine w_brk ?_ | (refine w_if ?_ ?_; exact rfl) | refine w_nil ?_))
  (simp (config := { implicitDefEqProofs := false }) (disch := first | with_reducible assumption | omega | (simp only [iL_length, List.length_map, List.length_range, List.length_append, List.length_cons, List.length_nil, List.length_take, List.length_drop]; omega)) only [vl, vls, vlo, vlc, getS_z, getS_s, wipeF, bindTg, setAll, List.set_cons_succ, List.set_cons_zero, Option.map_some, Option.bind_some, Option.map_none, Option.bind_none, blOf, intOf, nat_z, ↓reduceIte, if_true, Bool.false_eq_true, if_false, sub_tupI, sub_lstI, bi_sumL, bi_sumT, bi_allM, bi_anyM, bi_lenT, bi_lenL, bi_lenD, bi_lenS, bi_tupL, bi_tupT, bi_lstT, bi_lstL, bi_intI, bi_absI, bi_min2I, bi_max2I, bi_minL, bi_maxL, cutop_tup, cutop_lst, rev_iT, rev_iLs, op_addI, op_subI, op_mulIL, op_mulIR, op_fdivI, op_modI, op_addT, op_addLs, co_eqI, co_neI, co_ltI, co_leI, co_gtI, co_geI, co_isN, co_isntN, co_eqLs, co_neLs, co_eqTs, co_neTs, iter_lst, iter_tup, compG_range, compG_iL, compG_one, compG_if, compR_one, compR_if, compQ_one, compQ_if, compQ_nil, rgV_ok, rgV2_ok, zipV_T, zipV_L, iL_length, map_pvint, map_int0, Int.toNat_natCast, decide_eq_true_eq, zip_iL, compG_rangeMap, cut_to, cut_from, cut_mid, Option.some.injEq, exists_eq_left', Nx_rt, Tu_rt, min_cast, max_cast, max1_cast, toNat_1, toNat_1', toNat_a, toNat_s, toNat_m1, toNat_0, half_cast, co_eqT0, co_neT0, co_eqL0, co_neL0, List.length_cons, List.length_nil])
  rfl
def aft (one other : List Int) (s : Nat) : Int := mxL ((List.range ((min one.length other.length + 1) / 2)).map fun k => at' one (s + k) - at' other k)
theorem ok9 (h1 : one.length ≤ 1000) (h2 : other.length ≤ 1000) (h3 : 0 < one.length) (h4 : 0 < other.length) : evCall P (d + 1) 9 [.tup (iL one), .tup (iL other)] = some (.tup (iL ((List.range ((min one.length other.length + 1) / 2)).map (aft one other))), []) := by
  refine call_w (F := f_after) rfl rfl rfl ?_
  generalize evCall P d = C at *
  show W C b_after [some (.tup (iL one)), some (.tup (iL other)), none, none, none] _
  unfold b_after
  ((first | (refine w_asg ?_ ?_; exact rfl) | (refine w_asgM ?_ ?_; exact rfl) | (refine w_par ?_ ?_; exact rfl) | (refine w_unp ?_ ?_; exact rfl) | (refine w_aug ?_ ?_; exact rfl) | (refine w_app ?_ ?_; exact rfl) | (refine w_setix ?_ ?_ ?_; exact rfl; exact rfl) | (refine w_ret ?_ ?_; exact rfl) | refine w_retM ?_ | refine w_pass ?_ | refine w_cnt ?_ | refine w_brk ?_ | (refine w_if ?_ ?_; exact rfl) | refine w_nil ?_))
  (simp (config := { implicitDefEqProofs := false }) (disch := first | with_reducible assumption | omega | (simp only [iL_length, List.length_map, List.length_range, List.length_append, List.length_cons, List.length_nil, List.length_take, List.length_drop]; omega)) only [vl, vls, vlo, vlc, getS_z, getS_s, wipeF, bindTg, setAll, List.set_cons_succ, List.set_cons_zero, Option.map_some, Option.bind_some, Option.map_none, Option.bind_none, blOf, intOf, nat_z, ↓reduceIte, if_true, Bool.false_eq_true, if_false, sub_tupI, sub_lstI, bi_sumL, bi_sumT, bi_allM, bi_anyM, bi_lenT, bi_lenL, bi_lenD, bi_lenS, bi_tupL, bi_tupT, bi_lstT, bi_lstL, bi_intI, bi_absI, bi_min2I, bi_max2I, bi_minL, bi_maxL, cutop_tup, cutop_lst, rev_iT, rev_iLs, op_addI, op_subI, op_mulIL, op_mulIR, op_fdivI, op_modI, op_addT, op_addLs, co_eqI, co_neI, co_ltI, co_leI, co_gtI, co_geI, co_isN, co_isntN, co_eqLs, co_neLs, co_eqTs, co_neTs, iter_lst, iter_tup, compG_range, compG_iL, compG_one, compG_if, compR_one, compR_if, compQ_one, compQ_if, compQ_nil, rgV_ok, rgV2_ok, zipV_T, zipV_L, iL_length, map_pvint, map_int0, Int.toNat_natCast, decide_eq_true_eq, zip_iL, compG_rangeMap, cut_to, cut_from, cut_mid, Option.some.injEq, exists_eq_left', Nx_rt, Tu_rt, min_cast, max_cast, max1_cast, toNat_1, toNat_1', toNat_a, toNat_s, toNat_m1, toNat_0, half_cast, co_eqT0, co_neT0, co_eqL0, co_neL0, List.length_cons, List.length_nil])
  ((first | (refine w_asg ?_ ?_; exact rfl) | (refine w_asgM ?_ ?_; exact rfl) | (refine w_par ?_ ?_; exact rfl) | (refine w_unp ?_ ?_; exact rfl) | (refine w_aug ?_ ?_; exact rfl) | (refine w_app ?_ ?_; exact rfl) | (refine w_setix ?_ ?_ ?_; exact rfl; exact rfl) | (refine w_ret ?_ ?_; exact rfl) | refine w_retM ?_ | refine w_pass ?_ | refine w_cnt ?_ | refine w_brk ?_ | (refine w_if ?_ ?_; exact rfl) | refine w_nil ?_))
  (simp (config := { implicitDefEqProofs := false }) (disch := first | with_reducible assumption | omega | (simp only [iL_length, List.length_map, List.length_range, List.length_append, List.length_cons, List.length_nil, List.length_take, List.length_drop]; omega)) only [vl, vls, vlo, vlc, getS_z, getS_s, wipeF, bindTg, setAll, List.set_cons_succ, List.set_cons_zero, Option.map_some, Option.bind_some, Option.map_none, Option.bind_none, blOf, intOf, nat_z, ↓reduceIte, if_true, Bool.false_eq_true, if_false, sub_tupI, sub_lstI, bi_sumL, bi_sumT, bi_allM, bi_anyM, bi_lenT, bi_lenL, bi_lenD, bi_lenS, bi_tupL, bi_tupT, bi_lstT, bi_lstL, bi_intI, bi_absI, bi_min2I, bi_max2I, bi_minL, bi_maxL, cutop_tup, cutop_lst, rev_iT, rev_iLs, op_addI, op_subI, op_mulIL, op_mulIR, op_fdivI, op_modI, op_addT, op_addLs, co_eqI, co_neI, co_ltI, co_leI, co_gtI, co_geI, co_isN, co_isntN, co_eqLs, co_neLs, co_eqTs, co_neTs, iter_lst, iter_tup, compG_range, compG_iL, compG_one, compG_if, compR_one, compR_if, compQ_one, compQ_if, compQ_nil, rgV_ok, rgV2_ok, zipV_T, zipV_L, iL_length, map_pvint, map_int0, Int.toNat_natCast, decide_eq_true_eq, zip_iL, compG_rangeMap, cut_to, cut_from, cut_mid, Option.some.injEq, exists_eq_left', Nx_rt, Tu_rt, min_cast, max_cast, max1_cast, toNat_1, toNat_1', toNat_a, toNat_s, toNat_m1, toNat_0, half_cast, co_eqT0, co_neT0, co_eqL0, co_neL0, List.length_cons, List.length_nil])
  rfl
def bo (one other : List Int) : Nat → Int
  | 0 => 0
  | k + 1 => max (bo one other k) (at' one k - at' other k)
def boL (one other : List Int) (n : Nat) : List Int := (List.range n).map fun k => bo one other (k + 1)
theorem boL_s (n : Nat) : boL one other (n + 1) = boL one other n ++ [bo one other (n + 1)] := by simp [boL, List.range_succ]
theorem boL_len (n : Nat) : (boL one other n).length = n := by simp [boL]
theorem ok8 (h1 : one.length ≤ 1000) (h2 : other.length ≤ 1000) : evCall P (d + 1) 8 [.tup (iL one), .tup (iL other)] = some (.tup (iL (boL one other (min one.length other.length))), []) := by
  refine call_w (F := f_left_over) rfl rfl rfl ?_
  generalize evCall P d = C at *
  show W C b_left_over [some (.tup (iL one)), some (.tup (iL other)), none, none, none] _
  unfold b_left_over
  ((first | (refine w_asg ?_ ?_; exact rfl) | (refine w_asgM ?_ ?_; exact rfl) | (refine w_par ?_ ?_; exact rfl) | (refine w_unp ?_ ?_; exact rfl) | (refine w_aug ?_ ?_; exact rfl) | (refine w_app ?_ ?_; exact rfl) | (refine w_setix ?_ ?_ ?_; exact rfl; exact rfl) | (refine w_ret ?_ ?_; exact rfl) | refine w_retM ?_ | refine w_pass ?_ | refine w_cnt ?_ | refine w_brk ?_ | (refine w_if ?_ ?_; exact rfl) | refine w_nil ?_))
  (simp (config := { implicitDefEqProofs := false }) (disch := first | with_reducible assumption | omega | (simp only [iL_length, List.length_map, List.length_range, List.length_append, List.length_cons, List.length_nil, List.length_take, List.length_drop]; omega)) only [vl, vls, vlo, vlc, getS_z, getS_s, wipeF, bindTg, setAll, List.set_cons_succ, List.set_cons_zero, Option.map_some, Option.bind_some, Option.map_none, Option.bind_none, blOf, intOf, nat_z, ↓reduceIte, if_true, Bool.false_eq_true, if_false, sub_tupI, sub_lstI, bi_sumL, bi_sumT, bi_allM, bi_anyM, bi_lenT, bi_lenL, bi_lenD, bi_lenS, bi_tupL, bi_tupT, bi_lstT, bi_lstL, bi_intI, bi_absI, bi_min2I, bi_max2I, bi_minL, bi_maxL, cutop_tup, cutop_lst, rev_iT, rev_iLs, op_addI, op_subI, op_mulIL, op_mulIR, op_fdivI, op_modI, op_addT, op_addLs, co_eqI, co_neI, co_ltI, co_leI, co_gtI, co_geI, co_isN, co_isntN, co_eqLs, co_neLs, co_eqTs, co_neTs, iter_lst, iter_tup, compG_range, compG_iL, compG_one, compG_if, compR_one, compR_if, compQ_one, compQ_if, compQ_nil, rgV_ok, rgV2_ok, zipV_T, zipV_L, iL_length, map_pvint, map_int0, Int.toNat_natCast, decide_eq_true_eq, zip_iL, compG_rangeMap, cut_to, cut_from, cut_mid, Option.some.injEq, exists_eq_left', Nx_rt, Tu_rt, min_cast, max_cast, max1_cast, toNat_1, toNat_1', toNat_a, toNat_s, toNat_m1, toNat_0, half_cast, co_eqT0, co_neT0, co_eqL0, co_neL0, List.length_cons, List.length_nil,Option.some.injEq, exists_eq_left', app_lst, aug_addI, aug_subI, iL_snoc, List.length_append, List.length_cons, List.length_nil, PV.tup.injEq, PV.bl.injEq, List.map_cons, List.map_nil, List.cons_append, List.nil_append, isMut, parChk, Bool.not_true, Bool.not_false, Bool.or_true, Bool.true_or, Bool.false_or, Bool.true_and, true_and])
  refine w_rg (I := fun k fr => ∃ a, fr = [some (.tup (iL one)), some (.tup (iL other)), some (.lst (iL (boL one other k))), some (.int (bo one other k)), a]) (min one.length other.length) rfl (by (simp (config := { implicitDefEqProofs := false }) (disch := first | with_reducible assumption | omega | (simp only [iL_length, List.length_map, List.length_range, List.length_append, List.length_cons, List.length_nil, List.length_take, List.length_drop]; omega)) only [vl, vls, vlo, vlc, getS_z, getS_s, wipeF, bindTg, setAll, List.set_cons_succ, List.set_cons_zero, Option.map_some, Option.bind_some, Option.map_none, Option.bind_none, blOf, intOf, nat_z, ↓reduceIte, if_true, Bool.false_eq_true, if_false, sub_tupI, sub_lstI, bi_sumL, bi_sumT, bi_allM, bi_anyM, bi_lenT, bi_lenL, bi_lenD, bi_lenS, bi_tupL, bi_tupT, bi_lstT, bi_lstL, bi_intI, bi_absI, bi_min2I, bi_max2I, bi_minL, bi_maxL, cutop_tup, cutop_lst, rev_iT, rev_iLs, op_addI, op_subI, op_mulIL, op_mulIR, op_fdivI, op_modI, op_addT, op_addLs, co_eqI, co_neI, co_ltI, co_leI, co_gtI, co_geI, co_isN, co_isntN, co_eqLs, co_neLs, co_eqTs, co_neTs, iter_lst, iter_tup, compG_range, compG_iL, compG_one, compG_if, compR_one, compR_if, compQ_one, compQ_if, compQ_nil, rgV_ok, rgV2_ok, zipV_T, zipV_L, iL_length, map_pvint, map_int0, Int.toNat_natCast, decide_eq_true_eq, zip_iL, compG_rangeMap, cut_to, cut_from, cut_mid, Option.some.injEq, exists_eq_left', Nx_rt, Tu_rt, min_cast, max_cast, max1_cast, toNat_1, toNat_1', toNat_a, toNat_s, toNat_m1, toNat_0, half_cast, co_eqT0, co_neT0, co_eqL0, co_neL0, List.length_cons, List.length_nil])) ⟨none, rfl⟩ ?_ ?_
  · rintro k _ hk ⟨a, rfl⟩
    have hd := boL_len (one := one) (other := other) k
    refine ⟨_, rfl, ?_⟩
    ((first | (refine w_asg ?_ ?_; exact rfl) | (refine w_asgM ?_ ?_; exact rfl) | (refine w_par ?_ ?_; exact rfl) | (refine w_unp ?_ ?_; exact rfl) | (refine w_aug ?_ ?_; exact rfl) | (refine w_app ?_ ?_; exact rfl) | (refine w_setix ?_ ?_ ?_; exact rfl; exact rfl) | (refine w_ret ?_ ?_; exact rfl) | refine w_retM ?_ | refine w_pass ?_ | refine w_cnt ?_ | refine w_brk ?_ | (refine w_if ?_ ?_; exact rfl) | refine w_nil ?_))
    (simp (config := { implicitDefEqProofs := false }) (disch := first | with_reducible assumption | omega | (simp only [iL_length, List.length_map, List.length_range, List.length_append, List.length_cons, List.length_nil, List.length_take, List.length_drop]; omega)) only [vl, vls, vlo, vlc, getS_z, getS_s, wipeF, bindTg, setAll, List.set_cons_succ, List.set_cons_zero, Option.map_some, Option.bind_some, Option.map_none, Option.bind_none, blOf, intOf, nat_z, ↓reduceIte, if_true, Bool.false_eq_true, if_false, sub_tupI, sub_lstI, bi_sumL, bi_sumT, bi_allM, bi_anyM, bi_lenT, bi_lenL, bi_lenD, bi_lenS, bi_tupL, bi_tupT, bi_lstT, bi_lstL, bi_intI, bi_absI, bi_min2I, bi_max2I, bi_minL, bi_maxL, cutop_tup, cutop_lst, rev_iT, rev_iLs, op_addI, op_subI, op_mulIL, op_mulIR, op_fdivI, op_modI, op_addT, op_addLs, co_eqI, co_neI, co_ltI, co_leI, co_gtI, co_geI, co_isN, co_isntN, co_eqLs, co_neLs, co_eqTs, co_neTs, iter_lst, iter_tup, compG_range, compG_iL, compG_one, compG_if, compR_one, compR_if, compQ_one, compQ_if, compQ_nil, rgV_ok, rgV2_ok, zipV_T, zipV_L, iL_length, map_pvint, map_int0, Int.toNat_natCast, decide_eq_true_eq, zip_iL, compG_rangeMap, cut_to, cut_from, cut_mid, Option.some.injEq, exists_eq_left', Nx_rt, Tu_rt, min_cast, max_cast, max1_cast, toNat_1, toNat_1', toNat_a, toNat_s, toNat_m1, toNat_0, half_cast, co_eqT0, co_neT0, co_eqL0, co_neL0, List.length_cons, List.length_nil,Option.some.injEq, exists_eq_left', app_lst, aug_addI, aug_subI, iL_snoc, List.length_append, List.length_cons, List.length_nil, PV.tup.injEq, PV.bl.injEq, List.map_cons, List.map_nil, List.cons_append, List.nil_append, isMut, parChk, Bool.not_true, Bool.not_false, Bool.or_true, Bool.true_or, Bool.false_or, Bool.true_and, true_and])
    ((first | (refine w_asg ?_ ?_; exact rfl) | (refine w_asgM ?_ ?_; exact rfl) | (refine w_par ?_ ?_; exact rfl) | (refine w_unp ?_ ?_; exact rfl) | (refine w_aug ?_ ?_; exact rfl) | (refine w_app ?_ ?_; exact rfl) | (refine w_setix ?_ ?_ ?_; exact rfl; exact rfl) | (refine w_ret ?_ ?_; exact rfl) | refine w_retM ?_ | refine w_pass ?_ | refine w_cnt ?_ | refine w_brk ?_ | (refine w_if ?_ ?_; exact rfl) | refine w_nil ?_))
    (simp (config := { implicitDefEqProofs := false }) (disch := first | with_reducible assumption | omega | (simp only [iL_length, List.length_map, List.length_range, List.length_append, List.length_cons, List.length_nil, List.length_take, List.length_drop]; omega)) only [vl, vls, vlo, vlc, getS_z, getS_s, wipeF, bindTg, setAll, List.set_cons_succ, List.set_cons_zero, Option.map_some, Option.bind_some, Option.map_none, Option.bind_none, blOf, intOf, nat_z, ↓reduceIte, if_true, Bool.false_eq_true, if_false, sub_tupI, sub_lstI, bi_sumL, bi_sumT, bi_allM, bi_anyM, bi_lenT, bi_lenL, bi_lenD, bi_lenS, bi_tupL, bi_tupT, bi_lstT, bi_lstL, bi_intI, bi_absI, bi_min2I, bi_max2I, bi_minL, bi_maxL, cutop_tup, cutop_lst, rev_iT, rev_iLs, op_addI, op_subI, op_mulIL, op_mulIR, op_fdivI, op_modI, op_addT, op_addLs, co_eqI, co_neI, co_ltI, co_leI, co_gtI, co_geI, co_isN, co_isntN, co_eqLs, co_neLs, co_eqTs, co_neTs, iter_lst, iter_tup, compG_range, compG_iL, compG_one, compG_if, compR_one, compR_if, compQ_one, compQ_if, compQ_nil, rgV_ok, rgV2_ok, zipV_T, zipV_L, iL_length, map_pvint, map_int0, Int.toNat_natCast, decide_eq_true_eq, zip_iL, compG_rangeMap, cut_to, cut_from, cut_mid, Option.some.injEq, exists_eq_left', Nx_rt, Tu_rt, min_cast, max_cast, max1_cast, toNat_1, toNat_1', toNat_a, toNat_s, toNat_m1, toNat_0, half_cast, co_eqT0, co_neT0, co_eqL0, co_neL0, List.length_cons, List.length_nil,Option.some.injEq, exists_eq_left', app_lst, aug_addI, aug_subI, iL_snoc, List.length_append, List.length_cons, List.length_nil, PV.tup.injEq, PV.bl.injEq, List.map_cons, List.map_nil, List.cons_append, List.nil_append, isMut, parChk, Bool.not_true, Bool.not_false, Bool.or_true, Bool.true_or, Bool.false_or, Bool.true_and, true_and])
    exact w_nil ⟨_, by rw [boL_s]; rfl⟩
  · rintro _ ⟨a, rfl⟩
    ((first | (refine w_asg ?_ ?_; exact rfl) | (refine w_asgM ?_ ?_; exact rfl) | (refine w_par ?_ ?_; exact rfl) | (refine w_unp ?_ ?_; exact rfl) | (refine w_aug ?_ ?_; exact rfl) | (refine w_app ?_ ?_; exact rfl) | (refine w_setix ?_ ?_ ?_; exact rfl; exact rfl) | (refine w_ret ?_ ?_; exact rfl) | refine w_retM ?_ | refine w_pass ?_ | refine w_cnt ?_ | refine w_brk ?_ | (refine w_if ?_ ?_; exact rfl) | refine w_nil ?_))
    (simp (config := { implicitDefEqProofs := false }) (disch := first | with_reducible assumption | omega | (simp only [iL_length, List.length_map, List.length_range, List.length_append, List.length_cons, List.length_nil, List.length_take, List.length_drop]; omega)) only [vl, vls, vlo, vlc, getS_z, getS_s, wipeF, bindTg, setAll, List.set_cons_succ, List.set_cons_zero, Option.map_some, Option.bind_some, Option.map_none, Option.bind_none, blOf, intOf, nat_z, ↓reduceIte, if_true, Bool.false_eq_true, if_false, sub_tupI, sub_lstI, bi_sumL, bi_sumT, bi_allM, bi_anyM, bi_lenT, bi_lenL, bi_lenD, bi_lenS, bi_tupL, bi_tupT, bi_lstT, bi_lstL, bi_intI, bi_absI, bi_min2I, bi_max2I, bi_minL, bi_maxL, cutop_tup, cutop_lst, rev_iT, rev_iLs, op_addI, op_subI, op_mulIL, op_mulIR, op_fdivI, op_modI, op_addT, op_addLs, co_eqI, co_neI, co_ltI, co_leI, co_gtI, co_geI, co_isN, co_isntN, co_eqLs, co_neLs, co_eqTs, co_neTs, iter_lst, iter_tup, compG_range, compG_iL, compG_one, compG_if, compR_one, compR_if, compQ_one, compQ_if, compQ_nil, rgV_ok, rgV2_ok, zipV_T, zipV_L, iL_length, map_pvint, map_int0, Int.toNat_natCast, decide_eq_true_eq, zip_iL, compG_rangeMap, cut_to, cut_from, cut_mid, Option.some.injEq, exists_eq_left', Nx_rt, Tu_rt, min_cast, max_cast, max1_cast, toNat_1, toNat_1', toNat_a, toNat_s, toNat_m1, toNat_0, half_cast, co_eqT0, co_neT0, co_eqL0, co_neL0, List.length_cons, List.length_nil])
theorem ok10 {burst gap : Int} {s : Nat} (h1 : 0 ≤ burst) (h2 : burst ≤ 1000) (h3 : 0 < gap) (h4 : gap ≤ 1000) (h5 : s ≤ 1000) : evCall P (d + 1) 10 [.int burst, .int gap, .int s] = some (.tup (iL ((List.range (s + 1)).map fun (n : Nat) => burst * -(-(n : Int) / gap))), []) := by
  refine call_w (F := f_steps_curve) rfl rfl rfl ?_
  generalize evCall P d = C at *
  show W C b_steps_curve [some (.int burst), some (.int gap), some (.int s), none] _
  unfold b_steps_curve
  ((first | (refine w_asg ?_ ?_; exact rfl) | (refine w_asgM ?_ ?_; exact rfl) | (refine w_par ?_ ?_; exact rfl) | (refine w_unp ?_ ?_; exact rfl) | (refine w_aug ?_ ?_; exact rfl) | (refine w_app ?_ ?_; exact rfl) | (refine w_setix ?_ ?_ ?_; exact rfl; exact rfl) | (refine w_ret ?_ ?_; exact rfl) | refine w_retM ?_ | refine w_pass ?_ | refine w_cnt ?_ | refine w_brk ?_ | (refine w_if ?_ ?_; exact rfl) | refine w_nil ?_))
  (simp (config := { implicitDefEqProofs := false }) (disch := first | with_reducible assumption | omega | (simp only [iL_length, List.length_map, List.length_range, List.length_append, List.length_cons, List.length_nil, List.length_take, List.length_drop]; omega)) only [vl, vls, vlo, vlc, getS_z, getS_s, wipeF, bindTg, setAll, List.set_cons_succ, List.set_cons_zero, Option.map_some, Option.bind_some, Option.map_none, Option.bind_none, blOf, intOf, nat_z, ↓reduceIte, if_true, Bool.false_eq_true, if_false, sub_tupI, sub_lstI, bi_sumL, bi_sumT, bi_allM, bi_anyM, bi_lenT, bi_lenL, bi_lenD, bi_lenS, bi_tupL, bi_tupT, bi_lstT, bi_lstL, bi_intI, bi_absI, bi_min2I, bi_max2I, bi_minL, bi_maxL, cutop_tup, cutop_lst, rev_iT, rev_iLs, op_addI, op_subI, op_mulIL, op_mulIR, op_fdivI, op_modI, op_addT, op_addLs, co_eqI, co_neI, co_ltI, co_leI, co_gtI, co_geI, co_isN, co_isntN, co_eqLs, co_neLs, co_eqTs, co_neTs, iter_lst, iter_tup, compG_range, compG_iL, compG_one, compG_if, compR_one, compR_if, compQ_one, compQ_if, compQ_nil, rgV_ok, rgV2_ok, zipV_T, zipV_L, iL_length, map_pvint, map_int0, Int.toNat_natCast, decide_eq_true_eq, zip_iL, compG_rangeMap, cut_to, cut_from, cut_mid, Option.some.injEq, exists_eq_left', Nx_rt, Tu_rt, min_cast, max_cast, max1_cast, toNat_1, toNat_1', toNat_a, toNat_s, toNat_m1, toNat_0, half_cast, co_eqT0, co_neT0, co_eqL0, co_neL0, List.length_cons, List.length_nil])
theorem ok11 {wait rate : Int} {s : Nat} (h1 : 0 ≤ rate) (h2 : rate ≤ 1000) (h5 : s ≤ 1000) : evCall P (d + 1) 11 [.int wait, .int rate, .int s] = some (.tup (iL ((List.range (s + 1)).map fun (n : Nat) => max 0 ((n : Int) - wait) * rate)), []) := by
  refine call_w (F := f_rate_curve) rfl rfl rfl ?_
  generalize evCall P d = C at *
  show W C b_rate_curve [some (.int wait), some (.int rate), some (.int s), none] _
  unfold b_rate_curve
  ((first | (refine w_asg ?_ ?_; exact rfl) | (refine w_asgM ?_ ?_; exact rfl) | (refine w_par ?_ ?_; exact rfl) | (refine w_unp ?_ ?_; exact rfl) | (refine w_aug ?_ ?_; exact rfl) | (refine w_app ?_ ?_; exact rfl) | (refine w_setix ?_ ?_ ?_; exact rfl; exact rfl) | (refine w_ret ?_ ?_; exact rfl) | refine w_retM ?_ | refine w_pass ?_ | refine w_cnt ?_ | refine w_brk ?_ | (refine w_if ?_ ?_; exact rfl) | refine w_nil ?_))
  (simp (config := { implicitDefEqProofs := false }) (disch := first | with_reducible assumption | omega | (simp only [iL_length, List.length_map, List.length_range, List.length_append, List.length_cons, List.length_nil, List.length_take, List.length_drop]; omega)) only [vl, vls, vlo, vlc, getS_z, getS_s, wipeF, bindTg, setAll, List.set_cons_succ, List.set_cons_zero, Option.map_some, Option.bind_some, Option.map_none, Option.bind_none, blOf, intOf, nat_z, ↓reduceIte, if_true, Bool.false_eq_true, if_false, sub_tupI, sub_lstI, bi_sumL, bi_sumT, bi_allM, bi_anyM, bi_lenT, bi_lenL, bi_lenD, bi_lenS, bi_tupL, bi_tupT, bi_lstT, bi_lstL, bi_intI, bi_absI, bi_min2I, bi_max2I, bi_minL, bi_maxL, cutop_tup, cutop_lst, rev_iT, rev_iLs, op_addI, op_subI, op_mulIL, op_mulIR, op_fdivI, op_modI, op_addT, op_addLs, co_eqI, co_neI, co_ltI, co_leI, co_gtI, co_geI, co_isN, co_isntN, co_eqLs, co_neLs, co_eqTs, co_neTs, iter_lst, iter_tup, compG_range, compG_iL, compG_one, compG_if, compR_one, compR_if, compQ_one, compQ_if, compQ_nil, rgV_ok, rgV2_ok, zipV_T, zipV_L, iL_length, map_pvint, map_int0, Int.toNat_natCast, decide_eq_true_eq, zip_iL, compG_rangeMap, cut_to, cut_from, cut_mid, Option.some.injEq, exists_eq_left', Nx_rt, Tu_rt, min_cast, max_cast, max1_cast, toNat_1, toNat_1', toNat_a, toNat_s, toNat_m1, toNat_0, half_cast, co_eqT0, co_neT0, co_eqL0, co_neL0, List.length_cons, List.length_nil])
theorem ok14 (h1 : one.length ≤ 1000) (h2 : other.length ≤ 1000) : evCall P (d + 1) 14 [.tup (iL one), .tup (iL other)] = some (.bl ((List.range (min one.length other.length)).all fun k => decide (at' one k ≤ at' other k)), []) := by
  refine call_w (F := f_is_kept) rfl rfl rfl ?_
  generalize evCall P d = C at *
  show W C b_is_kept [some (.tup (iL one)), some (.tup (iL other)), none, none] _
  unfold b_is_kept
  ((first | (refine w_asg ?_ ?_; exact rfl) | (refine w_asgM ?_ ?_; exact rfl) | (refine w_par ?_ ?_; exact rfl) | (refine w_unp ?_ ?_; exact rfl) | (refine w_aug ?_ ?_; exact rfl) | (refine w_app ?_ ?_; exact rfl) | (refine w_setix ?_ ?_ ?_; exact rfl; exact rfl) | (refine w_ret ?_ ?_; exact rfl) | refine w_retM ?_ | refine w_pass ?_ | refine w_cnt ?_ | refine w_brk ?_ | (refine w_if ?_ ?_; exact rfl) | refine w_nil ?_))
  (simp (config := { implicitDefEqProofs := false }) (disch := first | with_reducible assumption | omega | (simp only [iL_length, List.length_map, List.length_range, List.length_append, List.length_cons, List.length_nil, List.length_take, List.length_drop]; omega)) only [vl, vls, vlo, vlc, getS_z, getS_s, wipeF, bindTg, setAll, List.set_cons_succ, List.set_cons_zero, Option.map_some, Option.bind_some, Option.map_none, Option.bind_none, blOf, intOf, nat_z, ↓reduceIte, if_true, Bool.false_eq_true, if_false, sub_tupI, sub_lstI, bi_sumL, bi_sumT, bi_allM, bi_anyM, bi_lenT, bi_lenL, bi_lenD, bi_lenS, bi_tupL, bi_tupT, bi_lstT, bi_lstL, bi_intI, bi_absI, bi_min2I, bi_max2I, bi_minL, bi_maxL, cutop_tup, cutop_lst, rev_iT, rev_iLs, op_addI, op_subI, op_mulIL, op_mulIR, op_fdivI, op_modI, op_addT, op_addLs, co_eqI, co_neI, co_ltI, co_leI, co_gtI, co_geI, co_isN, co_isntN, co_eqLs, co_neLs, co_eqTs, co_neTs, iter_lst, iter_tup, compG_range, compG_iL, compG_one, compG_if, compR_one, compR_if, compQ_one, compQ_if, compQ_nil, rgV_ok, rgV2_ok, zipV_T, zipV_L, iL_length, map_pvint, map_int0, Int.toNat_natCast, decide_eq_true_eq, zip_iL, compG_rangeMap, cut_to, cut_from, cut_mid, Option.some.injEq, exists_eq_left', Nx_rt, Tu_rt, min_cast, max_cast, max1_cast, toNat_1, toNat_1', toNat_a, toNat_s, toNat_m1, toNat_0, half_cast, co_eqT0, co_neT0, co_eqL0, co_neL0, List.length_cons, List.length_nil])
def nrw (come : List Int) (k : Nat) : Int := mxL ((List.range (max 1 come.length)).map fun b => ((come.drop b).take (k + 1)).sum)
def nrwL (come : List Int) (n : Nat) : List Int := 0 :: (List.range n).map (nrw come)
theorem nrwL_s (come : List Int) (n : Nat) : nrwL come (n + 1) = nrwL come n ++ [nrw come n] := by simp [nrwL, List.range_succ]
theorem nrwL_len (come : List Int) (n : Nat) : (nrwL come n).length = n + 1 := by simp [nrwL]
theorem ok13 {s : Nat} (h1 : come.length ≤ 1000) (h2 : s ≤ 1000) : evCall P (d + 1) 13 [.tup (iL come), .int s] = some (.tup (iL (nrwL come s)), []) := by
  refine call_w (F := f_narrowest) rfl rfl rfl ?_
  generalize evCall P d = C at *
  show W C b_narrowest [some (.tup (iL come)), some (.int s), none, none, none, none] _
  unfold b_narrowest
  ((first | (refine w_asg ?_ ?_; exact rfl) | (refine w_asgM ?_ ?_; exact rfl) | (refine w_par ?_ ?_; exact rfl) | (refine w_unp ?_ ?_; exact rfl) | (refine w_aug ?_ ?_; exact rfl) | (refine w_app ?_ ?_; exact rfl) | (refine w_setix ?_ ?_ ?_; exact rfl; exact rfl) | (refine w_ret ?_ ?_; exact rfl) | refine w_retM ?_ | refine w_pass ?_ | refine w_cnt ?_ | refine w_brk ?_ | (refine w_if ?_ ?_; exact rfl) | refine w_nil ?_))
  (simp (config := { implicitDefEqProofs := false }) (disch := first | with_reducible assumption | omega | (simp only [iL_length, List.length_map, List.length_range, List.length_append, List.length_cons, List.length_nil, List.length_take, List.length_drop]; omega)) only [vl, vls, vlo, vlc, getS_z, getS_s, wipeF, bindTg, setAll, List.set_cons_succ, List.set_cons_zero, Option.map_some, Option.bind_some, Option.map_none, Option.bind_none, blOf, intOf, nat_z, ↓reduceIte, if_true, Bool.false_eq_true, if_false, sub_tupI, sub_lstI, bi_sumL, bi_sumT, bi_allM, bi_anyM, bi_lenT, bi_lenL, bi_lenD, bi_lenS, bi_tupL, bi_tupT, bi_lstT, bi_lstL, bi_intI, bi_absI, bi_min2I, bi_max2I, bi_minL, bi_maxL, cutop_tup, cutop_lst, rev_iT, rev_iLs, op_addI, op_subI, op_mulIL, op_mulIR, op_fdivI, op_modI, op_addT, op_addLs, co_eqI, co_neI, co_ltI, co_leI, co_gtI, co_geI, co_isN, co_isntN, co_eqLs, co_neLs, co_eqTs, co_neTs, iter_lst, iter_tup, compG_range, compG_iL, compG_one, compG_if, compR_one, compR_if, compQ_one, compQ_if, compQ_nil, rgV_ok, rgV2_ok, zipV_T, zipV_L, iL_length, map_pvint, map_int0, Int.toNat_natCast, decide_eq_true_eq, zip_iL, compG_rangeMap, cut_to, cut_from, cut_mid, Option.some.injEq, exists_eq_left', Nx_rt, Tu_rt, min_cast, max_cast, max1_cast, toNat_1, toNat_1', toNat_a, toNat_s, toNat_m1, toNat_0, half_cast, co_eqT0, co_neT0, co_eqL0, co_neL0, List.length_cons, List.length_nil,Option.some.injEq, exists_eq_left', app_lst, aug_addI, aug_subI, iL_snoc, List.length_append, List.length_cons, List.length_nil, PV.tup.injEq, PV.bl.injEq, List.map_cons, List.map_nil, List.cons_append, List.nil_append, isMut, parChk, Bool.not_true, Bool.not_false, Bool.or_true, Bool.true_or, Bool.false_or, Bool.true_and, true_and])
  refine w_rg2 (I := fun k fr => ∃ a b c, fr = [some (.tup (iL come)), some (.int s), some (.lst (iL (nrwL come k))), a, b, c]) 1 s rfl (by (simp (config := { implicitDefEqProofs := false }) (disch := first | with_reducible assumption | omega | (simp only [iL_length, List.length_map, List.length_range, List.length_append, List.length_cons, List.length_nil, List.length_take, List.length_drop]; omega)) only [vl, vls, vlo, vlc, getS_z, getS_s, wipeF, bindTg, setAll, List.set_cons_succ, List.set_cons_zero, Option.map_some, Option.bind_some, Option.map_none, Option.bind_none, blOf, intOf, nat_z, ↓reduceIte, if_true, Bool.false_eq_true, if_false, sub_tupI, sub_lstI, bi_sumL, bi_sumT, bi_allM, bi_anyM, bi_lenT, bi_lenL, bi_lenD, bi_lenS, bi_tupL, bi_tupT, bi_lstT, bi_lstL, bi_intI, bi_absI, bi_min2I, bi_max2I, bi_minL, bi_maxL, cutop_tup, cutop_lst, rev_iT, rev_iLs, op_addI, op_subI, op_mulIL, op_mulIR, op_fdivI, op_modI, op_addT, op_addLs, co_eqI, co_neI, co_ltI, co_leI, co_gtI, co_geI, co_isN, co_isntN, co_eqLs, co_neLs, co_eqTs, co_neTs, iter_lst, iter_tup, compG_range, compG_iL, compG_one, compG_if, compR_one, compR_if, compQ_one, compQ_if, compQ_nil, rgV_ok, rgV2_ok, zipV_T, zipV_L, iL_length, map_pvint, map_int0, Int.toNat_natCast, decide_eq_true_eq, zip_iL, compG_rangeMap, cut_to, cut_from, cut_mid, Option.some.injEq, exists_eq_left', Nx_rt, Tu_rt, min_cast, max_cast, max1_cast, toNat_1, toNat_1', toNat_a, toNat_s, toNat_m1, toNat_0, half_cast, co_eqT0, co_neT0, co_eqL0, co_neL0, List.length_cons, List.length_nil]); congr 3; omega) ⟨none, none, none, rfl⟩ ?_ ?_
  · rintro k _ hk ⟨a, b, c, rfl⟩
    have hd := nrwL_len come k
    refine ⟨_, rfl, ?_⟩
    ((first | (refine w_asg ?_ ?_; exact rfl) | (refine w_asgM ?_ ?_; exact rfl) | (refine w_par ?_ ?_; exact rfl) | (refine w_unp ?_ ?_; exact rfl) | (refine w_aug ?_ ?_; exact rfl) | (refine w_app ?_ ?_; exact rfl) | (refine w_setix ?_ ?_ ?_; exact rfl; exact rfl) | (refine w_ret ?_ ?_; exact rfl) | refine w_retM ?_ | refine w_pass ?_ | refine w_cnt ?_ | refine w_brk ?_ | (refine w_if ?_ ?_; exact rfl) | refine w_nil ?_))
    (simp (config := { implicitDefEqProofs := false }) (disch := first | with_reducible assumption | omega | (simp only [iL_length, List.length_map, List.length_range, List.length_append, List.length_cons, List.length_nil, List.length_take, List.length_drop]; omega)) only [vl, vls, vlo, vlc, getS_z, getS_s, wipeF, bindTg, setAll, List.set_cons_succ, List.set_cons_zero, Option.map_some, Option.bind_some, Option.map_none, Option.bind_none, blOf, intOf, nat_z, ↓reduceIte, if_true, Bool.false_eq_true, if_false, sub_tupI, sub_lstI, bi_sumL, bi_sumT, bi_allM, bi_anyM, bi_lenT, bi_lenL, bi_lenD, bi_lenS, bi_tupL, bi_tupT, bi_lstT, bi_lstL, bi_intI, bi_absI, bi_min2I, bi_max2I, bi_minL, bi_maxL, cutop_tup, cutop_lst, rev_iT, rev_iLs, op_addI, op_subI, op_mulIL, op_mulIR, op_fdivI, op_modI, op_addT, op_addLs, co_eqI, co_neI, co_ltI, co_leI, co_gtI, co_geI, co_isN, co_isntN, co_eqLs, co_neLs, co_eqTs, co_neTs, iter_lst, iter_tup, compG_range, compG_iL, compG_one, compG_if, compR_one, compR_if, compQ_one, compQ_if, compQ_nil, rgV_ok, rgV2_ok, zipV_T, zipV_L, iL_length, map_pvint, map_int0, Int.toNat_natCast, decide_eq_true_eq, zip_iL, compG_rangeMap, cut_to, cut_from, cut_mid, Option.some.injEq, exists_eq_left', Nx_rt, Tu_rt, min_cast, max_cast, max1_cast, toNat_1, toNat_1', toNat_a, toNat_s, toNat_m1, toNat_0, half_cast, co_eqT0, co_neT0, co_eqL0, co_neL0, List.length_cons, List.length_nil,Option.some.injEq, exists_eq_left', app_lst, aug_addI, aug_subI, iL_snoc, List.length_append, List.length_cons, List.length_nil, PV.tup.injEq, PV.bl.injEq, List.map_cons, List.map_nil, List.cons_append, List.nil_append, isMut, parChk, Bool.not_true, Bool.not_false, Bool.or_true, Bool.true_or, Bool.false_or, Bool.true_and, true_and])
    ((first | (refine w_asg ?_ ?_; exact rfl) | (refine w_asgM ?_ ?_; exact rfl) | (refine w_par ?_ ?_; exact rfl) | (refine w_unp ?_ ?_; exact rfl) | (refine w_aug ?_ ?_; exact rfl) | (refine w_app ?_ ?_; exact rfl) | (refine w_setix ?_ ?_ ?_; exact rfl; exact rfl) | (refine w_ret ?_ ?_; exact rfl) | refine w_retM ?_ | refine w_pass ?_ | refine w_cnt ?_ | refine w_brk ?_ | (refine w_if ?_ ?_; exact rfl) | refine w_nil ?_))
    (simp (config := { implicitDefEqProofs := false }) (disch := first | with_reducible assumption | omega | (simp only [iL_length, List.length_map, List.length_range, List.length_append, List.length_cons, List.length_nil, List.length_take, List.length_drop]; omega)) only [vl, vls, vlo, vlc, getS_z, getS_s, wipeF, bindTg, setAll, List.set_cons_succ, List.set_cons_zero, Option.map_some, Option.bind_some, Option.map_none, Option.bind_none, blOf, intOf, nat_z, ↓reduceIte, if_true, Bool.false_eq_true, if_false, sub_tupI, sub_lstI, bi_sumL, bi_sumT, bi_allM, bi_anyM, bi_lenT, bi_lenL, bi_lenD, bi_lenS, bi_tupL, bi_tupT, bi_lstT, bi_lstL, bi_intI, bi_absI, bi_min2I, bi_max2I, bi_minL, bi_maxL, cutop_tup, cutop_lst, rev_iT, rev_iLs, op_addI, op_subI, op_mulIL, op_mulIR, op_fdivI, op_modI, op_addT, op_addLs, co_eqI, co_neI, co_ltI, co_leI, co_gtI, co_geI, co_isN, co_isntN, co_eqLs, co_neLs, co_eqTs, co_neTs, iter_lst, iter_tup, compG_range, compG_iL, compG_one, compG_if, compR_one, compR_if, compQ_one, compQ_if, compQ_nil, rgV_ok, rgV2_ok, zipV_T, zipV_L, iL_length, map_pvint, map_int0, Int.toNat_natCast, decide_eq_true_eq, zip_iL, compG_rangeMap, cut_to, cut_from, cut_mid, Option.some.injEq, exists_eq_left', Nx_rt, Tu_rt, min_cast, max_cast, max1_cast, toNat_1, toNat_1', toNat_a, toNat_s, toNat_m1, toNat_0, half_cast, co_eqT0, co_neT0, co_eqL0, co_neL0, List.length_cons, List.length_nil,Option.some.injEq, exists_eq_left', app_lst, aug_addI, aug_subI, iL_snoc, List.length_append, List.length_cons, List.length_nil, PV.tup.injEq, PV.bl.injEq, List.map_cons, List.map_nil, List.cons_append, List.nil_append, isMut, parChk, Bool.not_true, Bool.not_false, Bool.or_true, Bool.true_or, Bool.false_or, Bool.true_and, true_and])
    have e : nrwL come (k + 1) = nrwL come k ++ [mxL (List.map (fun (a : Nat) => (List.take (((a : Int) + (1 + (k : Int))).toNat - a) (List.drop a come)).sum) (List.range (max 1 come.length)))] := by
      rw [nrwL_s]
      unfold nrw
      congr 3
      apply List.map_congr_left
      intro a _
      congr 2
      omega
    exact w_nil ⟨_, _, _, by rw [e]⟩
  · rintro _ ⟨a, b, c, rfl⟩
    ((first | (refine w_asg ?_ ?_; exact rfl) | (refine w_asgM ?_ ?_; exact rfl) | (refine w_par ?_ ?_; exact rfl) | (refine w_unp ?_ ?_; exact rfl) | (refine w_aug ?_ ?_; exact rfl) | (refine w_app ?_ ?_; exact rfl) | (refine w_setix ?_ ?_ ?_; exact rfl; exact rfl) | (refine w_ret ?_ ?_; exact rfl) | refine w_retM ?_ | refine w_pass ?_ | refine w_cnt ?_ | refine w_brk ?_ | (refine w_if ?_ ?_; exact rfl) | refine w_nil ?_))
    (simp (config := { implicitDefEqProofs := false }) (disch := first | with_reducible assumption | omega | (simp only [iL_length, List.length_map, List.length_range, List.length_append, List.length_cons, List.length_nil, List.length_take, List.length_drop]; omega)) only [vl, vls, vlo, vlc, getS_z, getS_s, wipeF, bindTg, setAll, List.set_cons_succ, List.set_cons_zero, Option.map_some, Option.bind_some, Option.map_none, Option.bind_none, blOf, intOf, nat_z, ↓reduceIte, if_true, Bool.false_eq_true, if_false, sub_tupI, sub_lstI, bi_sumL, bi_sumT, bi_allM, bi_anyM, bi_lenT, bi_lenL, bi_lenD, bi_lenS, bi_tupL, bi_tupT, bi_lstT, bi_lstL, bi_intI, bi_absI, bi_min2I, bi_max2I, bi_minL, bi_maxL, cutop_tup, cutop_lst, rev_iT, rev_iLs, op_addI, op_subI, op_mulIL, op_mulIR, op_fdivI, op_modI, op_addT, op_addLs, co_eqI, co_neI, co_ltI, co_leI, co_gtI, co_geI, co_isN, co_isntN, co_eqLs, co_neLs, co_eqTs, co_neTs, iter_lst, iter_tup, compG_range, compG_iL, compG_one, compG_if, compR_one, compR_if, compQ_one, compQ_if, compQ_nil, rgV_ok, rgV2_ok, zipV_T, zipV_L, iL_length, map_pvint, map_int0, Int.toNat_natCast, decide_eq_true_eq, zip_iL, compG_rangeMap, cut_to, cut_from, cut_mid, Option.some.injEq, exists_eq_left', Nx_rt, Tu_rt, min_cast, max_cast, max1_cast, toNat_1, toNat_1', toNat_a, toNat_s, toNat_m1, toNat_0, half_cast, co_eqT0, co_neT0, co_eqL0, co_neL0, List.length_cons, List.length_nil])
end
end K34

set_option linter.all false
set_option Elab.async false
set_option maxRecDepth 10000
namespace K34
open EV
/-! ### pairs of numbers -/
def pr (p : Int × Int) : PV := .tup [.int p.1, .int p.2]
def plt (p q : Int × Int) : Bool := decide (p.1 < q.1 ∨ p.1 = q.1 ∧ p.2 < q.2)
theorem ltV_pr (p q : Int × Int) : ltV (pr p) (pr q) = plt p q := by
  obtain ⟨a, b⟩ := p
  obtain ⟨c, e⟩ := q
  simp only [pr, ltV, ltVL, pyEq, plt]
  by_cases h1 : a = c
  · subst h1
    by_cases h2 : b = e
    · subst h2; simp
    · simp [h2]
  · simp [h1]
theorem cmpOk_pr (l : List (Int × Int)) : cmpOk (l.map pr) = true := by
  have h1 : ∀ l : List (Int × Int), datOkL (l.map pr) = true := fun l => by
    induction l with
    | nil => rfl
    | cons p l ih => simp [datOkL, datOk, pr, ih]
  have h2 : ∀ l : List (Int × Int), depthL (l.map pr) ≤ 40 := fun l => by
    induction l with
    | nil => simp [depthL]
    | cons p l ih => simp only [List.map_cons, depthL, pr, depth]; omega
  unfold cmpOk
  simp only [Bool.and_eq_true, decide_eq_true_eq, h1, h2, List.all_eq_true, List.mem_map]
  refine ⟨⟨⟨?_, trivial⟩, trivial⟩, ?_⟩
  · rintro _ ⟨p, _, rfl⟩ _ ⟨q, _, rfl⟩
    simp [pr, alike, alikeL]
  · rintro _ ⟨p, _, rfl⟩
    simp [pr, isNon, isMut]
/-- the least -/
def mnP : List (Int × Int) → Int × Int
  | [] => (0, 0)
  | x :: xs => xs.foldl (fun m y => if plt y m then y else m) x
theorem foldl_pr (xs : List (Int × Int)) : ∀ x, (xs.map pr).foldl (fun m y => if ltV y m then y else m) (pr x) = pr (xs.foldl (fun m y => if plt y m then y else m) x) := by
  induction xs with
  | nil => intro x; rfl
  | cons y xs ih =>
    intro x
    rw [List.map_cons, List.foldl_cons, List.foldl_cons, ← ih, ltV_pr]
    congr 1
    split <;> rfl
theorem bi_minP {l : List (Int × Int)} (h : 0 < l.length) : biop .min [.lst (l.map pr)] = some (pr (mnP l)) := by
  simp only [biop, cmpOk_pr, if_true]
  cases l with
  | nil => simp at h
  | cons x xs => simp only [List.map_cons, minV, foldl_pr, mnP]
theorem foldl_le (xs : List (Int × Int)) : ∀ x, (xs.foldl (fun m y => if plt y m then y else m) x = x ∨ xs.foldl (fun m y => if plt y m then y else m) x ∈ xs) ∧ ∀ y ∈ x :: xs, plt y (xs.foldl (fun m y => if plt y m then y else m) x) = false := by
  induction xs with
  | nil =>
    intro x
    refine ⟨.inl rfl, fun y hy => ?_⟩
    have : y = x := by simpa using hy
    subst this
    simp [plt]
  | cons z xs ih =>
    intro x
    rw [List.foldl_cons]
    obtain ⟨h1, h2⟩ := ih (if plt z x then z else x)
    by_cases hz : plt z x = true
    · rw [if_pos hz] at h1 h2 ⊢
      refine ⟨.inr ?_, fun y hy => ?_⟩
      · rcases h1 with h1 | h1
        · rw [h1]; exact List.mem_cons_self
        · exact List.mem_cons_of_mem _ h1
      · rcases List.mem_cons.mp hy with hy | hy
        · subst hy
          have := h2 z List.mem_cons_self
          simp only [plt, decide_eq_true_eq, decide_eq_false_iff_not] at this hz ⊢
          omega
        · exact h2 y hy
    · rw [if_neg hz] at h1 h2 ⊢
      refine ⟨h1.imp id (List.mem_cons_of_mem _), fun y hy => ?_⟩
      rcases List.mem_cons.mp hy with hy | hy
      · exact h2 y (by rw [hy]; exact List.mem_cons_self)
      · rcases List.mem_cons.mp hy with hy | hy
        · subst hy
          have := h2 x List.mem_cons_self
          simp only [plt, decide_eq_true_eq, decide_eq_false_iff_not] at this hz ⊢
          omega
        · exact h2 y (List.mem_cons_of_mem _ hy)
theorem mnP_spec {l : List (Int × Int)} (h : 0 < l.length) : mnP l ∈ l ∧ ∀ y ∈ l, plt y (mnP l) = false := by
  cases l with
  | nil => simp at h
  | cons x xs =>
    obtain ⟨h1, h2⟩ := foldl_le xs x
    refine ⟨?_, h2⟩
    rcases h1 with h1 | h1
    · have e : mnP (x :: xs) = x := h1
      rw [e]; exact List.mem_cons_self
    · exact List.mem_cons_of_mem _ h1
theorem mnP_uniq {l : List (Int × Int)} {p : Int × Int} (h : p ∈ l) (hp : ∀ y ∈ l, plt y p = false) : mnP l = p := by
  have hl : 0 < l.length := List.length_pos_of_mem h
  obtain ⟨h1, h2⟩ := mnP_spec hl
  have a := hp _ h1
  have b := h2 _ h
  simp only [plt, decide_eq_false_iff_not] at a b
  apply Prod.ext <;> omega
/-! ### most_left -/
section
variable {one other : List Int} {d : Nat}
def gp (one other : List Int) (s : Nat) : Int := at' one s - at' other s
/-- the first greatest gap -/
def amx (one other : List Int) : Nat → Nat
  | 0 => 0
  | k + 1 => if gp one other (amx one other k) < gp one other (k + 1) then k + 1 else amx one other k
theorem amx_spec (one other : List Int) : ∀ k, amx one other k ≤ k ∧ (∀ i, i ≤ k → gp one other i ≤ gp one other (amx one other k)) ∧ ∀ i, i < amx one other k → gp one other i < gp one other (amx one other k)
  | 0 => ⟨by simp [amx], fun i hi => by have : i = 0 := by omega
                                        subst this; simp [amx], fun i hi => by simp [amx] at hi⟩
  | k + 1 => by
    obtain ⟨h1, h2, h3⟩ := amx_spec one other k
    unfold amx
    by_cases h : gp one other (amx one other k) < gp one other (k + 1)
    · rw [if_pos h]
      refine ⟨Nat.le_refl _, fun i hi => ?_, fun i hi => ?_⟩
      · by_cases e : i = k + 1
        · subst e; omega
        · have := h2 i (by omega); omega
      · have := h2 i (by omega); omega
    · rw [if_neg h]
      refine ⟨by omega, fun i hi => ?_, h3⟩
      by_cases e : i = k + 1
      · subst e; omega
      · exact h2 i (by omega)
theorem pairs_eq (n : Nat) : ((List.range n).map fun s => PV.tup [.int (at' other s - at' one s), .int (s : Int)]) = ((List.range n).map fun (s : Nat) => ((at' other s - at' one s, (s : Int)) : Int × Int)).map pr := by
  rw [List.map_map]; rfl
theorem mnP_gaps {n : Nat} (hn : 0 < n) : mnP ((List.range n).map fun (s : Nat) => ((at' other s - at' one s, (s : Int)) : Int × Int)) = (- gp one other (amx one other (n - 1)), ((amx one other (n - 1) : Nat) : Int)) := by
  obtain ⟨h1, h2, h3⟩ := amx_spec one other (n - 1)
  refine mnP_uniq (List.mem_map.mpr ⟨amx one other (n - 1), List.mem_range.mpr (by omega), ?_⟩) fun y hy => ?_
  · simp only [gp]; congr 1; omega
  · obtain ⟨s, hs, rfl⟩ := List.mem_map.mp hy
    have hs := List.mem_range.mp hs
    have a := h2 s (by omega)
    simp only [plt, decide_eq_false_iff_not]
    rintro (z | ⟨z1, z2⟩)
    · simp only [gp] at a z; omega
    · have b := h3 s (by omega)
      simp only [gp] at b z1; omega
theorem ok6 (h1 : one.length ≤ 1000) (h2 : other.length ≤ 1000) (h3 : 0 < one.length) (h4 : 0 < other.length) : evCall P (d + 1) 6 [.tup (iL one), .tup (iL other)] =
    some (.tup [.int (max 0 (gp one other (amx one other (min one.length other.length - 1)))), .int ((amx one other (min one.length other.length - 1) : Nat) : Int)], []) := by
  refine call_w (F := f_most_left) rfl rfl rfl ?_
  generalize evCall P d = C at *
  show W C b_most_left [some (.tup (iL one)), some (.tup (iL other)), none, none] _
  unfold b_most_left
  have hn : 0 < min one.length other.length := by omega
  have hb : biop .min [.lst ((List.range (min one.length other.length)).map fun s => PV.tup [.int (at' other s - at' one s), .int (s : Int)])] = some (pr (- gp one other (amx one other (min one.length other.length - 1)), ((amx one other (min one.length other.length - 1) : Nat) : Int))) := by
    rw [pairs_eq, bi_minP (by simp; omega), mnP_gaps hn]
  have s0 : ∀ a b : Int, subop (.tup [.int a, .int b]) (.int 0) = some (.int a) := fun _ _ => rfl
  have s1 : ∀ a b : Int, subop (.tup [.int a, .int b]) (.int 1) = some (.int b) := fun _ _ => rfl
  ((first | (refine w_asg ?_ ?_; exact rfl) | (refine w_asgM ?_ ?_; exact rfl) | (refine w_par ?_ ?_; exact rfl) | (refine w_unp ?_ ?_; exact rfl) | (refine w_aug ?_ ?_; exact rfl) | (refine w_app ?_ ?_; exact rfl) | (refine w_setix ?_ ?_ ?_; exact rfl; exact rfl) | (refine w_ret ?_ ?_; exact rfl) | refine w_retM ?_ | refine w_pass ?_ | refine w_cnt ?_ | refine w_brk ?_ | (refine w_if ?_ ?_; exact rfl) | refine w_nil ?_))
  (simp (config := { implicitDefEqProofs := false }) (disch := first | with_reducible assumption | omega | (simp only [iL_length, List.length_map, List.length_range, List.length_append, List.length_cons, List.length_nil, List.length_take, List.length_drop]; omega)) only [vl, vls, vlo, vlc, getS_z, getS_s, wipeF, bindTg, setAll, List.set_cons_succ, List.set_cons_zero, Option.map_some, Option.bind_some, Option.map_none, Option.bind_none, blOf, intOf, nat_z, ↓reduceIte, if_true, Bool.false_eq_true, if_false, sub_tupI, sub_lstI, bi_sumL, bi_sumT, bi_allM, bi_anyM, bi_lenT, bi_lenL, bi_lenD, bi_lenS, bi_tupL, bi_tupT, bi_lstT, bi_lstL, bi_intI, bi_absI, bi_min2I, bi_max2I, bi_minL, bi_maxL, cutop_tup, cutop_lst, rev_iT, rev_iLs, op_addI, op_subI, op_mulIL, op_mulIR, op_fdivI, op_modI, op_addT, op_addLs, co_eqI, co_neI, co_ltI, co_leI, co_gtI, co_geI, co_isN, co_isntN, co_eqLs, co_neLs, co_eqTs, co_neTs, iter_lst, iter_tup, compG_range, compG_iL, compG_one, compG_if, compR_one, compR_if, compQ_one, compQ_if, compQ_nil, rgV_ok, rgV2_ok, zipV_T, zipV_L, iL_length, map_pvint, map_int0, Int.toNat_natCast, decide_eq_true_eq, zip_iL, compG_rangeMap, cut_to, cut_from, cut_mid, Option.some.injEq, exists_eq_left', Nx_rt, Tu_rt, min_cast, max_cast, max1_cast, toNat_1, toNat_1', toNat_a, toNat_s, toNat_m1, toNat_0, half_cast, co_eqT0, co_neT0, co_eqL0, co_neL0, List.length_cons, List.length_nil])
  ((first | (refine w_asg ?_ ?_; exact rfl) | (refine w_asgM ?_ ?_; exact rfl) | (refine w_par ?_ ?_; exact rfl) | (refine w_unp ?_ ?_; exact rfl) | (refine w_aug ?_ ?_; exact rfl) | (refine w_app ?_ ?_; exact rfl) | (refine w_setix ?_ ?_ ?_; exact rfl; exact rfl) | (refine w_ret ?_ ?_; exact rfl) | refine w_retM ?_ | refine w_pass ?_ | refine w_cnt ?_ | refine w_brk ?_ | (refine w_if ?_ ?_; exact rfl) | refine w_nil ?_))
  (simp (config := { implicitDefEqProofs := false }) (disch := first | with_reducible assumption | omega | (simp only [iL_length, List.length_map, List.length_range, List.length_append, List.length_cons, List.length_nil, List.length_take, List.length_drop]; omega)) only [vl, vls, vlo, vlc, getS_z, getS_s, wipeF, bindTg, setAll, List.set_cons_succ, List.set_cons_zero, Option.map_some, Option.bind_some, Option.map_none, Option.bind_none, blOf, intOf, nat_z, ↓reduceIte, if_true, Bool.false_eq_true, if_false, sub_tupI, sub_lstI, bi_sumL, bi_sumT, bi_allM, bi_anyM, bi_lenT, bi_lenL, bi_lenD, bi_lenS, bi_tupL, bi_tupT, bi_lstT, bi_lstL, bi_intI, bi_absI, bi_min2I, bi_max2I, bi_minL, bi_maxL, cutop_tup, cutop_lst, rev_iT, rev_iLs, op_addI, op_subI, op_mulIL, op_mulIR, op_fdivI, op_modI, op_addT, op_addLs, co_eqI, co_neI, co_ltI, co_leI, co_gtI, co_geI, co_isN, co_isntN, co_eqLs, co_neLs, co_eqTs, co_neTs, iter_lst, iter_tup, compG_range, compG_iL, compG_one, compG_if, compR_one, compR_if, compQ_one, compQ_if, compQ_nil, rgV_ok, rgV2_ok, zipV_T, zipV_L, iL_length, map_pvint, map_int0, Int.toNat_natCast, decide_eq_true_eq, zip_iL, compG_rangeMap, cut_to, cut_from, cut_mid, Option.some.injEq, exists_eq_left', Nx_rt, Tu_rt, min_cast, max_cast, max1_cast, toNat_1, toNat_1', toNat_a, toNat_s, toNat_m1, toNat_0, half_cast, co_eqT0, co_neT0, co_eqL0, co_neL0, List.length_cons, List.length_nil,hb, pr, s0, s1, Int.neg_neg])
/-! ### longest_wait -/
def fl (one other : List Int) (s : Nat) : List Nat := (List.range (other.length - s)).filter fun l => decide (at' one s ≤ at' other (s + l))
def hd' (one other : List Int) (s : Nat) : Int := at' ((fl one other s).map fun (l : Nat) => (l : Int)) 0
def bst (one other : List Int) : Nat → Int
  | 0 => 0
  | k + 1 => max (bst one other k) (hd' one other k)
theorem ok7 (h1 : one.length ≤ 1000) (h2 : other.length ≤ 1000) : ∃ v, evCall P (d + 1) 7 [.tup (iL one), .tup (iL other)] = some (v, []) ∧
    ((v = .non ∧ ∃ s, s < one.length ∧ fl one other s = []) ∨ (v = .int (bst one other one.length) ∧ ∀ s, s < one.length → fl one other s ≠ [])) := by
  refine call_wE (F := f_longest_wait) rfl rfl rfl ?_
  generalize evCall P d = C at *
  show W C b_longest_wait [some (.tup (iL one)), some (.tup (iL other)), none, none, none, none] _
  unfold b_longest_wait
  ((first | (refine w_asg ?_ ?_; exact rfl) | (refine w_asgM ?_ ?_; exact rfl) | (refine w_par ?_ ?_; exact rfl) | (refine w_unp ?_ ?_; exact rfl) | (refine w_aug ?_ ?_; exact rfl) | (refine w_app ?_ ?_; exact rfl) | (refine w_setix ?_ ?_ ?_; exact rfl; exact rfl) | (refine w_ret ?_ ?_; exact rfl) | refine w_retM ?_ | refine w_pass ?_ | refine w_cnt ?_ | refine w_brk ?_ | (refine w_if ?_ ?_; exact rfl) | refine w_nil ?_))
  (simp (config := { implicitDefEqProofs := false }) (disch := first | with_reducible assumption | omega | (simp only [iL_length, List.length_map, List.length_range, List.length_append, List.length_cons, List.length_nil, List.length_take, List.length_drop]; omega)) only [vl, vls, vlo, vlc, getS_z, getS_s, wipeF, bindTg, setAll, List.set_cons_succ, List.set_cons_zero, Option.map_some, Option.bind_some, Option.map_none, Option.bind_none, blOf, intOf, nat_z, ↓reduceIte, if_true, Bool.false_eq_true, if_false, sub_tupI, sub_lstI, bi_sumL, bi_sumT, bi_allM, bi_anyM, bi_lenT, bi_lenL, bi_lenD, bi_lenS, bi_tupL, bi_tupT, bi_lstT, bi_lstL, bi_intI, bi_absI, bi_min2I, bi_max2I, bi_minL, bi_maxL, cutop_tup, cutop_lst, rev_iT, rev_iLs, op_addI, op_subI, op_mulIL, op_mulIR, op_fdivI, op_modI, op_addT, op_addLs, co_eqI, co_neI, co_ltI, co_leI, co_gtI, co_geI, co_isN, co_isntN, co_eqLs, co_neLs, co_eqTs, co_neTs, iter_lst, iter_tup, compG_range, compG_iL, compG_one, compG_if, compR_one, compR_if, compQ_one, compQ_if, compQ_nil, rgV_ok, rgV2_ok, zipV_T, zipV_L, iL_length, map_pvint, map_int0, Int.toNat_natCast, decide_eq_true_eq, zip_iL, compG_rangeMap, cut_to, cut_from, cut_mid, Option.some.injEq, exists_eq_left', Nx_rt, Tu_rt, min_cast, max_cast, max1_cast, toNat_1, toNat_1', toNat_a, toNat_s, toNat_m1, toNat_0, half_cast, co_eqT0, co_neT0, co_eqL0, co_neL0, List.length_cons, List.length_nil])
  refine w_rg (I := fun k fr => (∀ s, s < k → fl one other s ≠ []) ∧ ∃ a b c, fr = [some (.tup (iL one)), some (.tup (iL other)), some (.int (bst one other k)), a, b, c]) one.length rfl (by (simp (config := { implicitDefEqProofs := false }) (disch := first | with_reducible assumption | omega | (simp only [iL_length, List.length_map, List.length_range, List.length_append, List.length_cons, List.length_nil, List.length_take, List.length_drop]; omega)) only [vl, vls, vlo, vlc, getS_z, getS_s, wipeF, bindTg, setAll, List.set_cons_succ, List.set_cons_zero, Option.map_some, Option.bind_some, Option.map_none, Option.bind_none, blOf, intOf, nat_z, ↓reduceIte, if_true, Bool.false_eq_true, if_false, sub_tupI, sub_lstI, bi_sumL, bi_sumT, bi_allM, bi_anyM, bi_lenT, bi_lenL, bi_lenD, bi_lenS, bi_tupL, bi_tupT, bi_lstT, bi_lstL, bi_intI, bi_absI, bi_min2I, bi_max2I, bi_minL, bi_maxL, cutop_tup, cutop_lst, rev_iT, rev_iLs, op_addI, op_subI, op_mulIL, op_mulIR, op_fdivI, op_modI, op_addT, op_addLs, co_eqI, co_neI, co_ltI, co_leI, co_gtI, co_geI, co_isN, co_isntN, co_eqLs, co_neLs, co_eqTs, co_neTs, iter_lst, iter_tup, compG_range, compG_iL, compG_one, compG_if, compR_one, compR_if, compQ_one, compQ_if, compQ_nil, rgV_ok, rgV2_ok, zipV_T, zipV_L, iL_length, map_pvint, map_int0, Int.toNat_natCast, decide_eq_true_eq, zip_iL, compG_rangeMap, cut_to, cut_from, cut_mid, Option.some.injEq, exists_eq_left', Nx_rt, Tu_rt, min_cast, max_cast, max1_cast, toNat_1, toNat_1', toNat_a, toNat_s, toNat_m1, toNat_0, half_cast, co_eqT0, co_neT0, co_eqL0, co_neL0, List.length_cons, List.length_nil])) ⟨fun s hs => by omega, none, none, none, rfl⟩ ?_ ?_
  · rintro k _ hk ⟨hne, a, b, c, rfl⟩
    refine ⟨_, rfl, ?_⟩
    have ef : (List.map (fun (a : Nat) => (a : Int)) (List.filter (fun a => decide (at' one k ≤ at' other (k + a))) (List.range (other.length - k)))) = (fl one other k).map fun (l : Nat) => (l : Int) := rfl
    ((first | (refine w_asg ?_ ?_; exact rfl) | (refine w_asgM ?_ ?_; exact rfl) | (refine w_par ?_ ?_; exact rfl) | (refine w_unp ?_ ?_; exact rfl) | (refine w_aug ?_ ?_; exact rfl) | (refine w_app ?_ ?_; exact rfl) | (refine w_setix ?_ ?_ ?_; exact rfl; exact rfl) | (refine w_ret ?_ ?_; exact rfl) | refine w_retM ?_ | refine w_pass ?_ | refine w_cnt ?_ | refine w_brk ?_ | (refine w_if ?_ ?_; exact rfl) | refine w_nil ?_))
    (simp (config := { implicitDefEqProofs := false }) (disch := first | with_reducible assumption | omega | (simp only [iL_length, List.length_map, List.length_range, List.length_append, List.length_cons, List.length_nil, List.length_take, List.length_drop]; omega)) only [vl, vls, vlo, vlc, getS_z, getS_s, wipeF, bindTg, setAll, List.set_cons_succ, List.set_cons_zero, Option.map_some, Option.bind_some, Option.map_none, Option.bind_none, blOf, intOf, nat_z, ↓reduceIte, if_true, Bool.false_eq_true, if_false, sub_tupI, sub_lstI, bi_sumL, bi_sumT, bi_allM, bi_anyM, bi_lenT, bi_lenL, bi_lenD, bi_lenS, bi_tupL, bi_tupT, bi_lstT, bi_lstL, bi_intI, bi_absI, bi_min2I, bi_max2I, bi_minL, bi_maxL, cutop_tup, cutop_lst, rev_iT, rev_iLs, op_addI, op_subI, op_mulIL, op_mulIR, op_fdivI, op_modI, op_addT, op_addLs, co_eqI, co_neI, co_ltI, co_leI, co_gtI, co_geI, co_isN, co_isntN, co_eqLs, co_neLs, co_eqTs, co_neTs, iter_lst, iter_tup, compG_range, compG_iL, compG_one, compG_if, compR_one, compR_if, compQ_one, compQ_if, compQ_nil, rgV_ok, rgV2_ok, zipV_T, zipV_L, iL_length, map_pvint, map_int0, Int.toNat_natCast, decide_eq_true_eq, zip_iL, compG_rangeMap, cut_to, cut_from, cut_mid, Option.some.injEq, exists_eq_left', Nx_rt, Tu_rt, min_cast, max_cast, max1_cast, toNat_1, toNat_1', toNat_a, toNat_s, toNat_m1, toNat_0, half_cast, co_eqT0, co_neT0, co_eqL0, co_neL0, List.length_cons, List.length_nil])
    rw [ef]
    by_cases hf : fl one other k = []
    · rw [hf]
      ((first | (refine w_asg ?_ ?_; exact rfl) | (refine w_asgM ?_ ?_; exact rfl) | (refine w_par ?_ ?_; exact rfl) | (refine w_unp ?_ ?_; exact rfl) | (refine w_aug ?_ ?_; exact rfl) | (refine w_app ?_ ?_; exact rfl) | (refine w_setix ?_ ?_ ?_; exact rfl; exact rfl) | (refine w_ret ?_ ?_; exact rfl) | refine w_retM ?_ | refine w_pass ?_ | refine w_cnt ?_ | refine w_brk ?_ | (refine w_if ?_ ?_; exact rfl) | refine w_nil ?_))
      (simp (config := { implicitDefEqProofs := false }) (disch := first | with_reducible assumption | omega | (simp only [iL_length, List.length_map, List.length_range, List.length_append, List.length_cons, List.length_nil, List.length_take, List.length_drop]; omega)) only [vl, vls, vlo, vlc, getS_z, getS_s, wipeF, bindTg, setAll, List.set_cons_succ, List.set_cons_zero, Option.map_some, Option.bind_some, Option.map_none, Option.bind_none, blOf, intOf, nat_z, ↓reduceIte, if_true, Bool.false_eq_true, if_false, sub_tupI, sub_lstI, bi_sumL, bi_sumT, bi_allM, bi_anyM, bi_lenT, bi_lenL, bi_lenD, bi_lenS, bi_tupL, bi_tupT, bi_lstT, bi_lstL, bi_intI, bi_absI, bi_min2I, bi_max2I, bi_minL, bi_maxL, cutop_tup, cutop_lst, rev_iT, rev_iLs, op_addI, op_subI, op_mulIL, op_mulIR, op_fdivI, op_modI, op_addT, op_addLs, co_eqI, co_neI, co_ltI, co_leI, co_gtI, co_geI, co_isN, co_isntN, co_eqLs, co_neLs, co_eqTs, co_neTs, iter_lst, iter_tup, compG_range, compG_iL, compG_one, compG_if, compR_one, compR_if, compQ_one, compQ_if, compQ_nil, rgV_ok, rgV2_ok, zipV_T, zipV_L, iL_length, map_pvint, map_int0, Int.toNat_natCast, decide_eq_true_eq, zip_iL, compG_rangeMap, cut_to, cut_from, cut_mid, Option.some.injEq, exists_eq_left', Nx_rt, Tu_rt, min_cast, max_cast, max1_cast, toNat_1, toNat_1', toNat_a, toNat_s, toNat_m1, toNat_0, half_cast, co_eqT0, co_neT0, co_eqL0, co_neL0, List.length_cons, List.length_nil,List.map_nil, iL_nil])
      refine ⟨true, by rfl, fun _ => ?_, fun z => by cases z⟩
      ((first | (refine w_asg ?_ ?_; exact rfl) | (refine w_asgM ?_ ?_; exact rfl) | (refine w_par ?_ ?_; exact rfl) | (refine w_unp ?_ ?_; exact rfl) | (refine w_aug ?_ ?_; exact rfl) | (refine w_app ?_ ?_; exact rfl) | (refine w_setix ?_ ?_ ?_; exact rfl; exact rfl) | (refine w_ret ?_ ?_; exact rfl) | refine w_retM ?_ | refine w_pass ?_ | refine w_cnt ?_ | refine w_brk ?_ | (refine w_if ?_ ?_; exact rfl) | refine w_nil ?_))
      (simp (config := { implicitDefEqProofs := false }) (disch := first | with_reducible assumption | omega | (simp only [iL_length, List.length_map, List.length_range, List.length_append, List.length_cons, List.length_nil, List.length_take, List.length_drop]; omega)) only [vl, vls, vlo, vlc, getS_z, getS_s, wipeF, bindTg, setAll, List.set_cons_succ, List.set_cons_zero, Option.map_some, Option.bind_some, Option.map_none, Option.bind_none, blOf, intOf, nat_z, ↓reduceIte, if_true, Bool.false_eq_true, if_false, sub_tupI, sub_lstI, bi_sumL, bi_sumT, bi_allM, bi_anyM, bi_lenT, bi_lenL, bi_lenD, bi_lenS, bi_tupL, bi_tupT, bi_lstT, bi_lstL, bi_intI, bi_absI, bi_min2I, bi_max2I, bi_minL, bi_maxL, cutop_tup, cutop_lst, rev_iT, rev_iLs, op_addI, op_subI, op_mulIL, op_mulIR, op_fdivI, op_modI, op_addT, op_addLs, co_eqI, co_neI, co_ltI, co_leI, co_gtI, co_geI, co_isN, co_isntN, co_eqLs, co_neLs, co_eqTs, co_neTs, iter_lst, iter_tup, compG_range, compG_iL, compG_one, compG_if, compR_one, compR_if, compQ_one, compQ_if, compQ_nil, rgV_ok, rgV2_ok, zipV_T, zipV_L, iL_length, map_pvint, map_int0, Int.toNat_natCast, decide_eq_true_eq, zip_iL, compG_rangeMap, cut_to, cut_from, cut_mid, Option.some.injEq, exists_eq_left', Nx_rt, Tu_rt, min_cast, max_cast, max1_cast, toNat_1, toNat_1', toNat_a, toNat_s, toNat_m1, toNat_0, half_cast, co_eqT0, co_neT0, co_eqL0, co_neL0, List.length_cons, List.length_nil])
      exact ⟨_, rfl, .inl ⟨rfl, k, hk, hf⟩⟩
    · have hne' : ¬ ((fl one other k).map fun (l : Nat) => (l : Int)) = [] := by simpa using hf
      have hlen : 0 < ((fl one other k).map fun (l : Nat) => (l : Int)).length := List.length_pos_iff.mpr hne'
      have e0 : at' ((fl one other k).map fun (l : Nat) => (l : Int)) 0 = hd' one other k := rfl
      generalize ((fl one other k).map fun (l : Nat) => (l : Int)) = ab at hne' hlen e0
      ((first | (refine w_asg ?_ ?_; exact rfl) | (refine w_asgM ?_ ?_; exact rfl) | (refine w_par ?_ ?_; exact rfl) | (refine w_unp ?_ ?_; exact rfl) | (refine w_aug ?_ ?_; exact rfl) | (refine w_app ?_ ?_; exact rfl) | (refine w_setix ?_ ?_ ?_; exact rfl; exact rfl) | (refine w_ret ?_ ?_; exact rfl) | refine w_retM ?_ | refine w_pass ?_ | refine w_cnt ?_ | refine w_brk ?_ | (refine w_if ?_ ?_; exact rfl) | refine w_nil ?_))
      (simp (config := { implicitDefEqProofs := false }) (disch := first | with_reducible assumption | omega | (simp only [iL_length, List.length_map, List.length_range, List.length_append, List.length_cons, List.length_nil, List.length_take, List.length_drop]; omega)) only [vl, vls, vlo, vlc, getS_z, getS_s, wipeF, bindTg, setAll, List.set_cons_succ, List.set_cons_zero, Option.map_some, Option.bind_some, Option.map_none, Option.bind_none, blOf, intOf, nat_z, ↓reduceIte, if_true, Bool.false_eq_true, if_false, sub_tupI, sub_lstI, bi_sumL, bi_sumT, bi_allM, bi_anyM, bi_lenT, bi_lenL, bi_lenD, bi_lenS, bi_tupL, bi_tupT, bi_lstT, bi_lstL, bi_intI, bi_absI, bi_min2I, bi_max2I, bi_minL, bi_maxL, cutop_tup, cutop_lst, rev_iT, rev_iLs, op_addI, op_subI, op_mulIL, op_mulIR, op_fdivI, op_modI, op_addT, op_addLs, co_eqI, co_neI, co_ltI, co_leI, co_gtI, co_geI, co_isN, co_isntN, co_eqLs, co_neLs, co_eqTs, co_neTs, iter_lst, iter_tup, compG_range, compG_iL, compG_one, compG_if, compR_one, compR_if, compQ_one, compQ_if, compQ_nil, rgV_ok, rgV2_ok, zipV_T, zipV_L, iL_length, map_pvint, map_int0, Int.toNat_natCast, decide_eq_true_eq, zip_iL, compG_rangeMap, cut_to, cut_from, cut_mid, Option.some.injEq, exists_eq_left', Nx_rt, Tu_rt, min_cast, max_cast, max1_cast, toNat_1, toNat_1', toNat_a, toNat_s, toNat_m1, toNat_0, half_cast, co_eqT0, co_neT0, co_eqL0, co_neL0, List.length_cons, List.length_nil,hne', decide_false, PV.bl.injEq])
      refine ⟨fun z => (by cases z), fun _ => ?_⟩
      refine w_nil ?_
      unfold Nx
      ((first | (refine w_asg ?_ ?_; exact rfl) | (refine w_asgM ?_ ?_; exact rfl) | (refine w_par ?_ ?_; exact rfl) | (refine w_unp ?_ ?_; exact rfl) | (refine w_aug ?_ ?_; exact rfl) | (refine w_app ?_ ?_; exact rfl) | (refine w_setix ?_ ?_ ?_; exact rfl; exact rfl) | (refine w_ret ?_ ?_; exact rfl) | refine w_retM ?_ | refine w_pass ?_ | refine w_cnt ?_ | refine w_brk ?_ | (refine w_if ?_ ?_; exact rfl) | refine w_nil ?_))
      (simp (config := { implicitDefEqProofs := false }) (disch := first | with_reducible assumption | omega | (simp only [iL_length, List.length_map, List.length_range, List.length_append, List.length_cons, List.length_nil, List.length_take, List.length_drop]; omega)) only [vl, vls, vlo, vlc, getS_z, getS_s, wipeF, bindTg, setAll, List.set_cons_succ, List.set_cons_zero, Option.map_some, Option.bind_some, Option.map_none, Option.bind_none, blOf, intOf, nat_z, ↓reduceIte, if_true, Bool.false_eq_true, if_false, sub_tupI, sub_lstI, bi_sumL, bi_sumT, bi_allM, bi_anyM, bi_lenT, bi_lenL, bi_lenD, bi_lenS, bi_tupL, bi_tupT, bi_lstT, bi_lstL, bi_intI, bi_absI, bi_min2I, bi_max2I, bi_minL, bi_maxL, cutop_tup, cutop_lst, rev_iT, rev_iLs, op_addI, op_subI, op_mulIL, op_mulIR, op_fdivI, op_modI, op_addT, op_addLs, co_eqI, co_neI, co_ltI, co_leI, co_gtI, co_geI, co_isN, co_isntN, co_eqLs, co_neLs, co_eqTs, co_neTs, iter_lst, iter_tup, compG_range, compG_iL, compG_one, compG_if, compR_one, compR_if, compQ_one, compQ_if, compQ_nil, rgV_ok, rgV2_ok, zipV_T, zipV_L, iL_length, map_pvint, map_int0, Int.toNat_natCast, decide_eq_true_eq, zip_iL, compG_rangeMap, cut_to, cut_from, cut_mid, Option.some.injEq, exists_eq_left', Nx_rt, Tu_rt, min_cast, max_cast, max1_cast, toNat_1, toNat_1', toNat_a, toNat_s, toNat_m1, toNat_0, half_cast, co_eqT0, co_neT0, co_eqL0, co_neL0, List.length_cons, List.length_nil])
      refine w_nil ⟨fun s hs => ?_, _, _, _, by rw [e0]; rfl⟩
      by_cases e : s = k
      · subst e; exact hf
      · exact hne s (by omega)
  · rintro _ ⟨hne, a, b, c, rfl⟩
    ((first | (refine w_asg ?_ ?_; exact rfl) | (refine w_asgM ?_ ?_; exact rfl) | (refine w_par ?_ ?_; exact rfl) | (refine w_unp ?_ ?_; exact rfl) | (refine w_aug ?_ ?_; exact rfl) | (refine w_app ?_ ?_; exact rfl) | (refine w_setix ?_ ?_ ?_; exact rfl; exact rfl) | (refine w_ret ?_ ?_; exact rfl) | refine w_retM ?_ | refine w_pass ?_ | refine w_cnt ?_ | refine w_brk ?_ | (refine w_if ?_ ?_; exact rfl) | refine w_nil ?_))
    (simp (config := { implicitDefEqProofs := false }) (disch := first | with_reducible assumption | omega | (simp only [iL_length, List.length_map, List.length_range, List.length_append, List.length_cons, List.length_nil, List.length_take, List.length_drop]; omega)) only [vl, vls, vlo, vlc, getS_z, getS_s, wipeF, bindTg, setAll, List.set_cons_succ, List.set_cons_zero, Option.map_some, Option.bind_some, Option.map_none, Option.bind_none, blOf, intOf, nat_z, ↓reduceIte, if_true, Bool.false_eq_true, if_false, sub_tupI, sub_lstI, bi_sumL, bi_sumT, bi_allM, bi_anyM, bi_lenT, bi_lenL, bi_lenD, bi_lenS, bi_tupL, bi_tupT, bi_lstT, bi_lstL, bi_intI, bi_absI, bi_min2I, bi_max2I, bi_minL, bi_maxL, cutop_tup, cutop_lst, rev_iT, rev_iLs, op_addI, op_subI, op_mulIL, op_mulIR, op_fdivI, op_modI, op_addT, op_addLs, co_eqI, co_neI, co_ltI, co_leI, co_gtI, co_geI, co_isN, co_isntN, co_eqLs, co_neLs, co_eqTs, co_neTs, iter_lst, iter_tup, compG_range, compG_iL, compG_one, compG_if, compR_one, compR_if, compQ_one, compQ_if, compQ_nil, rgV_ok, rgV2_ok, zipV_T, zipV_L, iL_length, map_pvint, map_int0, Int.toNat_natCast, decide_eq_true_eq, zip_iL, compG_rangeMap, cut_to, cut_from, cut_mid, Option.some.injEq, exists_eq_left', Nx_rt, Tu_rt, min_cast, max_cast, max1_cast, toNat_1, toNat_1', toNat_a, toNat_s, toNat_m1, toNat_0, half_cast, co_eqT0, co_neT0, co_eqL0, co_neL0, List.length_cons, List.length_nil])
    exact ⟨_, rfl, .inr ⟨rfl, hne⟩⟩
/-! ### is_within -/
def bad (come one : List Int) (b e : Nat) : Prop := at' one (e - b) < ((come.drop b).take (e - b)).sum
def fit (come one : List Int) (b e : Nat) : Prop := b < e ∧ e ≤ come.length ∧ e - b < one.length
theorem ok12 {come one : List Int} (h1 : come.length ≤ 1000) (h2 : one.length ≤ 1000) (h3 : 0 < one.length) : ∃ v, evCall P (d + 1) 12 [.tup (iL come), .tup (iL one)] = some (v, []) ∧
    ((v = .non ∧ ∀ b e, fit come one b e → ¬ bad come one b e) ∨ (∃ b e : Nat, v = .tup [.int b, .int e] ∧ fit come one b e ∧ bad come one b e ∧ ∀ b' e', fit come one b' e' → bad come one b' e' → b < b' ∨ b = b' ∧ e ≤ e')) := by
  refine call_wE (F := f_is_within) rfl rfl rfl ?_
  generalize evCall P d = C at *
  show W C b_is_within [some (.tup (iL come)), some (.tup (iL one)), none, none] _
  unfold b_is_within
  refine w_rg (I := fun k fr => (∀ b e, b < k → fit come one b e → ¬ bad come one b e) ∧ ∃ a c, fr = [some (.tup (iL come)), some (.tup (iL one)), a, c]) come.length rfl (by (simp (config := { implicitDefEqProofs := false }) (disch := first | with_reducible assumption | omega | (simp only [iL_length, List.length_map, List.length_range, List.length_append, List.length_cons, List.length_nil, List.length_take, List.length_drop]; omega)) only [vl, vls, vlo, vlc, getS_z, getS_s, wipeF, bindTg, setAll, List.set_cons_succ, List.set_cons_zero, Option.map_some, Option.bind_some, Option.map_none, Option.bind_none, blOf, intOf, nat_z, ↓reduceIte, if_true, Bool.false_eq_true, if_false, sub_tupI, sub_lstI, bi_sumL, bi_sumT, bi_allM, bi_anyM, bi_lenT, bi_lenL, bi_lenD, bi_lenS, bi_tupL, bi_tupT, bi_lstT, bi_lstL, bi_intI, bi_absI, bi_min2I, bi_max2I, bi_minL, bi_maxL, cutop_tup, cutop_lst, rev_iT, rev_iLs, op_addI, op_subI, op_mulIL, op_mulIR, op_fdivI, op_modI, op_addT, op_addLs, co_eqI, co_neI, co_ltI, co_leI, co_gtI, co_geI, co_isN, co_isntN, co_eqLs, co_neLs, co_eqTs, co_neTs, iter_lst, iter_tup, compG_range, compG_iL, compG_one, compG_if, compR_one, compR_if, compQ_one, compQ_if, compQ_nil, rgV_ok, rgV2_ok, zipV_T, zipV_L, iL_length, map_pvint, map_int0, Int.toNat_natCast, decide_eq_true_eq, zip_iL, compG_rangeMap, cut_to, cut_from, cut_mid, Option.some.injEq, exists_eq_left', Nx_rt, Tu_rt, min_cast, max_cast, max1_cast, toNat_1, toNat_1', toNat_a, toNat_s, toNat_m1, toNat_0, half_cast, co_eqT0, co_neT0, co_eqL0, co_neL0, List.length_cons, List.length_nil])) ⟨fun b e hb => by omega, none, none, rfl⟩ ?_ ?_
  · rintro k _ hk ⟨hne, a, c, rfl⟩
    refine ⟨_, rfl, ?_⟩
    refine w_rg2 (I := fun q fr => (∀ e, e < k + 1 + q → fit come one k e → ¬ bad come one k e) ∧ ∃ c, fr = [some (.tup (iL come)), some (.tup (iL one)), some (.int k), c]) ((k : Int) + 1) (min come.length (k + one.length - 1) + 1 - (k + 1)) rfl (by (simp (config := { implicitDefEqProofs := false }) (disch := first | with_reducible assumption | omega | (simp only [iL_length, List.length_map, List.length_range, List.length_append, List.length_cons, List.length_nil, List.length_take, List.length_drop]; omega)) only [vl, vls, vlo, vlc, getS_z, getS_s, wipeF, bindTg, setAll, List.set_cons_succ, List.set_cons_zero, Option.map_some, Option.bind_some, Option.map_none, Option.bind_none, blOf, intOf, nat_z, ↓reduceIte, if_true, Bool.false_eq_true, if_false, sub_tupI, sub_lstI, bi_sumL, bi_sumT, bi_allM, bi_anyM, bi_lenT, bi_lenL, bi_lenD, bi_lenS, bi_tupL, bi_tupT, bi_lstT, bi_lstL, bi_intI, bi_absI, bi_min2I, bi_max2I, bi_minL, bi_maxL, cutop_tup, cutop_lst, rev_iT, rev_iLs, op_addI, op_subI, op_mulIL, op_mulIR, op_fdivI, op_modI, op_addT, op_addLs, co_eqI, co_neI, co_ltI, co_leI, co_gtI, co_geI, co_isN, co_isntN, co_eqLs, co_neLs, co_eqTs, co_neTs, iter_lst, iter_tup, compG_range, compG_iL, compG_one, compG_if, compR_one, compR_if, compQ_one, compQ_if, compQ_nil, rgV_ok, rgV2_ok, zipV_T, zipV_L, iL_length, map_pvint, map_int0, Int.toNat_natCast, decide_eq_true_eq, zip_iL, compG_rangeMap, cut_to, cut_from, cut_mid, Option.some.injEq, exists_eq_left', Nx_rt, Tu_rt, min_cast, max_cast, max1_cast, toNat_1, toNat_1', toNat_a, toNat_s, toNat_m1, toNat_0, half_cast, co_eqT0, co_neT0, co_eqL0, co_neL0, List.length_cons, List.length_nil]); congr 3; omega) ⟨fun e he hf => by have := hf.1; omega, _, rfl⟩ ?_ ?_
    · rintro q _ hq ⟨hne2, c, rfl⟩
      refine ⟨_, rfl, ?_⟩
      have e1 : ((k : Int) + 1 + (q : Int)).toNat = k + 1 + q := by omega
      have e2 : ((k : Int) + 1 + (q : Int) - (k : Int)).toNat = q + 1 := by omega
      have e3 : k + 1 + q - k = q + 1 := by omega
      ((first | (refine w_asg ?_ ?_; exact rfl) | (refine w_asgM ?_ ?_; exact rfl) | (refine w_par ?_ ?_; exact rfl) | (refine w_unp ?_ ?_; exact rfl) | (refine w_aug ?_ ?_; exact rfl) | (refine w_app ?_ ?_; exact rfl) | (refine w_setix ?_ ?_ ?_; exact rfl; exact rfl) | (refine w_ret ?_ ?_; exact rfl) | refine w_retM ?_ | refine w_pass ?_ | refine w_cnt ?_ | refine w_brk ?_ | (refine w_if ?_ ?_; exact rfl) | refine w_nil ?_))
      (simp (config := { implicitDefEqProofs := false }) (disch := first | with_reducible assumption | omega | (simp only [iL_length, List.length_map, List.length_range, List.length_append, List.length_cons, List.length_nil, List.length_take, List.length_drop]; omega)) only [vl, vls, vlo, vlc, getS_z, getS_s, wipeF, bindTg, setAll, List.set_cons_succ, List.set_cons_zero, Option.map_some, Option.bind_some, Option.map_none, Option.bind_none, blOf, intOf, nat_z, ↓reduceIte, if_true, Bool.false_eq_true, if_false, sub_tupI, sub_lstI, bi_sumL, bi_sumT, bi_allM, bi_anyM, bi_lenT, bi_lenL, bi_lenD, bi_lenS, bi_tupL, bi_tupT, bi_lstT, bi_lstL, bi_intI, bi_absI, bi_min2I, bi_max2I, bi_minL, bi_maxL, cutop_tup, cutop_lst, rev_iT, rev_iLs, op_addI, op_subI, op_mulIL, op_mulIR, op_fdivI, op_modI, op_addT, op_addLs, co_eqI, co_neI, co_ltI, co_leI, co_gtI, co_geI, co_isN, co_isntN, co_eqLs, co_neLs, co_eqTs, co_neTs, iter_lst, iter_tup, compG_range, compG_iL, compG_one, compG_if, compR_one, compR_if, compQ_one, compQ_if, compQ_nil, rgV_ok, rgV2_ok, zipV_T, zipV_L, iL_length, map_pvint, map_int0, Int.toNat_natCast, decide_eq_true_eq, zip_iL, compG_rangeMap, cut_to, cut_from, cut_mid, Option.some.injEq, exists_eq_left', Nx_rt, Tu_rt, min_cast, max_cast, max1_cast, toNat_1, toNat_1', toNat_a, toNat_s, toNat_m1, toNat_0, half_cast, co_eqT0, co_neT0, co_eqL0, co_neL0, List.length_cons, List.length_nil,e1, e2, PV.bl.injEq, decide_eq_true_eq, decide_eq_false_iff_not])
      have hfit : fit come one k (k + 1 + q) := ⟨by omega, by omega, by omega⟩
      refine ⟨fun z => ?_, fun z => ?_⟩
      · ((first | (refine w_asg ?_ ?_; exact rfl) | (refine w_asgM ?_ ?_; exact rfl) | (refine w_par ?_ ?_; exact rfl) | (refine w_unp ?_ ?_; exact rfl) | (refine w_aug ?_ ?_; exact rfl) | (refine w_app ?_ ?_; exact rfl) | (refine w_setix ?_ ?_ ?_; exact rfl; exact rfl) | (refine w_ret ?_ ?_; exact rfl) | refine w_retM ?_ | refine w_pass ?_ | refine w_cnt ?_ | refine w_brk ?_ | (refine w_if ?_ ?_; exact rfl) | refine w_nil ?_))
        (simp (config := { implicitDefEqProofs := false }) (disch := first | with_reducible assumption | omega | (simp only [iL_length, List.length_map, List.length_range, List.length_append, List.length_cons, List.length_nil, List.length_take, List.length_drop]; omega)) only [vl, vls, vlo, vlc, getS_z, getS_s, wipeF, bindTg, setAll, List.set_cons_succ, List.set_cons_zero, Option.map_some, Option.bind_some, Option.map_none, Option.bind_none, blOf, intOf, nat_z, ↓reduceIte, if_true, Bool.false_eq_true, if_false, sub_tupI, sub_lstI, bi_sumL, bi_sumT, bi_allM, bi_anyM, bi_lenT, bi_lenL, bi_lenD, bi_lenS, bi_tupL, bi_tupT, bi_lstT, bi_lstL, bi_intI, bi_absI, bi_min2I, bi_max2I, bi_minL, bi_maxL, cutop_tup, cutop_lst, rev_iT, rev_iLs, op_addI, op_subI, op_mulIL, op_mulIR, op_fdivI, op_modI, op_addT, op_addLs, co_eqI, co_neI, co_ltI, co_leI, co_gtI, co_geI, co_isN, co_isntN, co_eqLs, co_neLs, co_eqTs, co_neTs, iter_lst, iter_tup, compG_range, compG_iL, compG_one, compG_if, compR_one, compR_if, compQ_one, compQ_if, compQ_nil, rgV_ok, rgV2_ok, zipV_T, zipV_L, iL_length, map_pvint, map_int0, Int.toNat_natCast, decide_eq_true_eq, zip_iL, compG_rangeMap, cut_to, cut_from, cut_mid, Option.some.injEq, exists_eq_left', Nx_rt, Tu_rt, min_cast, max_cast, max1_cast, toNat_1, toNat_1', toNat_a, toNat_s, toNat_m1, toNat_0, half_cast, co_eqT0, co_neT0, co_eqL0, co_neL0, List.length_cons, List.length_nil])
        refine ⟨_, rfl, .inr ⟨k, k + 1 + q, by congr 3, hfit, ?_, fun b' e' hf hb => ?_⟩⟩
        · unfold bad
          rw [e3] at z ⊢; exact z
        · by_cases hb' : b' < k
          · exact (hne b' e' hb' hf hb).elim
          · by_cases hk' : b' = k
            · subst hk'
              refine .inr ⟨rfl, ?_⟩
              by_cases he : e' < b' + 1 + q
              · exact (hne2 e' he hf hb).elim
              · omega
            · exact .inl (by omega)
      · refine w_nil (w_nil ⟨fun e he hf => ?_, _, rfl⟩)
        by_cases hee : e = k + 1 + q
        · subst hee
          unfold bad
          rw [e3] at z ⊢; exact z
        · exact hne2 e (by omega) hf
    · rintro _ ⟨hne2, c, rfl⟩
      refine w_nil ⟨fun b e hb hf => ?_, _, _, rfl⟩
      by_cases hbk : b = k
      · subst hbk
        refine hne2 e ?_ hf
        obtain ⟨f1, f2, f3⟩ := hf
        omega
      · exact hne b e (by omega) hf
  · rintro _ ⟨hne, a, c, rfl⟩
    ((first | (refine w_asg ?_ ?_; exact rfl) | (refine w_asgM ?_ ?_; exact rfl) | (refine w_par ?_ ?_; exact rfl) | (refine w_unp ?_ ?_; exact rfl) | (refine w_aug ?_ ?_; exact rfl) | (refine w_app ?_ ?_; exact rfl) | (refine w_setix ?_ ?_ ?_; exact rfl; exact rfl) | (refine w_ret ?_ ?_; exact rfl) | refine w_retM ?_ | refine w_pass ?_ | refine w_cnt ?_ | refine w_brk ?_ | (refine w_if ?_ ?_; exact rfl) | refine w_nil ?_))
    (simp (config := { implicitDefEqProofs := false }) (disch := first | with_reducible assumption | omega | (simp only [iL_length, List.length_map, List.length_range, List.length_append, List.length_cons, List.length_nil, List.length_take, List.length_drop]; omega)) only [vl, vls, vlo, vlc, getS_z, getS_s, wipeF, bindTg, setAll, List.set_cons_succ, List.set_cons_zero, Option.map_some, Option.bind_some, Option.map_none, Option.bind_none, blOf, intOf, nat_z, ↓reduceIte, if_true, Bool.false_eq_true, if_false, sub_tupI, sub_lstI, bi_sumL, bi_sumT, bi_allM, bi_anyM, bi_lenT, bi_lenL, bi_lenD, bi_lenS, bi_tupL, bi_tupT, bi_lstT, bi_lstL, bi_intI, bi_absI, bi_min2I, bi_max2I, bi_minL, bi_maxL, cutop_tup, cutop_lst, rev_iT, rev_iLs, op_addI, op_subI, op_mulIL, op_mulIR, op_fdivI, op_modI, op_addT, op_addLs, co_eqI, co_neI, co_ltI, co_leI, co_gtI, co_geI, co_isN, co_isntN, co_eqLs, co_neLs, co_eqTs, co_neTs, iter_lst, iter_tup, compG_range, compG_iL, compG_one, compG_if, compR_one, compR_if, compQ_one, compQ_if, compQ_nil, rgV_ok, rgV2_ok, zipV_T, zipV_L, iL_length, map_pvint, map_int0, Int.toNat_natCast, decide_eq_true_eq, zip_iL, compG_rangeMap, cut_to, cut_from, cut_mid, Option.some.injEq, exists_eq_left', Nx_rt, Tu_rt, min_cast, max_cast, max1_cast, toNat_1, toNat_1', toNat_a, toNat_s, toNat_m1, toNat_0, half_cast, co_eqT0, co_neT0, co_eqL0, co_neL0, List.length_cons, List.length_nil])
    exact ⟨_, rfl, .inl ⟨rfl, fun b e hf => hne b e (by obtain ⟨f1, f2, f3⟩ := hf; omega) hf⟩⟩
end
end K34

set_option linter.all false
set_option Elab.async false
set_option maxRecDepth 10000
namespace K34
open EV
section
variable {d : Nat}
theorem ok19 {s t : Bool} : evCall P (d + 1) 19 [.bl s, .bl t] = some (.bl (s == t), []) := by
  refine call_w (F := f__law_is_bit) rfl rfl rfl ?_
  generalize evCall P d = C at *
  show W C b__law_is_bit [some (.bl s), some (.bl t)] _
  unfold b__law_is_bit
  ((first | (refine w_asg ?_ ?_; exact rfl) | (refine w_asgM ?_ ?_; exact rfl) | (refine w_par ?_ ?_; exact rfl) | (refine w_unp ?_ ?_; exact rfl) | (refine w_aug ?_ ?_; exact rfl) | (refine w_app ?_ ?_; exact rfl) | (refine w_setix ?_ ?_ ?_; exact rfl; exact rfl) | (refine w_ret ?_ ?_; exact rfl) | refine w_retM ?_ | refine w_pass ?_ | refine w_cnt ?_ | refine w_brk ?_ | (refine w_if ?_ ?_; exact rfl) | refine w_nil ?_))
  cases s <;> cases t <;> exact ⟨_, rfl, rfl⟩
/-- a curve of the law -/
structure Crv (l : List Int) (most : Int) : Prop where
  pos : 0 < l.length
  len : (l.length : Int) ≤ most
  ge : ∀ x ∈ l, 0 ≤ x
  mono : ∀ k, k + 1 < l.length → at' l k ≤ at' l (k + 1)
theorem ok20 {ds : List Int} {n : Nat} {most : Int} (hm : 0 < most) (hm2 : most ≤ 100) : ∃ (l : List Int) (n' : Nat), Crv l most ∧ evCall P (d + 3) 20 [wd ds n, .int most] = some (.tup (iL l), [some (wd ds n')]) := by
  obtain ⟨v, outs, q1, l, n', q2, q3, q4⟩ := call_wM (P := P) (d := d + 2) (f := 20) (F := f__law_curve) (args := [wd ds n, .int most]) rfl rfl (Q := fun v outs => ∃ (l : List Int) (n' : Nat), Crv l most ∧ v = .tup (iL l) ∧ outs = [some (wd ds n')]) (by
    have hN : NextOk (evCall P (d + 2)) 16 := nextOk (d := d + 1) rfl
    have hP : PickOk (evCall P (d + 2)) 17 := pickOk (d := d) rfl rfl
    generalize evCall P (d + 2) = C at *
    show W C b__law_curve [some (wd ds n), some (.int most), none, none, none] _
    unfold b__law_curve
    refine w_parE (ves_cons (ve_pure rfl ?_))
    (simp (config := { implicitDefEqProofs := false }) (disch := first | with_reducible assumption | omega | (simp only [iL_length, List.length_map, List.length_range, List.length_append, List.length_cons, List.length_nil, List.length_take, List.length_drop]; omega)) only [vl, vls, vlo, vlc, getS_z, getS_s, wipeF, bindTg, setAll, List.set_cons_succ, List.set_cons_zero, Option.map_some, Option.bind_some, Option.map_none, Option.bind_none, blOf, intOf, nat_z, ↓reduceIte, if_true, Bool.false_eq_true, if_false, sub_tupI, sub_lstI, bi_sumL, bi_sumT, bi_allM, bi_anyM, bi_lenT, bi_lenL, bi_lenD, bi_lenS, bi_tupL, bi_tupT, bi_lstT, bi_lstL, bi_intI, bi_absI, bi_min2I, bi_max2I, bi_minL, bi_maxL, cutop_tup, cutop_lst, rev_iT, rev_iLs, op_addI, op_subI, op_mulIL, op_mulIR, op_fdivI, op_modI, op_addT, op_addLs, co_eqI, co_neI, co_ltI, co_leI, co_gtI, co_geI, co_isN, co_isntN, co_eqLs, co_neLs, co_eqTs, co_neTs, iter_lst, iter_tup, compG_range, compG_iL, compG_one, compG_if, compR_one, compR_if, compQ_one, compQ_if, compQ_nil, rgV_ok, rgV2_ok, zipV_T, zipV_L, iL_length, map_pvint, map_int0, Int.toNat_natCast, decide_eq_true_eq, zip_iL, compG_rangeMap, cut_to, cut_from, cut_mid, Option.some.injEq, exists_eq_left', Nx_rt, Tu_rt, min_cast, max_cast, max1_cast, toNat_1, toNat_1', toNat_a, toNat_s, toNat_m1, toNat_0, half_cast, co_eqT0, co_neT0, co_eqL0, co_neL0, List.length_cons, List.length_nil])
    refine ves_cons (ve_next (m := 3) hN rfl rfl (by (simp (config := { implicitDefEqProofs := false }) (disch := first | with_reducible assumption | omega | (simp only [iL_length, List.length_map, List.length_range, List.length_append, List.length_cons, List.length_nil, List.length_take, List.length_drop]; omega)) only [vl, vls, vlo, vlc, getS_z, getS_s, wipeF, bindTg, setAll, List.set_cons_succ, List.set_cons_zero, Option.map_some, Option.bind_some, Option.map_none, Option.bind_none, blOf, intOf, nat_z, ↓reduceIte, if_true, Bool.false_eq_true, if_false, sub_tupI, sub_lstI, bi_sumL, bi_sumT, bi_allM, bi_anyM, bi_lenT, bi_lenL, bi_lenD, bi_lenS, bi_tupL, bi_tupT, bi_lstT, bi_lstL, bi_intI, bi_absI, bi_min2I, bi_max2I, bi_minL, bi_maxL, cutop_tup, cutop_lst, rev_iT, rev_iLs, op_addI, op_subI, op_mulIL, op_mulIR, op_fdivI, op_modI, op_addT, op_addLs, co_eqI, co_neI, co_ltI, co_leI, co_gtI, co_geI, co_isN, co_isntN, co_eqLs, co_neLs, co_eqTs, co_neTs, iter_lst, iter_tup, compG_range, compG_iL, compG_one, compG_if, compR_one, compR_if, compQ_one, compQ_if, compQ_nil, rgV_ok, rgV2_ok, zipV_T, zipV_L, iL_length, map_pvint, map_int0, Int.toNat_natCast, decide_eq_true_eq, zip_iL, compG_rangeMap, cut_to, cut_from, cut_mid, Option.some.injEq, exists_eq_left', Nx_rt, Tu_rt, min_cast, max_cast, max1_cast, toNat_1, toNat_1', toNat_a, toNat_s, toNat_m1, toNat_0, half_cast, co_eqT0, co_neT0, co_eqL0, co_neL0, List.length_cons, List.length_nil])) (by decide) fun r h0 h1 => ves_nil ⟨rfl, ?_⟩)
    show W C _ [some (wd ds (n + 1)), some (.int most), some (.tup (iL [])), some (.int r), none] _
    refine w_forE (I := fun (k : Nat) fr => ∃ (n : Nat) (l : List Int) (x : Int) (c : Option PV), l.length = k ∧ (∀ y ∈ l, 0 ≤ y ∧ y ≤ x) ∧ 0 ≤ x ∧ (∀ i, i + 1 < l.length → at' l i ≤ at' l (i + 1)) ∧ fr = [some (wd ds n), some (.int most), some (.tup (iL l)), some (.int x), c]) (ve_rg1 (ve_bin (ve_pure rfl ?_)))
    (simp (config := { implicitDefEqProofs := false }) (disch := first | with_reducible assumption | omega | (simp only [iL_length, List.length_map, List.length_range, List.length_append, List.length_cons, List.length_nil, List.length_take, List.length_drop]; omega)) only [vl, vls, vlo, vlc, getS_z, getS_s, wipeF, bindTg, setAll, List.set_cons_succ, List.set_cons_zero, Option.map_some, Option.bind_some, Option.map_none, Option.bind_none, blOf, intOf, nat_z, ↓reduceIte, if_true, Bool.false_eq_true, if_false, sub_tupI, sub_lstI, bi_sumL, bi_sumT, bi_allM, bi_anyM, bi_lenT, bi_lenL, bi_lenD, bi_lenS, bi_tupL, bi_tupT, bi_lstT, bi_lstL, bi_intI, bi_absI, bi_min2I, bi_max2I, bi_minL, bi_maxL, cutop_tup, cutop_lst, rev_iT, rev_iLs, op_addI, op_subI, op_mulIL, op_mulIR, op_fdivI, op_modI, op_addT, op_addLs, co_eqI, co_neI, co_ltI, co_leI, co_gtI, co_geI, co_isN, co_isntN, co_eqLs, co_neLs, co_eqTs, co_neTs, iter_lst, iter_tup, compG_range, compG_iL, compG_one, compG_if, compR_one, compR_if, compQ_one, compQ_if, compQ_nil, rgV_ok, rgV2_ok, zipV_T, zipV_L, iL_length, map_pvint, map_int0, Int.toNat_natCast, decide_eq_true_eq, zip_iL, compG_rangeMap, cut_to, cut_from, cut_mid, Option.some.injEq, exists_eq_left', Nx_rt, Tu_rt, min_cast, max_cast, max1_cast, toNat_1, toNat_1', toNat_a, toNat_s, toNat_m1, toNat_0, half_cast, co_eqT0, co_neT0, co_eqL0, co_neL0, List.length_cons, List.length_nil])
    refine ve_next (m := most) hN rfl rfl (by (simp (config := { implicitDefEqProofs := false }) (disch := first | with_reducible assumption | omega | (simp only [iL_length, List.length_map, List.length_range, List.length_append, List.length_cons, List.length_nil, List.length_take, List.length_drop]; omega)) only [vl, vls, vlo, vlc, getS_z, getS_s, wipeF, bindTg, setAll, List.set_cons_succ, List.set_cons_zero, Option.map_some, Option.bind_some, Option.map_none, Option.bind_none, blOf, intOf, nat_z, ↓reduceIte, if_true, Bool.false_eq_true, if_false, sub_tupI, sub_lstI, bi_sumL, bi_sumT, bi_allM, bi_anyM, bi_lenT, bi_lenL, bi_lenD, bi_lenS, bi_tupL, bi_tupT, bi_lstT, bi_lstL, bi_intI, bi_absI, bi_min2I, bi_max2I, bi_minL, bi_maxL, cutop_tup, cutop_lst, rev_iT, rev_iLs, op_addI, op_subI, op_mulIL, op_mulIR, op_fdivI, op_modI, op_addT, op_addLs, co_eqI, co_neI, co_ltI, co_leI, co_gtI, co_geI, co_isN, co_isntN, co_eqLs, co_neLs, co_eqTs, co_neTs, iter_lst, iter_tup, compG_range, compG_iL, compG_one, compG_if, compR_one, compR_if, compQ_one, compQ_if, compQ_nil, rgV_ok, rgV2_ok, zipV_T, zipV_L, iL_length, map_pvint, map_int0, Int.toNat_natCast, decide_eq_true_eq, zip_iL, compG_rangeMap, cut_to, cut_from, cut_mid, Option.some.injEq, exists_eq_left', Nx_rt, Tu_rt, min_cast, max_cast, max1_cast, toNat_1, toNat_1', toNat_a, toNat_s, toNat_m1, toNat_0, half_cast, co_eqT0, co_neT0, co_eqL0, co_neL0, List.length_cons, List.length_nil])) hm fun m h2 h3 => ⟨_, rfl, _, rfl, rg_ok (by omega) (by omega), fun (k : Nat) => PV.int k, (1 + m).toNat, ?_⟩
    refine ⟨by rw [range0], ?_⟩
    refine ⟨⟨_, [], r, none, rfl, fun _ z => absurd z (by simp), h0, fun i hi => by simp at hi, rfl⟩, ?_, ?_⟩
    · rintro k _ hk ⟨n, l, x, c, hl, hb, hx, hmo, rfl⟩
      ((first | (refine w_asg ?_ ?_; exact rfl) | (refine w_asgM ?_ ?_; exact rfl) | (refine w_par ?_ ?_; exact rfl) | (refine w_unp ?_ ?_; exact rfl) | (refine w_aug ?_ ?_; exact rfl) | (refine w_app ?_ ?_; exact rfl) | (refine w_setix ?_ ?_ ?_; exact rfl; exact rfl) | (refine w_ret ?_ ?_; exact rfl) | refine w_retM ?_ | refine w_pass ?_ | refine w_cnt ?_ | refine w_brk ?_ | (refine w_if ?_ ?_; exact rfl) | refine w_nil ?_))
      (simp (config := { implicitDefEqProofs := false }) (disch := first | with_reducible assumption | omega | (simp only [iL_length, List.length_map, List.length_range, List.length_append, List.length_cons, List.length_nil, List.length_take, List.length_drop]; omega)) only [vl, vls, vlo, vlc, getS_z, getS_s, wipeF, bindTg, setAll, List.set_cons_succ, List.set_cons_zero, Option.map_some, Option.bind_some, Option.map_none, Option.bind_none, blOf, intOf, nat_z, ↓reduceIte, if_true, Bool.false_eq_true, if_false, sub_tupI, sub_lstI, bi_sumL, bi_sumT, bi_allM, bi_anyM, bi_lenT, bi_lenL, bi_lenD, bi_lenS, bi_tupL, bi_tupT, bi_lstT, bi_lstL, bi_intI, bi_absI, bi_min2I, bi_max2I, bi_minL, bi_maxL, cutop_tup, cutop_lst, rev_iT, rev_iLs, op_addI, op_subI, op_mulIL, op_mulIR, op_fdivI, op_modI, op_addT, op_addLs, co_eqI, co_neI, co_ltI, co_leI, co_gtI, co_geI, co_isN, co_isntN, co_eqLs, co_neLs, co_eqTs, co_neTs, iter_lst, iter_tup, compG_range, compG_iL, compG_one, compG_if, compR_one, compR_if, compQ_one, compQ_if, compQ_nil, rgV_ok, rgV2_ok, zipV_T, zipV_L, iL_length, map_pvint, map_int0, Int.toNat_natCast, decide_eq_true_eq, zip_iL, compG_rangeMap, cut_to, cut_from, cut_mid, Option.some.injEq, exists_eq_left', Nx_rt, Tu_rt, min_cast, max_cast, max1_cast, toNat_1, toNat_1', toNat_a, toNat_s, toNat_m1, toNat_0, half_cast, co_eqT0, co_neT0, co_eqL0, co_neL0, List.length_cons, List.length_nil,List.cons_append, List.nil_append])
      refine w_augE ⟨_, rfl, ve_pick (xs := [.int 0, .int 1, .int 2, .int 4]) hP rfl rfl (by (simp (config := { implicitDefEqProofs := false }) (disch := first | with_reducible assumption | omega | (simp only [iL_length, List.length_map, List.length_range, List.length_append, List.length_cons, List.length_nil, List.length_take, List.length_drop]; omega)) only [vl, vls, vlo, vlc, getS_z, getS_s, wipeF, bindTg, setAll, List.set_cons_succ, List.set_cons_zero, Option.map_some, Option.bind_some, Option.map_none, Option.bind_none, blOf, intOf, nat_z, ↓reduceIte, if_true, Bool.false_eq_true, if_false, sub_tupI, sub_lstI, bi_sumL, bi_sumT, bi_allM, bi_anyM, bi_lenT, bi_lenL, bi_lenD, bi_lenS, bi_tupL, bi_tupT, bi_lstT, bi_lstL, bi_intI, bi_absI, bi_min2I, bi_max2I, bi_minL, bi_maxL, cutop_tup, cutop_lst, rev_iT, rev_iLs, op_addI, op_subI, op_mulIL, op_mulIR, op_fdivI, op_modI, op_addT, op_addLs, co_eqI, co_neI, co_ltI, co_leI, co_gtI, co_geI, co_isN, co_isntN, co_eqLs, co_neLs, co_eqTs, co_neTs, iter_lst, iter_tup, compG_range, compG_iL, compG_one, compG_if, compR_one, compR_if, compQ_one, compQ_if, compQ_nil, rgV_ok, rgV2_ok, zipV_T, zipV_L, iL_length, map_pvint, map_int0, Int.toNat_natCast, decide_eq_true_eq, zip_iL, compG_rangeMap, cut_to, cut_from, cut_mid, Option.some.injEq, exists_eq_left', Nx_rt, Tu_rt, min_cast, max_cast, max1_cast, toNat_1, toNat_1', toNat_a, toNat_s, toNat_m1, toNat_0, half_cast, co_eqT0, co_neT0, co_eqL0, co_neL0, List.length_cons, List.length_nil])) (by decide) fun y hy => ?_⟩
      have hy : ∃ z : Int, y = .int z ∧ 0 ≤ z := by
        simp only [List.mem_cons, List.not_mem_nil, or_false] at hy
        rcases hy with rfl | rfl | rfl | rfl <;> exact ⟨_, rfl, by decide⟩
      obtain ⟨z, rfl, hz⟩ := hy
      refine ⟨_, rfl, w_nil ⟨n + 1, l ++ [x], x + z, some (.int k), by simp [hl], fun y hy => ?_, by omega, fun i hi => ?_, ?_⟩⟩
      · rcases List.mem_append.mp hy with hy | hy
        · have := hb y hy; omega
        · have : y = x := by simpa using hy
          subst this; omega
      · simp only [List.length_append, List.length_cons, List.length_nil] at hi
        by_cases e : i + 1 < l.length
        · have := hmo i e
          have a1 : at' (l ++ [x]) i = at' l i := by simp [at', List.getD, List.getElem?_append_left (show i < l.length by omega)]
          have a2 : at' (l ++ [x]) (i + 1) = at' l (i + 1) := by simp [at', List.getD, List.getElem?_append_left e]
          rw [a1, a2]; exact this
        · have e2 : i + 1 = l.length := by omega
          have a1 : at' (l ++ [x]) i = at' l i := by simp [at', List.getD, List.getElem?_append_left (show i < l.length by omega)]
          have a2 : at' (l ++ [x]) (i + 1) = x := by rw [e2]; simp [at', List.getD]
          rw [a1, a2]
          exact (hb _ (at_mem (by omega))).2
      · rw [← iL_snoc]; rfl
    · rintro _ ⟨n, l, x, c, hl, hb, hx, hmo, rfl⟩
      ((first | (refine w_asg ?_ ?_; exact rfl) | (refine w_asgM ?_ ?_; exact rfl) | (refine w_par ?_ ?_; exact rfl) | (refine w_unp ?_ ?_; exact rfl) | (refine w_aug ?_ ?_; exact rfl) | (refine w_app ?_ ?_; exact rfl) | (refine w_setix ?_ ?_ ?_; exact rfl; exact rfl) | (refine w_ret ?_ ?_; exact rfl) | refine w_retM ?_ | refine w_pass ?_ | refine w_cnt ?_ | refine w_brk ?_ | (refine w_if ?_ ?_; exact rfl) | refine w_nil ?_))
      (simp (config := { implicitDefEqProofs := false }) (disch := first | with_reducible assumption | omega | (simp only [iL_length, List.length_map, List.length_range, List.length_append, List.length_cons, List.length_nil, List.length_take, List.length_drop]; omega)) only [vl, vls, vlo, vlc, getS_z, getS_s, wipeF, bindTg, setAll, List.set_cons_succ, List.set_cons_zero, Option.map_some, Option.bind_some, Option.map_none, Option.bind_none, blOf, intOf, nat_z, ↓reduceIte, if_true, Bool.false_eq_true, if_false, sub_tupI, sub_lstI, bi_sumL, bi_sumT, bi_allM, bi_anyM, bi_lenT, bi_lenL, bi_lenD, bi_lenS, bi_tupL, bi_tupT, bi_lstT, bi_lstL, bi_intI, bi_absI, bi_min2I, bi_max2I, bi_minL, bi_maxL, cutop_tup, cutop_lst, rev_iT, rev_iLs, op_addI, op_subI, op_mulIL, op_mulIR, op_fdivI, op_modI, op_addT, op_addLs, co_eqI, co_neI, co_ltI, co_leI, co_gtI, co_geI, co_isN, co_isntN, co_eqLs, co_neLs, co_eqTs, co_neTs, iter_lst, iter_tup, compG_range, compG_iL, compG_one, compG_if, compR_one, compR_if, compQ_one, compQ_if, compQ_nil, rgV_ok, rgV2_ok, zipV_T, zipV_L, iL_length, map_pvint, map_int0, Int.toNat_natCast, decide_eq_true_eq, zip_iL, compG_rangeMap, cut_to, cut_from, cut_mid, Option.some.injEq, exists_eq_left', Nx_rt, Tu_rt, min_cast, max_cast, max1_cast, toNat_1, toNat_1', toNat_a, toNat_s, toNat_m1, toNat_0, half_cast, co_eqT0, co_neT0, co_eqL0, co_neL0, List.length_cons, List.length_nil])
      exact ⟨_, rfl, l, n, ⟨by omega, by omega, fun x hx => (hb x hx).1, hmo⟩, rfl, rfl⟩)
  exact ⟨l, n', q2, by rw [q1, q3, q4]⟩
end
end K34

set_option linter.all false
set_option Elab.async false
set_option maxRecDepth 10000
namespace K34
open EV
section
variable {one other come : List Int} {d n : Nat}
def gapL (one other : List Int) (n : Nat) : List Int := (List.range n).map (gp one other)
theorem gapL_len : (gapL one other n).length = n := by simp [gapL]
theorem gapL_at {k : Nat} (h : k < n) : at' (gapL one other n) k = gp one other k := at_rmap h
theorem mx_gap (hn : 0 < n) : mxL (gapL one other n) = gp one other (amx one other (n - 1)) := by
  obtain ⟨h1, h2, h3⟩ := amx_spec one other (n - 1)
  refine mxL_uniq (List.mem_map.mpr ⟨_, List.mem_range.mpr (by omega), rfl⟩) fun y hy => ?_
  obtain ⟨s, hs, rfl⟩ := List.mem_map.mp hy
  have := List.mem_range.mp hs
  exact h2 s (by omega)
theorem mx_cons {l : List Int} (h : 0 < l.length) (a : Int) : mxL (a :: l) = max a (mxL l) := by
  obtain ⟨h1, h2⟩ := mxL_spec h
  refine mxL_uniq ?_ fun y hy => ?_
  · rcases Int.le_total a (mxL l) with z | z
    · rw [Int.max_eq_right z]; exact List.mem_cons_of_mem _ h1
    · rw [Int.max_eq_left z]; exact List.mem_cons_self
  · rcases List.mem_cons.mp hy with hy | hy
    · rw [hy]; omega
    · have := h2 y hy; omega
theorem mx_0gap (hn : 0 < n) : mxL (0 :: gapL one other n) = max 0 (gp one other (amx one other (n - 1))) := by
  rw [mx_cons (by rw [gapL_len]; exact hn), mx_gap hn]
theorem idx_gap (hn : 0 < n) : methop .index (.lst (iL (gapL one other n))) [.int (gp one other (amx one other (n - 1)))] = some (.int ((amx one other (n - 1) : Nat) : Int)) := by
  obtain ⟨h1, h2, h3⟩ := amx_spec one other (n - 1)
  refine meth_idx (by rw [gapL_len]; omega) (gapL_at (by omega)) fun k hk => ?_
  rw [gapL_at (by omega)]
  have := h3 k hk
  omega
theorem mx_bo : ∀ s, s ≤ n → mxL (0 :: (gapL one other n).take s) = bo one other s
  | 0, _ => by simp [mxL, bo]
  | s + 1, h => by
    have hs : s < (gapL one other n).length := by rw [gapL_len]; omega
    have e : (gapL one other n).take (s + 1) = (gapL one other n).take s ++ [gp one other s] := by
      rw [List.take_succ_eq_append_getElem hs, ← at_get hs, gapL_at (by omega)]
    rw [e, ← List.cons_append, mxL_snoc _ _ (by simp), mx_bo s (by omega)]
    rfl
/-! longest_wait -/
def latV (one other : List Int) (s : Nat) : PV := if fl one other s = [] then .non else .int (hd' one other s)
def latL (one other : List Int) (n : Nat) : List PV := (List.range n).map (latV one other)
theorem latL_s : latL one other (n + 1) = latL one other n ++ [latV one other n] := by simp [latL, List.range_succ]
theorem latL_len : (latL one other n).length = n := by simp [latL]
theorem dat_map {α : Type} {f : α → PV} : ∀ {l : List α}, (∀ a ∈ l, datOk (f a) = true ∧ depth (f a) = 0) → datOkL (l.map f) = true ∧ depthL (l.map f) = 0
  | [], _ => ⟨rfl, rfl⟩
  | a :: l, h => by
    obtain ⟨h1, h2⟩ := dat_map (l := l) fun b hb => h b (List.mem_cons_of_mem _ hb)
    obtain ⟨h3, h4⟩ := h a List.mem_cons_self
    simp [datOkL, depthL, h1, h2, h3, h4]
theorem latL_dat : datOkL (latL one other n) = true ∧ depthL (latL one other n) = 0 := dat_map fun s _ => by
  unfold latV
  split <;> exact ⟨rfl, rfl⟩
theorem lat_in : cmpop .isin .non (.lst (latL one other n)) = some (.bl (isInL .non (latL one other n))) := by
  simp only [cmpop]
  rw [if_pos]
  unfold inOk
  rw [latL_dat.1, latL_dat.2]
  rfl
theorem lat_in1 {s : Nat} (hs : s < n) (h : fl one other s = []) : isInL .non (latL one other n) = true := by
  unfold isInL
  rw [List.any_eq_true]
  exact ⟨.non, List.mem_map.mpr ⟨s, List.mem_range.mpr hs, by unfold latV; rw [if_pos h]⟩, rfl⟩
theorem lat_in0 (h : ∀ s, s < n → fl one other s ≠ []) : isInL .non (latL one other n) = false ∧ latL one other n = iL ((List.range n).map (hd' one other)) := by
  have e : latL one other n = iL ((List.range n).map (hd' one other)) := by
    unfold latL iL
    rw [List.map_map]
    apply List.map_congr_left
    intro s hs
    unfold latV
    rw [if_neg (h s (List.mem_range.mp hs))]
    rfl
  refine ⟨?_, e⟩
  rw [e]
  unfold isInL
  rw [List.any_eq_false]
  intro y hy
  obtain ⟨a, _, rfl⟩ := List.mem_map.mp hy
  simp [pyEq]
theorem hd_ge (s : Nat) : 0 ≤ hd' one other s := by
  unfold hd'
  cases fl one other s with
  | nil => simp [at', List.getD]
  | cons a l => simp [at', List.getD]
theorem mx_bst : ∀ n, 0 < n → mxL ((List.range n).map (hd' one other)) = bst one other n
  | 1, _ => by
    have := hd_ge (one := one) (other := other) 0
    simp only [bst]
    have e : (List.range 1).map (hd' one other) = [hd' one other 0] := by simp [List.range_succ]
    rw [e]
    simp only [mxL, List.foldl_nil]
    omega
  | n + 2, _ => by
    rw [List.range_succ, List.map_append]
    simp only [List.map_cons, List.map_nil]
    rw [mxL_snoc _ _ (by simp), mx_bst (n + 1) (by omega)]
    rfl
/-! steps -/
theorem filter_lt (c : Nat) : ∀ n, (List.range n).filter (fun k => decide (k < c)) = List.range (min c n)
  | 0 => by simp
  | n + 1 => by
    rw [List.range_succ, List.filter_append, filter_lt c n]
    by_cases h : n < c
    · rw [show min c (n + 1) = min c n + 1 by omega, List.range_succ]
      simp [h]; omega
    · rw [show min c (n + 1) = min c n by omega]
      simp [h]
theorem sum_const (b : Int) : ∀ (l : List Nat), (l.map fun _ => b).sum = b * l.length
  | [] => by simp
  | _ :: l => by simp only [List.map_cons, List.sum_cons, sum_const b l, List.length_cons]; rw [Int.natCast_add, Int.mul_add]; simp; omega
theorem steps_eq {burst gap : Int} (hg : 0 < gap) (n : Nat) : (((List.range n).filter fun (k : Nat) => decide ((k : Int) * gap < (n : Int))).map fun _ => burst).sum = burst * -(-(n : Int) / gap) := by
  have h1 : -(n : Int) / gap * gap ≤ -(n : Int) := Int.ediv_mul_le _ (by omega)
  have h2 : -(n : Int) < (-(n : Int) / gap + 1) * gap := Int.lt_ediv_add_one_mul_self _ hg
  generalize -(n : Int) / gap = q at h1 h2 ⊢
  have hiff : ∀ k : Nat, ((k : Int) * gap < (n : Int)) ↔ k < (-q).toNat := fun k => by
    constructor
    · intro h
      by_cases z : k < (-q).toNat
      · exact z
      · exfalso
        have : -q ≤ (k : Int) := by omega
        have := Int.mul_le_mul_of_nonneg_right this (Int.le_of_lt hg)
        rw [Int.neg_mul] at this
        omega
    · intro h
      have : (k : Int) + 1 ≤ -q := by omega
      have := Int.mul_le_mul_of_nonneg_right this (Int.le_of_lt hg)
      rw [Int.neg_mul, Int.add_mul] at this
      rw [Int.add_mul] at h2
      omega
  have e : ((List.range n).filter fun (k : Nat) => decide ((k : Int) * gap < (n : Int))) = List.range (min (-q).toNat n) := by
    rw [← filter_lt]
    apply List.filter_congr
    intro k _
    exact decide_eq_decide.mpr (hiff k)
  have hcn : (-q).toNat ≤ n := by
    by_cases z : (-q).toNat ≤ n
    · exact z
    · exfalso
      have := (hiff n).mpr (by omega)
      have h3 := Int.mul_le_mul_of_nonneg_left (show (1 : Int) ≤ gap by omega) (show (0 : Int) ≤ (n : Int) by omega)
      omega
  have hq : 0 ≤ -q := by
    by_cases z : 0 ≤ -q
    · exact z
    · exfalso
      have : (1 : Int) ≤ q := by omega
      have := Int.mul_le_mul_of_nonneg_right this (Int.le_of_lt hg)
      omega
  rw [e, sum_const, List.length_range, Nat.min_eq_left hcn]
  congr 1
  omega
theorem rate_eq (wait rate : Int) (n : Nat) : max 0 ((n : Int) - wait) * rate = if wait < (n : Int) then rate * ((n : Int) - wait) else 0 := by
  by_cases h : wait < (n : Int)
  · rw [if_pos h, Int.max_eq_right (by omega), Int.mul_comm]
  · rw [if_neg h, Int.max_eq_left (by omega), Int.zero_mul]
/-! narrowest -/
theorem sum_nonneg : ∀ {l : List Int}, (∀ x ∈ l, 0 ≤ x) → 0 ≤ l.sum
  | [], _ => by simp
  | x :: l, h => by
    have := sum_nonneg (l := l) fun y hy => h y (List.mem_cons_of_mem _ hy)
    have := h x List.mem_cons_self
    simp only [List.sum_cons]; omega
theorem part_nonneg (hc : ∀ x ∈ come, 0 ≤ x) (b k : Nat) : 0 ≤ ((come.drop b).take k).sum := sum_nonneg fun x hx => hc x (List.mem_of_mem_drop (List.mem_of_mem_take hx))
def leaV (come : List Int) (k : Nat) : Int := mxL (0 :: (List.range come.length).map fun b => ((come.drop b).take k).sum)
theorem nrw_eq (hc : ∀ x ∈ come, 0 ≤ x) (s : Nat) : nrwL come s = (List.range (s + 1)).map (leaV come) := by
  rw [List.range_succ_eq_map, List.map_cons, List.map_map]
  unfold nrwL
  congr 1
  · symm
    refine mxL_uniq List.mem_cons_self fun y hy => ?_
    rcases List.mem_cons.mp hy with hy | hy
    · omega
    · obtain ⟨b, _, rfl⟩ := List.mem_map.mp hy
      simp
  · apply List.map_congr_left
    intro k _
    show nrw come k = leaV come (k + 1)
    unfold nrw leaV
    by_cases h : 0 < come.length
    · rw [Nat.max_eq_right (by omega), mx_cons (by simp; omega)]
      obtain ⟨h1, _⟩ := mxL_spec (l := (List.range come.length).map fun b => ((come.drop b).take (k + 1)).sum) (by simp; omega)
      obtain ⟨b, _, e⟩ := List.mem_map.mp h1
      have := part_nonneg hc b (k + 1)
      show mxL ((List.range come.length).map fun b => ((come.drop b).take (k + 1)).sum) = max 0 (mxL ((List.range come.length).map fun b => ((come.drop b).take (k + 1)).sum))
      omega
    · have : come = [] := List.eq_nil_of_length_eq_zero (by omega)
      subst this
      simp [mxL, List.range_succ]
theorem nrw_ge {s b k : Nat} (hb : b < come.length) (hk : 0 < k) (hks : k ≤ s) : ((come.drop b).take k).sum ≤ at' (nrwL come s) k := by
  obtain ⟨j, rfl⟩ : ∃ j, k = j + 1 := ⟨k - 1, by omega⟩
  have e : at' (nrwL come s) (j + 1) = nrw come j := by
    show at' ((List.range s).map (nrw come)) j = _
    exact at_rmap (by omega)
  rw [e]
  exact (mxL_spec (by simp; omega)).2 _ (List.mem_map.mpr ⟨b, List.mem_range.mpr (by omega), rfl⟩)
theorem kept_eq : ((List.range n).all fun k => decide (at' one k ≤ at' other k)) = decide (((gapL one other n).filter fun g => decide (0 < g)) = []) := by
  rw [Bool.eq_iff_iff, List.all_eq_true, decide_eq_true_eq, List.filter_eq_nil_iff]
  constructor
  · intro h g hg
    obtain ⟨k, hk, rfl⟩ := List.mem_map.mp hg
    have := of_decide_eq_true (h k hk)
    intro z
    have z := of_decide_eq_true z
    simp only [gp] at z; omega
  · intro h k hk
    have := h _ (List.mem_map.mpr ⟨k, hk, rfl⟩)
    refine decide_eq_true (Int.not_lt.mp fun z => this (decide_eq_true ?_))
    simp only [gp]; omega
end
/-! sorted -/
theorem sortOk_iL (l : List Int) : sortOk (iL l) = true := by
  unfold sortOk
  rw [cmpOk_iL]
  have : (iL l).all isAtom = true := by simp [iL, isAtom]
  rw [this]
  simp
theorem sort_iL (l : List Int) : biop .sorted [.tup (iL l)] = some (.lst (iL (l.mergeSort fun a b => decide (a ≤ b)))) := by
  simp only [biop, sortOk_iL, if_true]
  congr 2
  unfold iL
  rw [List.map_mergeSort]
  intro a _ b _
  simp only [leV, ltV]
  by_cases h : a ≤ b
  · simp [h]
  · simp [h]; omega
theorem sorted_eq (l : List Int) : decide (l = l.mergeSort fun a b => decide (a ≤ b)) = (List.range (l.length - 1)).all fun k => decide (at' l k ≤ at' l (k + 1)) := by
  rw [Bool.eq_iff_iff, decide_eq_true_eq, List.all_eq_true]
  constructor
  · intro h k hk
    have hk := List.mem_range.mp hk
    have hs := List.pairwise_mergeSort (le := fun a b : Int => decide (a ≤ b)) (fun a b c h1 h2 => by simp only [decide_eq_true_eq] at *; omega) (fun a b => by simp; omega) l
    rw [← h] at hs
    have := List.pairwise_iff_getElem.mp hs k (k + 1) (by omega) (by omega) (by omega)
    rw [at_get (by omega), at_get (by omega)]
    exact this
  · intro h
    symm
    apply List.mergeSort_of_pairwise
    have mono : ∀ i j, i < j → j < l.length → at' l i ≤ at' l j := by
      intro i j hij hj
      induction j with
      | zero => omega
      | succ j ih =>
        have h1 := of_decide_eq_true (h j (List.mem_range.mpr (by omega)))
        by_cases e : i = j
        · subst e; exact h1
        · have := ih (by omega) (by omega)
          omega
    rw [List.pairwise_iff_getElem]
    intro i j hi hj hij
    have := mono i j hij hj
    rw [at_get hi, at_get hj] at this
    exact decide_eq_true this
end K34

set_option linter.all false
set_option Elab.async false
set_option maxRecDepth 10000
namespace K34
open EV
section
variable {one come : List Int}
theorem vl_bin {C : Calls} {o : Bo} {a b : Ex} {fr : Fr} : vl C (.bin o a b) fr = (vl C a fr).bind fun x => (vl C b fr).bind fun y => binop o x y := by simp only [vl]
theorem compR_ifI (n : Nat) (c : Nat → Prop) [DecidablePred c] (g : Nat → PV) : compR n (fun a => if a < n then (if c a then some [g a] else some []) else none) = some (((List.range n).filter fun a => decide (c a)).map g) := compR_if n c g
theorem i2d {α : Type} {p : Prop} [Decidable p] {x y : α} : (if p then x else y) = (if h : p then x else y) := rfl
theorem spans_vl {C : Calls} {k : Nat} (hk : k < come.length) (hz : come.length ≤ 8) (ho : one.length ≤ 9) (x0 x1 x2 x4 x6 x7 x8 x9 x10 x11 x12 x13 x14 x15 x16 x17 x18 x19 x20 x21 x22 x23 x24 x26 x27 x28 x29 x30 x31 x32 x33 x34 x35 x36 x37 : Option PV) :
    ∃ L : List (Int × Int), vl C (.comp (.rg2 (.bin .add (.sl 25) (.int 1)) (.bin .add (.bi .len [(.sl 5)]) (.int 1))) (.nm 37) (some (.and (.cmp .lt (.bin .sub (.sl 37) (.sl 25)) (.bi .len [(.sl 3)])) (.cmp .gt (.bi .sum [(.cut (.sl 5) (some (.sl 25)) (some (.sl 37)))]) (.sub (.sl 3) (.bin .sub (.sl 37) (.sl 25)))))) (.tup [(.sl 25), (.sl 37)]) [37])
      [x0, x1, x2, some (.tup (iL one)), x4, some (.tup (iL come)), x6, x7, x8, x9, x10, x11, x12, x13, x14, x15, x16, x17, x18, x19, x20, x21, x22, x23, x24, some (.int (k : Int)), x26, x27, x28, x29, x30, x31, x32, x33, x34, x35, x36, x37] = some (.lst (L.map pr)) ∧ L.length ≤ 100 ∧ ∀ p, p ∈ L ↔ ∃ e : Nat, p = ((k : Int), (e : Int)) ∧ fit come one k e ∧ bad come one k e := by
  have e1 : ((come.length : Int) + 1 - ((k : Int) + 1)).toNat = come.length - k := by omega
  refine ⟨((List.range (come.length - k)).filter fun j => decide (j + 1 < one.length ∧ at' one (j + 1) < ((come.drop k).take (j + 1)).sum)).map fun (j : Nat) => ((k : Int), (k : Int) + 1 + (j : Int)), ?_, ?_, fun p => ?_⟩
  · have e2 : ∀ j : Nat, ((k : Int) + 1 + (j : Int) - (k : Int)).toNat = j + 1 := fun j => by omega
    have e3 : ∀ j : Nat, ((k : Int) + 1 + (j : Int)).toNat = k + 1 + j := fun j => by omega
    have e4 : ∀ j : Nat, k + 1 + j - k = j + 1 := fun j => by omega
    (simp (config := { implicitDefEqProofs := false }) (disch := first | with_reducible assumption | omega | (simp only [iL_length, List.length_map, List.length_range, List.length_append, List.length_cons, List.length_nil, List.length_take, List.length_drop]; omega)) only [vl, vls, vlo, vlc, getS_z, getS_s, wipeF, bindTg, setAll, List.set_cons_succ, List.set_cons_zero, Option.map_some, Option.bind_some, Option.map_none, Option.bind_none, blOf, intOf, nat_z, ↓reduceIte, if_true, Bool.false_eq_true, if_false, sub_tupI, sub_lstI, bi_sumL, bi_sumT, bi_allM, bi_anyM, bi_lenT, bi_lenL, bi_lenD, bi_lenS, bi_tupL, bi_tupT, bi_lstT, bi_lstL, bi_intI, bi_absI, bi_min2I, bi_max2I, bi_minL, bi_maxL, cutop_tup, cutop_lst, rev_iT, rev_iLs, op_addI, op_subI, op_mulIL, op_mulIR, op_fdivI, op_modI, op_addT, op_addLs, co_eqI, co_neI, co_ltI, co_leI, co_gtI, co_geI, co_isN, co_isntN, co_eqLs, co_neLs, co_eqTs, co_neTs, iter_lst, iter_tup, compG_range, compG_iL, compG_one, compG_if, compR_one, compR_if, compQ_one, compQ_if, compQ_nil, rgV_ok, rgV2_ok, zipV_T, zipV_L, iL_length, map_pvint, map_int0, Int.toNat_natCast, decide_eq_true_eq, zip_iL, compG_rangeMap, cut_to, cut_from, cut_mid, Option.some.injEq, exists_eq_left', Nx_rt, Tu_rt, min_cast, max_cast, max1_cast, toNat_1, toNat_1', toNat_a, toNat_s, toNat_m1, toNat_0, half_cast, co_eqT0, co_neT0, co_eqL0, co_neL0, List.length_cons, List.length_nil,e1, e2, e3, e4, i2d])
    simp only [dite_eq_ite]
    (simp (config := { implicitDefEqProofs := false }) (disch := first | with_reducible assumption | omega | (simp only [iL_length, List.length_map, List.length_range, List.length_append, List.length_cons, List.length_nil, List.length_take, List.length_drop]; omega)) only [vl, vls, vlo, vlc, getS_z, getS_s, wipeF, bindTg, setAll, List.set_cons_succ, List.set_cons_zero, Option.map_some, Option.bind_some, Option.map_none, Option.bind_none, blOf, intOf, nat_z, ↓reduceIte, if_true, Bool.false_eq_true, if_false, sub_tupI, sub_lstI, bi_sumL, bi_sumT, bi_allM, bi_anyM, bi_lenT, bi_lenL, bi_lenD, bi_lenS, bi_tupL, bi_tupT, bi_lstT, bi_lstL, bi_intI, bi_absI, bi_min2I, bi_max2I, bi_minL, bi_maxL, cutop_tup, cutop_lst, rev_iT, rev_iLs, op_addI, op_subI, op_mulIL, op_mulIR, op_fdivI, op_modI, op_addT, op_addLs, co_eqI, co_neI, co_ltI, co_leI, co_gtI, co_geI, co_isN, co_isntN, co_eqLs, co_neLs, co_eqTs, co_neTs, iter_lst, iter_tup, compG_range, compG_iL, compG_one, compG_if, compR_one, compR_if, compQ_one, compQ_if, compQ_nil, rgV_ok, rgV2_ok, zipV_T, zipV_L, iL_length, map_pvint, map_int0, Int.toNat_natCast, decide_eq_true_eq, zip_iL, compG_rangeMap, cut_to, cut_from, cut_mid, Option.some.injEq, exists_eq_left', Nx_rt, Tu_rt, min_cast, max_cast, max1_cast, toNat_1, toNat_1', toNat_a, toNat_s, toNat_m1, toNat_0, half_cast, co_eqT0, co_neT0, co_eqL0, co_neL0, List.length_cons, List.length_nil,ite_sbl, compR_ifI])
    rw [List.map_map]
    congr 2
    apply List.filter_congr
    intro a _
    refine decide_eq_decide.mpr ?_
    by_cases h : a + 1 < one.length
    · rw [if_pos (by omega)]; simp [h]
    · rw [if_neg (by omega)]; simp [h]
  · have := List.length_filter_le (fun j => decide (j + 1 < one.length ∧ at' one (j + 1) < ((come.drop k).take (j + 1)).sum)) (List.range (come.length - k))
    rw [List.length_range] at this
    rw [List.length_map]
    omega
  · simp only [List.mem_map, List.mem_filter, List.mem_range, decide_eq_true_eq]
    constructor
    · rintro ⟨j, ⟨h1, h2, h3⟩, rfl⟩
      refine ⟨k + 1 + j, by congr 1, ⟨by omega, by omega, by omega⟩, ?_⟩
      unfold bad
      rw [show k + 1 + j - k = j + 1 by omega]
      exact h3
    · rintro ⟨e, rfl, ⟨h1, h2, h3⟩, h4⟩
      refine ⟨e - k - 1, ⟨by omega, by omega, ?_⟩, by congr 1; omega⟩
      unfold bad at h4
      rw [show e - k - 1 + 1 = e - k by omega]
      exact h4
end
theorem co_neP0 (L : List (Int × Int)) : cmpop .ne (.lst (L.map pr)) (.lst []) = some (.bl (!L.isEmpty)) := by
  have h := cmpOk_pr L
  unfold cmpOk at h
  simp only [Bool.and_eq_true, decide_eq_true_eq] at h
  have hd := h.1.1.2
  cases L with
  | nil => rfl
  | cons p L =>
    simp only [cmpop, eqOp]
    rw [if_pos]
    · rfl
    · unfold eqOk
      simp only [datOk, hd, Bool.and_eq_true, decide_eq_true_eq]
      refine ⟨⟨trivial, rfl⟩, ?_⟩
      simp only [depth, depthL]
      omega
/-- a thing that is_curve is asked of -/
inductive TO : PV → Prop
  | non : TO .non
  | lst (l : List Int) : TO (.lst (iL l))
  | tup (l : List Int) : l.length ≤ 100 → TO (.tup (iL l))
  | odd (xs : List PV) : (∀ x ∈ xs, smp x = true) → datOkL xs = true → depthL xs ≤ 30 → xs.all isNum = false → TO (.tup xs)
def oddAt (xs ys : List Int) (x : PV) : List PV := iL xs ++ [x] ++ iL ys
theorem datOkL_app : ∀ (a b : List PV), datOkL (a ++ b) = (datOkL a && datOkL b)
  | [], b => by simp [datOkL]
  | x :: a, b => by simp [datOkL, datOkL_app a b, Bool.and_assoc]
theorem depthL_app : ∀ (a b : List PV), depthL (a ++ b) = max (depthL a) (depthL b)
  | [], b => by simp [depthL]
  | x :: a, b => by simp only [List.cons_append, depthL, depthL_app a b]; omega
theorem to_odd {xs ys : List Int} {x : PV} (h1 : smp x = true) (h2 : datOk x = true) (h3 : depth x = 0) (h4 : isNum x = false) : TO (.tup (iL xs ++ [x] ++ iL ys)) := by
  refine .odd _ (fun y hy => ?_) ?_ ?_ ?_
  · simp only [List.mem_append, List.mem_singleton] at hy
    rcases hy with (hy | hy) | hy
    · exact smp_iL y hy
    · rw [hy]; exact h1
    · exact smp_iL y hy
  · simp [datOkL_app, datOk_iL, datOkL, h2]
  · simp [depthL_app, depth_iL, depthL, h3]
  · simp [h4]
theorem to_int {xs ys : List Int} {i : Int} (h : xs.length + ys.length ≤ 99) : TO (.tup (iL xs ++ [.int i] ++ iL ys)) := by
  have e : iL xs ++ [.int i] ++ iL ys = iL (xs ++ [i] ++ ys) := by simp [iL]
  rw [e]
  exact .tup _ (by simp; omega)
theorem co_neT00 {xs : List PV} (h : datOkL xs = true) (h2 : depthL xs ≤ 30) : cmpop .ne (.tup xs) (.tup []) = some (.bl (!xs.isEmpty)) := by
  cases xs with
  | nil => rfl
  | cons p L =>
    simp only [cmpop, eqOp]
    rw [if_pos]
    · rfl
    · unfold eqOk
      simp only [datOk, h, Bool.and_eq_true, decide_eq_true_eq]
      refine ⟨⟨trivial, rfl⟩, ?_⟩
      simp only [depth, depthL]
      omega
theorem co_eqL00 {xs : List PV} (h : datOkL xs = true) (h2 : depthL xs ≤ 30) : cmpop .eq (.lst xs) (.lst []) = some (.bl xs.isEmpty) := by
  cases xs with
  | nil => rfl
  | cons p L =>
    simp only [cmpop, eqOp]
    rw [if_pos]
    · rfl
    · unfold eqOk
      simp only [datOk, h, Bool.and_eq_true, decide_eq_true_eq]
      refine ⟨⟨trivial, rfl⟩, ?_⟩
      simp only [depth, depthL]
      omega
theorem datOkL_filter {p : PV → Bool} : ∀ {xs : List PV}, datOkL xs = true → datOkL (xs.filter p) = true
  | [], _ => rfl
  | x :: xs, h => by
    simp only [datOkL, Bool.and_eq_true] at h
    rw [List.filter_cons]
    split
    · simp [datOkL, h.1, datOkL_filter h.2]
    · exact datOkL_filter h.2
theorem depthL_filter {p : PV → Bool} : ∀ {xs : List PV}, depthL (xs.filter p) ≤ depthL xs
  | [] => Nat.le_refl _
  | x :: xs => by
    have := depthL_filter (p := p) (xs := xs)
    rw [List.filter_cons]
    split
    · simp only [depthL]; omega
    · simp only [depthL]; omega
end K34

set_option linter.all false
set_option Elab.async false
set_option maxRecDepth 20000
namespace K34
open EV
def tb : List Sm := [
    .par [3, 4] [false, false] [(.call 20 [(some 1), none] [(.sl 1), (.int 9)]), (.call 20 [(some 1), none] [(.sl 1), (.int 9)])],
    .asg 5 (.bi .tuple [(.comp (.rg1 (.call 16 [(some 1), none] [(.sl 1), (.int 9)])) (.nm 28) none (.call 16 [(some 1), none] [(.sl 1), (.int 5)]) [28])]),
    .asg 6 (.bi .tuple [(.comp (.rg1 (.bin .add (.bi .len [(.sl 5)]) (.call 16 [(some 1), none] [(.sl 1), (.int 3)]))) (.nm 28) none (.call 16 [(some 1), none] [(.sl 1), (.int 4)]) [28])]),
    .par [7, 8, 9, 10] [false, false, true, true] [(.int 0), (.int 0), (.lst []), (.lst [])],
    .for_ (.nm 11) (.rg1 (.bi .len [(.sl 5)])) [
      .aug 7 .add (.sub (.sl 5) (.sl 11)),
      .asg 12 (.ife (.cmp .lt (.sl 7) (.sub (.sl 6) (.sl 11))) (.sl 7) (.sub (.sl 6) (.sl 11))),
      .par [7, 8] [false, false] [(.bin .sub (.sl 7) (.sl 12)), (.bin .add (.sl 8) (.sl 12))],
      .app 9 (.sl 8),
      .app 10 (.sl 7)],
    .ifs (.or (.cmp .ne (.call 3 [none, none] [(.sl 5), (.sl 6)]) (.bi .tuple [(.sl 9)])) (.cmp .ne (.call 4 [none, none] [(.sl 5), (.sl 6)]) (.bi .tuple [(.sl 10)]))) [
      .ret (.bl false)] [],
    .asg 13 (.bi .min2 [(.bi .len [(.sl 3)]), (.bi .len [(.sl 4)])]),
    .asgM 14 (.lst []),
    .for_ (.nm 15) (.rg1 (.sl 13)) [
      .app 14 (.bi .min [(.comp (.rg1 (.bin .add (.sl 15) (.int 1))) (.nm 28) none (.bin .add (.sub (.sl 3) (.sl 28)) (.sub (.sl 4) (.bin .sub (.sl 15) (.sl 28)))) [28])])],
    .ifs (.cmp .ne (.call 5 [none, none] [(.sl 3), (.sl 4)]) (.bi .tuple [(.sl 14)])) [
      .ret (.bl false)] [],
    .asg 16 (.comp (.rg1 (.sl 13)) (.nm 15) none (.bin .sub (.sub (.sl 3) (.sl 15)) (.sub (.sl 4) (.sl 15))) [15]),
    .ifs (.cmp .ne (.call 6 [none, none] [(.sl 3), (.sl 4)]) (.tup [(.bi .max [(.bin .add (.lst [(.int 0)]) (.sl 16))]), (.meth .index (.sl 16) [(.bi .max [(.sl 16)])])])) [
      .ret (.bl false)] [],
    .asgM 17 (.lst []),
    .for_ (.nm 15) (.rg1 (.bi .len [(.sl 3)])) [
      .asg 18 (.comp (.rg2 (.sl 15) (.bi .len [(.sl 4)])) (.nm 35) (some (.cmp .ge (.sub (.sl 4) (.sl 35)) (.sub (.sl 3) (.sl 15)))) (.sl 35) [35]),
      .app 17 (.ife (.cmp .ne (.sl 18) (.lst [])) (.bin .sub (.sub (.sl 18) (.int 0)) (.sl 15)) .non)],
    .ifs (.cmp .ne (.call 7 [none, none] [(.sl 3), (.sl 4)]) (.ife (.cmp .isin .non (.sl 17)) .non (.bi .max [(.sl 17)]))) [
      .ret (.bl false)] [],
    .ifs (.cmp .ne (.call 8 [none, none] [(.sl 3), (.sl 4)]) (.bi .tuple [(.comp (.rg1 (.sl 13)) (.nm 15) none (.bi .max [(.bin .add (.lst [(.int 0)]) (.cut (.sl 16) none (some (.bin .add (.sl 15) (.int 1)))))]) [15])])) [
      .ret (.bl false)] [],
    .asg 19 (.bin .fdiv (.bin .add (.sl 13) (.int 1)) (.int 2)),
    .ifs (.cmp .ne (.call 9 [none, none] [(.sl 3), (.sl 4)]) (.bi .tuple [(.comp (.rg1 (.sl 19)) (.nm 15) none (.bi .max [(.comp (.rg1 (.sl 19)) (.nm 28) none (.bin .sub (.sub (.sl 3) (.bin .add (.sl 15) (.sl 28))) (.sub (.sl 4) (.sl 28))) [28])]) [15])])) [
      .ret (.bl false)] [],
    .par [20, 21, 22, 15] [false, false, false, false] [(.bin .add (.int 1) (.call 16 [(some 1), none] [(.sl 1), (.int 4)])), (.bin .add (.int 1) (.call 16 [(some 1), none] [(.sl 1), (.int 5)])), (.call 16 [(some 1), none] [(.sl 1), (.int 5)]), (.call 16 [(some 1), none] [(.sl 1), (.int 9)])],
    .asg 23 (.comp (.rg1 (.bin .add (.sl 15) (.int 1))) (.nm 34) none (.bi .sum [(.comp (.rg1 (.sl 34)) (.nm 28) (some (.cmp .lt (.bin .mul (.sl 28) (.sl 21)) (.sl 34))) (.sl 20) [28])]) [34]),
    .ifs (.or (.cmp .ne (.call 10 [none, none, none] [(.sl 20), (.sl 21), (.sl 15)]) (.bi .tuple [(.sl 23)])) (.cmp .ne (.call 11 [none, none, none] [(.sl 22), (.sl 20), (.sl 15)]) (.bi .tuple [(.comp (.rg1 (.bin .add (.sl 15) (.int 1))) (.nm 34) none (.ife (.cmp .gt (.sl 34) (.sl 22)) (.bin .mul (.sl 20) (.bin .sub (.sl 34) (.sl 22))) (.int 0)) [34])]))) [
      .ret (.bl false)] [],
    .asg 24 (.lst []),
    .for_ (.nm 25) (.rg1 (.bi .len [(.sl 5)])) [
      .asg 24 (.bin .add (.sl 24) (.comp (.rg2 (.bin .add (.sl 25) (.int 1)) (.bin .add (.bi .len [(.sl 5)]) (.int 1))) (.nm 37) (some (.and (.cmp .lt (.bin .sub (.sl 37) (.sl 25)) (.bi .len [(.sl 3)])) (.cmp .gt (.bi .sum [(.cut (.sl 5) (some (.sl 25)) (some (.sl 37)))]) (.sub (.sl 3) (.bin .sub (.sl 37) (.sl 25)))))) (.tup [(.sl 25), (.sl 37)]) [37]))],
    .ifs (.cmp .ne (.call 12 [none, none] [(.sl 5), (.sl 3)]) (.ife (.cmp .ne (.sl 24) (.lst [])) (.bi .min [(.sl 24)]) .non)) [
      .ret (.bl false)] [],
    .asg 26 (.call 13 [none, none] [(.sl 5), (.sl 15)]),
    .asg 27 (.comp (.rg1 (.bin .add (.sl 15) (.int 1))) (.nm 34) none (.bi .max [(.bin .add (.lst [(.int 0)]) (.comp (.rg1 (.bi .len [(.sl 5)])) (.nm 25) none (.bi .sum [(.cut (.sl 5) (some (.sl 25)) (some (.bin .add (.sl 25) (.sl 34))))]) [25]))]) [34]),
    .ifs (.or (.cmp .ne (.sl 26) (.bi .tuple [(.sl 27)])) (.cmp .isnt (.call 12 [none, none] [(.sl 5), (.sl 26)]) .non)) [
      .ret (.bl false)] [],
    .ifs (.not (.call 19 [none, none] [(.call 14 [none, none] [(.sl 3), (.sl 4)]), (.cmp .eq (.comp (.sl 16) (.nm 21) (some (.cmp .gt (.sl 21) (.int 0))) (.sl 21) [21]) (.lst []))])) [
      .ret (.bl false)] [],
    .asg 28 (.call 16 [(some 1), none] [(.sl 1), (.bi .len [(.sl 3)])]),
    .par [29, 30] [false, false] [(.cut (.sl 3) none (some (.sl 28))), (.cut (.sl 3) (some (.bin .add (.sl 28) (.int 1))) none)],
    .asg 31 (.bin .add (.lst [(.sl 3), (.rev (.sl 3)), (.bi .list [(.sl 3)]), .non, (.tup []), (.tup [(.int 0)]), (.tup [(.bl false)])]) (.comp (.tup [(.neg (.int 1)), (.bl true), (.int 99), (.str [97])]) (.nm 36) none (.bin .add (.bin .add (.sl 29) (.tup [(.sl 36)])) (.sl 30)) [36])),
    .for_ (.nm 32) (.sl 31) [
      .asg 33 (.and (.isi .tuple (.sl 32)) (.and (.cmp .ne (.sl 32) (.tup [])) (.cmp .eq (.comp (.sl 32) (.nm 34) (some (.not (.call 18 [none] [(.sl 34)]))) (.sl 34) [34]) (.lst [])))),
      .ifs (.not (.call 19 [none, none] [(.call 2 [none] [(.sl 32)]), (.and (.sl 33) (.and (.cmp .ge (.sub (.sl 32) (.int 0)) (.int 0)) (.cmp .eq (.bi .list [(.sl 32)]) (.bi .sorted [(.sl 32)]))))])) [
        .ret (.bl false)] []]]
theorem b_law_eq : b_law = [.asgM 1 (.dct [(.str [100, 114, 97, 119, 115]), (.call 15 [none, none] [(.sl 0), (.int 300)]), (.str [97, 116]), (.int 0)]), .for_ (.nm 2) (.rg1 (.int 4)) tb, .ret (.bl true)] := rfl
/-- what the calls of the law give -/
structure LH (C : Calls) : Prop where
  nx : NextOk C 16
  cv : ∀ (ds : List Int) (n : Nat), ∃ (l : List Int) (n' : Nat), Crv l 9 ∧ C 20 [wd ds n, .int 9] = some (.tup (iL l), [some (wd ds n')])
  h3 : ∀ come rates : List Int, come.length ≤ rates.length → come.length ≤ 1000 → C 3 [.tup (iL come), .tup (iL rates)] = some (.tup (iL (donL come rates come.length)), [])
  h4 : ∀ come rates : List Int, come.length ≤ rates.length → come.length ≤ 1000 → C 4 [.tup (iL come), .tup (iL rates)] = some (.tup (iL (lefL come rates come.length)), [])
  h5 : ∀ one other : List Int, one.length ≤ 1000 → other.length ≤ 1000 → C 5 [.tup (iL one), .tup (iL other)] = some (.tup (iL ((List.range (min one.length other.length)).map (beh one other))), [])
  h6 : ∀ one other : List Int, one.length ≤ 1000 → other.length ≤ 1000 → 0 < one.length → 0 < other.length → C 6 [.tup (iL one), .tup (iL other)] = some (.tup [.int (max 0 (gp one other (amx one other (min one.length other.length - 1)))), .int ((amx one other (min one.length other.length - 1) : Nat) : Int)], [])
  h7 : ∀ one other : List Int, one.length ≤ 1000 → other.length ≤ 1000 → ∃ v, C 7 [.tup (iL one), .tup (iL other)] = some (v, []) ∧ ((v = .non ∧ ∃ s, s < one.length ∧ fl one other s = []) ∨ (v = .int (bst one other one.length) ∧ ∀ s, s < one.length → fl one other s ≠ []))
  h8 : ∀ one other : List Int, one.length ≤ 1000 → other.length ≤ 1000 → C 8 [.tup (iL one), .tup (iL other)] = some (.tup (iL (boL one other (min one.length other.length))), [])
  h9 : ∀ one other : List Int, one.length ≤ 1000 → other.length ≤ 1000 → 0 < one.length → 0 < other.length → C 9 [.tup (iL one), .tup (iL other)] = some (.tup (iL ((List.range ((min one.length other.length + 1) / 2)).map (aft one other))), [])
  h10 : ∀ (burst gap : Int) (s : Nat), 0 ≤ burst → burst ≤ 1000 → 0 < gap → gap ≤ 1000 → s ≤ 1000 → C 10 [.int burst, .int gap, .int s] = some (.tup (iL ((List.range (s + 1)).map fun (n : Nat) => burst * -(-(n : Int) / gap))), [])
  h11 : ∀ (wait rate : Int) (s : Nat), 0 ≤ rate → rate ≤ 1000 → s ≤ 1000 → C 11 [.int wait, .int rate, .int s] = some (.tup (iL ((List.range (s + 1)).map fun (n : Nat) => max 0 ((n : Int) - wait) * rate)), [])
  h12 : ∀ come one : List Int, come.length ≤ 1000 → one.length ≤ 1000 → 0 < one.length → ∃ v, C 12 [.tup (iL come), .tup (iL one)] = some (v, []) ∧
    ((v = .non ∧ ∀ b e, fit come one b e → ¬ bad come one b e) ∨ (∃ b e : Nat, v = .tup [.int b, .int e] ∧ fit come one b e ∧ bad come one b e ∧ ∀ b' e', fit come one b' e' → bad come one b' e' → b < b' ∨ b = b' ∧ e ≤ e'))
  h13 : ∀ (come : List Int) (s : Nat), come.length ≤ 1000 → s ≤ 1000 → C 13 [.tup (iL come), .int s] = some (.tup (iL (nrwL come s)), [])
  h14 : ∀ one other : List Int, one.length ≤ 1000 → other.length ≤ 1000 → C 14 [.tup (iL one), .tup (iL other)] = some (.bl ((List.range (min one.length other.length)).all fun k => decide (at' one k ≤ at' other k)), [])
  h18 : ∀ v, smp v = true → C 18 [v] = some (.bl (isNum v), [])
  h19 : ∀ s t : Bool, C 19 [.bl s, .bl t] = some (.bl (s == t), [])
  h2 : ∀ l : List Int, l.length ≤ 1000 → C 2 [.tup (iL l)] = some (.bl (curveB l), [])
  h2n : ∀ v, smp v = true → (∀ xs, v ≠ .tup xs) → C 2 [v] = some (.bl false, [])
  h2b : ∀ xs : List PV, (∀ x ∈ xs, smp x = true) → xs.all isNum = false → C 2 [.tup xs] = some (.bl false, [])
def IFr (ns ds : List Int) (fr : Fr) : Prop := ∃ (n : Nat) (a2 a3 a4 a5 a6 a7 a8 a9 a10 a11 a12 a13 a14 a15 a16 a17 a18 a19 a20 a21 a22 a23 a24 a25 a26 a27 a28 a29 a30 a31 a32 a33 a34 a35 a36 a37 : Option PV), fr = [some (.scr ns), some (wd ds n), a2, a3, a4, a5, a6, a7, a8, a9, a10, a11, a12, a13, a14, a15, a16, a17, a18, a19, a20, a21, a22, a23, a24, a25, a26, a27, a28, a29, a30, a31, a32, a33, a34, a35, a36, a37]
def restS : List Sm := [.ret (.bl true)]
set_option maxHeartbeats 0 in
theorem turn {C : Calls} (H : LH C) {ns ds : List Int} {Q : Fl → Fr → Prop} {rest : List Sm} (n : Nat) (a2 a3 a4 a5 a6 a7 a8 a9 a10 a11 a12 a13 a14 a15 a16 a17 a18 a19 a20 a21 a22 a23 a24 a25 a26 a27 a28 a29 a30 a31 a32 a33 a34 a35 a36 a37 : Option PV) :
    W C tb [some (.scr ns), some (wd ds n), a2, a3, a4, a5, a6, a7, a8, a9, a10, a11, a12, a13, a14, a15, a16, a17, a18, a19, a20, a21, a22, a23, a24, a25, a26, a27, a28, a29, a30, a31, a32, a33, a34, a35, a36, a37] (Tu (IFr ns ds) C rest Q) := by
  unfold tb
  obtain ⟨one, n1, c1, e1⟩ := H.cv ds n
  obtain ⟨other, n2, c2, e2⟩ := H.cv ds n1
  refine w_parE (ves_cons (ve_call (ves_cons (ve_pure rfl ⟨wd ds n, rfl, ves_cons (ve_pure rfl ⟨.int 9, rfl, ves_nil ⟨[wd ds n, .int 9], rfl, _, _, e1, ?_⟩⟩)⟩))))
  refine ves_cons (ve_call (ves_cons (ve_pure rfl ⟨wd ds n1, rfl, ves_cons (ve_pure rfl ⟨.int 9, rfl, ves_nil ⟨[wd ds n1, .int 9], rfl, _, _, e2, ?_⟩⟩)⟩)))
  refine ves_nil ⟨rfl, ?_⟩
  have l1 := c1.len
  have l2 := c2.len
  have p1 := c1.pos
  have p2 := c2.pos
  show W C _ [some (.scr ns), some (wd ds n2), a2, some (.tup (iL one)), some (.tup (iL other)), a5, a6, a7, a8, a9, a10, a11, a12, a13, a14, a15, a16, a17, a18, a19, a20, a21, a22, a23, a24, a25, a26, a27, a28, a29, a30, a31, a32, a33, a34, a35, a36, a37] _
  clear e1 e2
  -- come
  refine w_asgE (ve_bi (ves_cons (ve_drawn (l := ds) H.nx (by decide) (by decide) (by decide) (ve_rg1 (ve_next (m := 9) H.nx rfl rfl rfl (by decide) fun r h0 h1 => ⟨r, rfl, rg_ok (by omega) (by omega), r.toNat, n2 + 1, rfl, rfl, fun come n3 hl hc => ?_⟩)))))
  refine ves_nil ⟨_, bi_tupL _, ?_⟩
  have hcl : come.length ≤ 8 := by omega
  clear h0 h1 hl r
  show W C _ [some (.scr ns), some (wd ds n3), a2, some (.tup (iL one)), some (.tup (iL other)), some (.tup (iL come)), a6, a7, a8, a9, a10, a11, a12, a13, a14, a15, a16, a17, a18, a19, a20, a21, a22, a23, a24, a25, a26, a27, a28, a29, a30, a31, a32, a33, a34, a35, a36, a37] _
  -- rates
  refine w_asgE (ve_bi (ves_cons (ve_drawn (l := ds) H.nx (by decide) (by decide) (by decide) (ve_rg1 (ve_bin (ve_pure rfl ⟨.int come.length, by (simp (config := { implicitDefEqProofs := false }) (disch := first | with_reducible assumption | omega | (simp only [iL_length, List.length_map, List.length_range, List.length_append, List.length_cons, List.length_nil, List.length_take, List.length_drop]; omega)) only [vl, vls, vlo, vlc, getS_z, getS_s, wipeF, bindTg, setAll, List.set_cons_succ, List.set_cons_zero, Option.map_some, Option.bind_some, Option.map_none, Option.bind_none, blOf, intOf, nat_z, ↓reduceIte, if_true, Bool.false_eq_true, if_false, sub_tupI, sub_lstI, bi_sumL, bi_sumT, bi_allM, bi_anyM, bi_lenT, bi_lenL, bi_lenD, bi_lenS, bi_tupL, bi_tupT, bi_lstT, bi_lstL, bi_intI, bi_absI, bi_min2I, bi_max2I, bi_minL, bi_maxL, cutop_tup, cutop_lst, rev_iT, rev_iLs, op_addI, op_subI, op_mulIL, op_mulIR, op_fdivI, op_modI, op_addT, op_addLs, co_eqI, co_neI, co_ltI, co_leI, co_gtI, co_geI, co_isN, co_isntN, co_eqLs, co_neLs, co_eqTs, co_neTs, iter_lst, iter_tup, compG_range, compG_iL, compG_one, compG_if, compR_one, compR_if, compQ_one, compQ_if, compQ_nil, rgV_ok, rgV2_ok, zipV_T, zipV_L, iL_length, map_pvint, map_int0, Int.toNat_natCast, decide_eq_true_eq, zip_iL, compG_rangeMap, cut_to, cut_from, cut_mid, Option.some.injEq, exists_eq_left', Nx_rt, Tu_rt, min_cast, max_cast, max1_cast, toNat_1, toNat_1', toNat_a, toNat_s, toNat_m1, toNat_0, half_cast, co_eqT0, co_neT0, co_eqL0, co_neL0, List.length_cons, List.length_nil]), ve_next (m := 3) H.nx rfl rfl rfl (by decide) fun r h0 h1 => ⟨_, rfl, come.length + r, rfl, rg_ok (by omega) (by omega), ((come.length : Int) + r).toNat, n3 + 1, rfl, rfl, fun rates n4 hl hr => ?_⟩⟩))))))
  refine ves_nil ⟨_, bi_tupL _, ?_⟩
  have hrl : come.length ≤ rates.length := by omega
  have hrl2 : rates.length ≤ 20 := by omega
  clear h0 h1 hl r hr
  show W C _ [some (.scr ns), some (wd ds n4), a2, some (.tup (iL one)), some (.tup (iL other)), some (.tup (iL come)), some (.tup (iL rates)), a7, a8, a9, a10, a11, a12, a13, a14, a15, a16, a17, a18, a19, a20, a21, a22, a23, a24, a25, a26, a27, a28, a29, a30, a31, a32, a33, a34, a35, a36, a37] _
  -- served, backlogs
  ((first | (refine w_asg ?_ ?_; exact rfl) | (refine w_asgM ?_ ?_; exact rfl) | (refine w_par ?_ ?_; exact rfl) | (refine w_unp ?_ ?_; exact rfl) | (refine w_aug ?_ ?_; exact rfl) | (refine w_app ?_ ?_; exact rfl) | (refine w_setix ?_ ?_ ?_; exact rfl; exact rfl) | (refine w_ret ?_ ?_; exact rfl) | refine w_retM ?_ | refine w_pass ?_ | refine w_cnt ?_ | refine w_brk ?_ | (refine w_if ?_ ?_; exact rfl) | refine w_nil ?_))
  (simp (config := { implicitDefEqProofs := false }) (disch := first | with_reducible assumption | omega | (simp only [iL_length, List.length_map, List.length_range, List.length_append, List.length_cons, List.length_nil, List.length_take, List.length_drop]; omega)) only [vl, vls, vlo, vlc, getS_z, getS_s, wipeF, bindTg, setAll, List.set_cons_succ, List.set_cons_zero, Option.map_some, Option.bind_some, Option.map_none, Option.bind_none, blOf, intOf, nat_z, ↓reduceIte, if_true, Bool.false_eq_true, if_false, sub_tupI, sub_lstI, bi_sumL, bi_sumT, bi_allM, bi_anyM, bi_lenT, bi_lenL, bi_lenD, bi_lenS, bi_tupL, bi_tupT, bi_lstT, bi_lstL, bi_intI, bi_absI, bi_min2I, bi_max2I, bi_minL, bi_maxL, cutop_tup, cutop_lst, rev_iT, rev_iLs, op_addI, op_subI, op_mulIL, op_mulIR, op_fdivI, op_modI, op_addT, op_addLs, co_eqI, co_neI, co_ltI, co_leI, co_gtI, co_geI, co_isN, co_isntN, co_eqLs, co_neLs, co_eqTs, co_neTs, iter_lst, iter_tup, compG_range, compG_iL, compG_one, compG_if, compR_one, compR_if, compQ_one, compQ_if, compQ_nil, rgV_ok, rgV2_ok, zipV_T, zipV_L, iL_length, map_pvint, map_int0, Int.toNat_natCast, decide_eq_true_eq, zip_iL, compG_rangeMap, cut_to, cut_from, cut_mid, Option.some.injEq, exists_eq_left', Nx_rt, Tu_rt, min_cast, max_cast, max1_cast, toNat_1, toNat_1', toNat_a, toNat_s, toNat_m1, toNat_0, half_cast, co_eqT0, co_neT0, co_eqL0, co_neL0, List.length_cons, List.length_nil,Option.some.injEq, exists_eq_left', app_lst, aug_addI, aug_subI, iL_snoc, List.length_append, List.length_cons, List.length_nil, PV.tup.injEq, PV.bl.injEq, List.map_cons, List.map_nil, List.cons_append, List.nil_append, isMut, parChk, Bool.not_true, Bool.not_false, Bool.or_true, Bool.true_or, Bool.false_or, Bool.true_and, true_and])
  refine w_rg (I := fun k fr => ∃ b c, fr = [some (.scr ns), some (wd ds n4), a2, some (.tup (iL one)), some (.tup (iL other)), some (.tup (iL come)), some (.tup (iL rates)), some (.int (lef come rates k)), some (.int (don come rates k)), some (.lst (iL (donL come rates k))), some (.lst (iL (lefL come rates k))), b, c, a13, a14, a15, a16, a17, a18, a19, a20, a21, a22, a23, a24, a25, a26, a27, a28, a29, a30, a31, a32, a33, a34, a35, a36, a37]) come.length rfl (by (simp (config := { implicitDefEqProofs := false }) (disch := first | with_reducible assumption | omega | (simp only [iL_length, List.length_map, List.length_range, List.length_append, List.length_cons, List.length_nil, List.length_take, List.length_drop]; omega)) only [vl, vls, vlo, vlc, getS_z, getS_s, wipeF, bindTg, setAll, List.set_cons_succ, List.set_cons_zero, Option.map_some, Option.bind_some, Option.map_none, Option.bind_none, blOf, intOf, nat_z, ↓reduceIte, if_true, Bool.false_eq_true, if_false, sub_tupI, sub_lstI, bi_sumL, bi_sumT, bi_allM, bi_anyM, bi_lenT, bi_lenL, bi_lenD, bi_lenS, bi_tupL, bi_tupT, bi_lstT, bi_lstL, bi_intI, bi_absI, bi_min2I, bi_max2I, bi_minL, bi_maxL, cutop_tup, cutop_lst, rev_iT, rev_iLs, op_addI, op_subI, op_mulIL, op_mulIR, op_fdivI, op_modI, op_addT, op_addLs, co_eqI, co_neI, co_ltI, co_leI, co_gtI, co_geI, co_isN, co_isntN, co_eqLs, co_neLs, co_eqTs, co_neTs, iter_lst, iter_tup, compG_range, compG_iL, compG_one, compG_if, compR_one, compR_if, compQ_one, compQ_if, compQ_nil, rgV_ok, rgV2_ok, zipV_T, zipV_L, iL_length, map_pvint, map_int0, Int.toNat_natCast, decide_eq_true_eq, zip_iL, compG_rangeMap, cut_to, cut_from, cut_mid, Option.some.injEq, exists_eq_left', Nx_rt, Tu_rt, min_cast, max_cast, max1_cast, toNat_1, toNat_1', toNat_a, toNat_s, toNat_m1, toNat_0, half_cast, co_eqT0, co_neT0, co_eqL0, co_neL0, List.length_cons, List.length_nil])) ⟨_, _, rfl⟩ ?_ ?_
  · rintro k _ hk ⟨b, c, rfl⟩
    have q1 := donL_len come rates k
    have q2 := lefL_len come rates k
    refine ⟨_, rfl, ?_⟩
    have m1 : (if lef come rates k + at' come k < at' rates k then lef come rates k + at' come k else at' rates k) = min (lef come rates k + at' come k) (at' rates k) := by
      split <;> omega
    ((first | (refine w_asg ?_ ?_; exact rfl) | (refine w_asgM ?_ ?_; exact rfl) | (refine w_par ?_ ?_; exact rfl) | (refine w_unp ?_ ?_; exact rfl) | (refine w_aug ?_ ?_; exact rfl) | (refine w_app ?_ ?_; exact rfl) | (refine w_setix ?_ ?_ ?_; exact rfl; exact rfl) | (refine w_ret ?_ ?_; exact rfl) | refine w_retM ?_ | refine w_pass ?_ | refine w_cnt ?_ | refine w_brk ?_ | (refine w_if ?_ ?_; exact rfl) | refine w_nil ?_))
    (simp (config := { implicitDefEqProofs := false }) (disch := first | with_reducible assumption | omega | (simp only [iL_length, List.length_map, List.length_range, List.length_append, List.length_cons, List.length_nil, List.length_take, List.length_drop]; omega)) only [vl, vls, vlo, vlc, getS_z, getS_s, wipeF, bindTg, setAll, List.set_cons_succ, List.set_cons_zero, Option.map_some, Option.bind_some, Option.map_none, Option.bind_none, blOf, intOf, nat_z, ↓reduceIte, if_true, Bool.false_eq_true, if_false, sub_tupI, sub_lstI, bi_sumL, bi_sumT, bi_allM, bi_anyM, bi_lenT, bi_lenL, bi_lenD, bi_lenS, bi_tupL, bi_tupT, bi_lstT, bi_lstL, bi_intI, bi_absI, bi_min2I, bi_max2I, bi_minL, bi_maxL, cutop_tup, cutop_lst, rev_iT, rev_iLs, op_addI, op_subI, op_mulIL, op_mulIR, op_fdivI, op_modI, op_addT, op_addLs, co_eqI, co_neI, co_ltI, co_leI, co_gtI, co_geI, co_isN, co_isntN, co_eqLs, co_neLs, co_eqTs, co_neTs, iter_lst, iter_tup, compG_range, compG_iL, compG_one, compG_if, compR_one, compR_if, compQ_one, compQ_if, compQ_nil, rgV_ok, rgV2_ok, zipV_T, zipV_L, iL_length, map_pvint, map_int0, Int.toNat_natCast, decide_eq_true_eq, zip_iL, compG_rangeMap, cut_to, cut_from, cut_mid, Option.some.injEq, exists_eq_left', Nx_rt, Tu_rt, min_cast, max_cast, max1_cast, toNat_1, toNat_1', toNat_a, toNat_s, toNat_m1, toNat_0, half_cast, co_eqT0, co_neT0, co_eqL0, co_neL0, List.length_cons, List.length_nil,Option.some.injEq, exists_eq_left', app_lst, aug_addI, aug_subI, iL_snoc, List.length_append, List.length_cons, List.length_nil, PV.tup.injEq, PV.bl.injEq, List.map_cons, List.map_nil, List.cons_append, List.nil_append, isMut, parChk, Bool.not_true, Bool.not_false, Bool.or_true, Bool.true_or, Bool.false_or, Bool.true_and, true_and])
    ((first | (refine w_asg ?_ ?_; exact rfl) | (refine w_asgM ?_ ?_; exact rfl) | (refine w_par ?_ ?_; exact rfl) | (refine w_unp ?_ ?_; exact rfl) | (refine w_aug ?_ ?_; exact rfl) | (refine w_app ?_ ?_; exact rfl) | (refine w_setix ?_ ?_ ?_; exact rfl; exact rfl) | (refine w_ret ?_ ?_; exact rfl) | refine w_retM ?_ | refine w_pass ?_ | refine w_cnt ?_ | refine w_brk ?_ | (refine w_if ?_ ?_; exact rfl) | refine w_nil ?_))
    (simp (config := { implicitDefEqProofs := false }) (disch := first | with_reducible assumption | omega | (simp only [iL_length, List.length_map, List.length_range, List.length_append, List.length_cons, List.length_nil, List.length_take, List.length_drop]; omega)) only [vl, vls, vlo, vlc, getS_z, getS_s, wipeF, bindTg, setAll, List.set_cons_succ, List.set_cons_zero, Option.map_some, Option.bind_some, Option.map_none, Option.bind_none, blOf, intOf, nat_z, ↓reduceIte, if_true, Bool.false_eq_true, if_false, sub_tupI, sub_lstI, bi_sumL, bi_sumT, bi_allM, bi_anyM, bi_lenT, bi_lenL, bi_lenD, bi_lenS, bi_tupL, bi_tupT, bi_lstT, bi_lstL, bi_intI, bi_absI, bi_min2I, bi_max2I, bi_minL, bi_maxL, cutop_tup, cutop_lst, rev_iT, rev_iLs, op_addI, op_subI, op_mulIL, op_mulIR, op_fdivI, op_modI, op_addT, op_addLs, co_eqI, co_neI, co_ltI, co_leI, co_gtI, co_geI, co_isN, co_isntN, co_eqLs, co_neLs, co_eqTs, co_neTs, iter_lst, iter_tup, compG_range, compG_iL, compG_one, compG_if, compR_one, compR_if, compQ_one, compQ_if, compQ_nil, rgV_ok, rgV2_ok, zipV_T, zipV_L, iL_length, map_pvint, map_int0, Int.toNat_natCast, decide_eq_true_eq, zip_iL, compG_rangeMap, cut_to, cut_from, cut_mid, Option.some.injEq, exists_eq_left', Nx_rt, Tu_rt, min_cast, max_cast, max1_cast, toNat_1, toNat_1', toNat_a, toNat_s, toNat_m1, toNat_0, half_cast, co_eqT0, co_neT0, co_eqL0, co_neL0, List.length_cons, List.length_nil,ite_some, ite_int, m1])
    ((first | (refine w_asg ?_ ?_; exact rfl) | (refine w_asgM ?_ ?_; exact rfl) | (refine w_par ?_ ?_; exact rfl) | (refine w_unp ?_ ?_; exact rfl) | (refine w_aug ?_ ?_; exact rfl) | (refine w_app ?_ ?_; exact rfl) | (refine w_setix ?_ ?_ ?_; exact rfl; exact rfl) | (refine w_ret ?_ ?_; exact rfl) | refine w_retM ?_ | refine w_pass ?_ | refine w_cnt ?_ | refine w_brk ?_ | (refine w_if ?_ ?_; exact rfl) | refine w_nil ?_))
    (simp (config := { implicitDefEqProofs := false }) (disch := first | with_reducible assumption | omega | (simp only [iL_length, List.length_map, List.length_range, List.length_append, List.length_cons, List.length_nil, List.length_take, List.length_drop]; omega)) only [vl, vls, vlo, vlc, getS_z, getS_s, wipeF, bindTg, setAll, List.set_cons_succ, List.set_cons_zero, Option.map_some, Option.bind_some, Option.map_none, Option.bind_none, blOf, intOf, nat_z, ↓reduceIte, if_true, Bool.false_eq_true, if_false, sub_tupI, sub_lstI, bi_sumL, bi_sumT, bi_allM, bi_anyM, bi_lenT, bi_lenL, bi_lenD, bi_lenS, bi_tupL, bi_tupT, bi_lstT, bi_lstL, bi_intI, bi_absI, bi_min2I, bi_max2I, bi_minL, bi_maxL, cutop_tup, cutop_lst, rev_iT, rev_iLs, op_addI, op_subI, op_mulIL, op_mulIR, op_fdivI, op_modI, op_addT, op_addLs, co_eqI, co_neI, co_ltI, co_leI, co_gtI, co_geI, co_isN, co_isntN, co_eqLs, co_neLs, co_eqTs, co_neTs, iter_lst, iter_tup, compG_range, compG_iL, compG_one, compG_if, compR_one, compR_if, compQ_one, compQ_if, compQ_nil, rgV_ok, rgV2_ok, zipV_T, zipV_L, iL_length, map_pvint, map_int0, Int.toNat_natCast, decide_eq_true_eq, zip_iL, compG_rangeMap, cut_to, cut_from, cut_mid, Option.some.injEq, exists_eq_left', Nx_rt, Tu_rt, min_cast, max_cast, max1_cast, toNat_1, toNat_1', toNat_a, toNat_s, toNat_m1, toNat_0, half_cast, co_eqT0, co_neT0, co_eqL0, co_neL0, List.length_cons, List.length_nil,Option.some.injEq, exists_eq_left', app_lst, aug_addI, aug_subI, iL_snoc, List.length_append, List.length_cons, List.length_nil, PV.tup.injEq, PV.bl.injEq, List.map_cons, List.map_nil, List.cons_append, List.nil_append, isMut, parChk, Bool.not_true, Bool.not_false, Bool.or_true, Bool.true_or, Bool.false_or, Bool.true_and, true_and])
    ((first | (refine w_asg ?_ ?_; exact rfl) | (refine w_asgM ?_ ?_; exact rfl) | (refine w_par ?_ ?_; exact rfl) | (refine w_unp ?_ ?_; exact rfl) | (refine w_aug ?_ ?_; exact rfl) | (refine w_app ?_ ?_; exact rfl) | (refine w_setix ?_ ?_ ?_; exact rfl; exact rfl) | (refine w_ret ?_ ?_; exact rfl) | refine w_retM ?_ | refine w_pass ?_ | refine w_cnt ?_ | refine w_brk ?_ | (refine w_if ?_ ?_; exact rfl) | refine w_nil ?_))
    (simp (config := { implicitDefEqProofs := false }) (disch := first | with_reducible assumption | omega | (simp only [iL_length, List.length_map, List.length_range, List.length_append, List.length_cons, List.length_nil, List.length_take, List.length_drop]; omega)) only [vl, vls, vlo, vlc, getS_z, getS_s, wipeF, bindTg, setAll, List.set_cons_succ, List.set_cons_zero, Option.map_some, Option.bind_some, Option.map_none, Option.bind_none, blOf, intOf, nat_z, ↓reduceIte, if_true, Bool.false_eq_true, if_false, sub_tupI, sub_lstI, bi_sumL, bi_sumT, bi_allM, bi_anyM, bi_lenT, bi_lenL, bi_lenD, bi_lenS, bi_tupL, bi_tupT, bi_lstT, bi_lstL, bi_intI, bi_absI, bi_min2I, bi_max2I, bi_minL, bi_maxL, cutop_tup, cutop_lst, rev_iT, rev_iLs, op_addI, op_subI, op_mulIL, op_mulIR, op_fdivI, op_modI, op_addT, op_addLs, co_eqI, co_neI, co_ltI, co_leI, co_gtI, co_geI, co_isN, co_isntN, co_eqLs, co_neLs, co_eqTs, co_neTs, iter_lst, iter_tup, compG_range, compG_iL, compG_one, compG_if, compR_one, compR_if, compQ_one, compQ_if, compQ_nil, rgV_ok, rgV2_ok, zipV_T, zipV_L, iL_length, map_pvint, map_int0, Int.toNat_natCast, decide_eq_true_eq, zip_iL, compG_rangeMap, cut_to, cut_from, cut_mid, Option.some.injEq, exists_eq_left', Nx_rt, Tu_rt, min_cast, max_cast, max1_cast, toNat_1, toNat_1', toNat_a, toNat_s, toNat_m1, toNat_0, half_cast, co_eqT0, co_neT0, co_eqL0, co_neL0, List.length_cons, List.length_nil,Option.some.injEq, exists_eq_left', app_lst, aug_addI, aug_subI, iL_snoc, List.length_append, List.length_cons, List.length_nil, PV.tup.injEq, PV.bl.injEq, List.map_cons, List.map_nil, List.cons_append, List.nil_append, isMut, parChk, Bool.not_true, Bool.not_false, Bool.or_true, Bool.true_or, Bool.false_or, Bool.true_and, true_and])
    ((first | (refine w_asg ?_ ?_; exact rfl) | (refine w_asgM ?_ ?_; exact rfl) | (refine w_par ?_ ?_; exact rfl) | (refine w_unp ?_ ?_; exact rfl) | (refine w_aug ?_ ?_; exact rfl) | (refine w_app ?_ ?_; exact rfl) | (refine w_setix ?_ ?_ ?_; exact rfl; exact rfl) | (refine w_ret ?_ ?_; exact rfl) | refine w_retM ?_ | refine w_pass ?_ | refine w_cnt ?_ | refine w_brk ?_ | (refine w_if ?_ ?_; exact rfl) | refine w_nil ?_))
    (simp (config := { implicitDefEqProofs := false }) (disch := first | with_reducible assumption | omega | (simp only [iL_length, List.length_map, List.length_range, List.length_append, List.length_cons, List.length_nil, List.length_take, List.length_drop]; omega)) only [vl, vls, vlo, vlc, getS_z, getS_s, wipeF, bindTg, setAll, List.set_cons_succ, List.set_cons_zero, Option.map_some, Option.bind_some, Option.map_none, Option.bind_none, blOf, intOf, nat_z, ↓reduceIte, if_true, Bool.false_eq_true, if_false, sub_tupI, sub_lstI, bi_sumL, bi_sumT, bi_allM, bi_anyM, bi_lenT, bi_lenL, bi_lenD, bi_lenS, bi_tupL, bi_tupT, bi_lstT, bi_lstL, bi_intI, bi_absI, bi_min2I, bi_max2I, bi_minL, bi_maxL, cutop_tup, cutop_lst, rev_iT, rev_iLs, op_addI, op_subI, op_mulIL, op_mulIR, op_fdivI, op_modI, op_addT, op_addLs, co_eqI, co_neI, co_ltI, co_leI, co_gtI, co_geI, co_isN, co_isntN, co_eqLs, co_neLs, co_eqTs, co_neTs, iter_lst, iter_tup, compG_range, compG_iL, compG_one, compG_if, compR_one, compR_if, compQ_one, compQ_if, compQ_nil, rgV_ok, rgV2_ok, zipV_T, zipV_L, iL_length, map_pvint, map_int0, Int.toNat_natCast, decide_eq_true_eq, zip_iL, compG_rangeMap, cut_to, cut_from, cut_mid, Option.some.injEq, exists_eq_left', Nx_rt, Tu_rt, min_cast, max_cast, max1_cast, toNat_1, toNat_1', toNat_a, toNat_s, toNat_m1, toNat_0, half_cast, co_eqT0, co_neT0, co_eqL0, co_neL0, List.length_cons, List.length_nil,Option.some.injEq, exists_eq_left', app_lst, aug_addI, aug_subI, iL_snoc, List.length_append, List.length_cons, List.length_nil, PV.tup.injEq, PV.bl.injEq, List.map_cons, List.map_nil, List.cons_append, List.nil_append, isMut, parChk, Bool.not_true, Bool.not_false, Bool.or_true, Bool.true_or, Bool.false_or, Bool.true_and, true_and])
    exact w_nil ⟨_, _, by rw [donL_s, lefL_s]; rfl⟩
  rintro _ ⟨b, c, rfl⟩
  have q3 := H.h3 come rates hrl (by omega)
  have q4 := H.h4 come rates hrl (by omega)
  refine w_ifF rfl (by (simp (config := { implicitDefEqProofs := false }) (disch := first | with_reducible assumption | omega | (simp only [iL_length, List.length_map, List.length_range, List.length_append, List.length_cons, List.length_nil, List.length_take, List.length_drop]; omega)) only [vl, vls, vlo, vlc, getS_z, getS_s, wipeF, bindTg, setAll, List.set_cons_succ, List.set_cons_zero, Option.map_some, Option.bind_some, Option.map_none, Option.bind_none, blOf, intOf, nat_z, ↓reduceIte, if_true, Bool.false_eq_true, if_false, sub_tupI, sub_lstI, bi_sumL, bi_sumT, bi_allM, bi_anyM, bi_lenT, bi_lenL, bi_lenD, bi_lenS, bi_tupL, bi_tupT, bi_lstT, bi_lstL, bi_intI, bi_absI, bi_min2I, bi_max2I, bi_minL, bi_maxL, cutop_tup, cutop_lst, rev_iT, rev_iLs, op_addI, op_subI, op_mulIL, op_mulIR, op_fdivI, op_modI, op_addT, op_addLs, co_eqI, co_neI, co_ltI, co_leI, co_gtI, co_geI, co_isN, co_isntN, co_eqLs, co_neLs, co_eqTs, co_neTs, iter_lst, iter_tup, compG_range, compG_iL, compG_one, compG_if, compR_one, compR_if, compQ_one, compQ_if, compQ_nil, rgV_ok, rgV2_ok, zipV_T, zipV_L, iL_length, map_pvint, map_int0, Int.toNat_natCast, decide_eq_true_eq, zip_iL, compG_rangeMap, cut_to, cut_from, cut_mid, Option.some.injEq, exists_eq_left', Nx_rt, Tu_rt, min_cast, max_cast, max1_cast, toNat_1, toNat_1', toNat_a, toNat_s, toNat_m1, toNat_0, half_cast, co_eqT0, co_neT0, co_eqL0, co_neL0, List.length_cons, List.length_nil,q3, q4, eq_self, decide_true, Bool.not_true])) ?_
  -- rows_behind
  ((first | (refine w_asg ?_ ?_; exact rfl) | (refine w_asgM ?_ ?_; exact rfl) | (refine w_par ?_ ?_; exact rfl) | (refine w_unp ?_ ?_; exact rfl) | (refine w_aug ?_ ?_; exact rfl) | (refine w_app ?_ ?_; exact rfl) | (refine w_setix ?_ ?_ ?_; exact rfl; exact rfl) | (refine w_ret ?_ ?_; exact rfl) | refine w_retM ?_ | refine w_pass ?_ | refine w_cnt ?_ | refine w_brk ?_ | (refine w_if ?_ ?_; exact rfl) | refine w_nil ?_))
  (simp (config := { implicitDefEqProofs := false }) (disch := first | with_reducible assumption | omega | (simp only [iL_length, List.length_map, List.length_range, List.length_append, List.length_cons, List.length_nil, List.length_take, List.length_drop]; omega)) only [vl, vls, vlo, vlc, getS_z, getS_s, wipeF, bindTg, setAll, List.set_cons_succ, List.set_cons_zero, Option.map_some, Option.bind_some, Option.map_none, Option.bind_none, blOf, intOf, nat_z, ↓reduceIte, if_true, Bool.false_eq_true, if_false, sub_tupI, sub_lstI, bi_sumL, bi_sumT, bi_allM, bi_anyM, bi_lenT, bi_lenL, bi_lenD, bi_lenS, bi_tupL, bi_tupT, bi_lstT, bi_lstL, bi_intI, bi_absI, bi_min2I, bi_max2I, bi_minL, bi_maxL, cutop_tup, cutop_lst, rev_iT, rev_iLs, op_addI, op_subI, op_mulIL, op_mulIR, op_fdivI, op_modI, op_addT, op_addLs, co_eqI, co_neI, co_ltI, co_leI, co_gtI, co_geI, co_isN, co_isntN, co_eqLs, co_neLs, co_eqTs, co_neTs, iter_lst, iter_tup, compG_range, compG_iL, compG_one, compG_if, compR_one, compR_if, compQ_one, compQ_if, compQ_nil, rgV_ok, rgV2_ok, zipV_T, zipV_L, iL_length, map_pvint, map_int0, Int.toNat_natCast, decide_eq_true_eq, zip_iL, compG_rangeMap, cut_to, cut_from, cut_mid, Option.some.injEq, exists_eq_left', Nx_rt, Tu_rt, min_cast, max_cast, max1_cast, toNat_1, toNat_1', toNat_a, toNat_s, toNat_m1, toNat_0, half_cast, co_eqT0, co_neT0, co_eqL0, co_neL0, List.length_cons, List.length_nil])
  ((first | (refine w_asg ?_ ?_; exact rfl) | (refine w_asgM ?_ ?_; exact rfl) | (refine w_par ?_ ?_; exact rfl) | (refine w_unp ?_ ?_; exact rfl) | (refine w_aug ?_ ?_; exact rfl) | (refine w_app ?_ ?_; exact rfl) | (refine w_setix ?_ ?_ ?_; exact rfl; exact rfl) | (refine w_ret ?_ ?_; exact rfl) | refine w_retM ?_ | refine w_pass ?_ | refine w_cnt ?_ | refine w_brk ?_ | (refine w_if ?_ ?_; exact rfl) | refine w_nil ?_))
  (simp (config := { implicitDefEqProofs := false }) (disch := first | with_reducible assumption | omega | (simp only [iL_length, List.length_map, List.length_range, List.length_append, List.length_cons, List.length_nil, List.length_take, List.length_drop]; omega)) only [vl, vls, vlo, vlc, getS_z, getS_s, wipeF, bindTg, setAll, List.set_cons_succ, List.set_cons_zero, Option.map_some, Option.bind_some, Option.map_none, Option.bind_none, blOf, intOf, nat_z, ↓reduceIte, if_true, Bool.false_eq_true, if_false, sub_tupI, sub_lstI, bi_sumL, bi_sumT, bi_allM, bi_anyM, bi_lenT, bi_lenL, bi_lenD, bi_lenS, bi_tupL, bi_tupT, bi_lstT, bi_lstL, bi_intI, bi_absI, bi_min2I, bi_max2I, bi_minL, bi_maxL, cutop_tup, cutop_lst, rev_iT, rev_iLs, op_addI, op_subI, op_mulIL, op_mulIR, op_fdivI, op_modI, op_addT, op_addLs, co_eqI, co_neI, co_ltI, co_leI, co_gtI, co_geI, co_isN, co_isntN, co_eqLs, co_neLs, co_eqTs, co_neTs, iter_lst, iter_tup, compG_range, compG_iL, compG_one, compG_if, compR_one, compR_if, compQ_one, compQ_if, compQ_nil, rgV_ok, rgV2_ok, zipV_T, zipV_L, iL_length, map_pvint, map_int0, Int.toNat_natCast, decide_eq_true_eq, zip_iL, compG_rangeMap, cut_to, cut_from, cut_mid, Option.some.injEq, exists_eq_left', Nx_rt, Tu_rt, min_cast, max_cast, max1_cast, toNat_1, toNat_1', toNat_a, toNat_s, toNat_m1, toNat_0, half_cast, co_eqT0, co_neT0, co_eqL0, co_neL0, List.length_cons, List.length_nil,Option.some.injEq, exists_eq_left', app_lst, aug_addI, aug_subI, iL_snoc, List.length_append, List.length_cons, List.length_nil, PV.tup.injEq, PV.bl.injEq, List.map_cons, List.map_nil, List.cons_append, List.nil_append, isMut, parChk, Bool.not_true, Bool.not_false, Bool.or_true, Bool.true_or, Bool.false_or, Bool.true_and, true_and])
  refine w_rg (I := fun k fr => ∃ e, fr = [some (.scr ns), some (wd ds n4), a2, some (.tup (iL one)), some (.tup (iL other)), some (.tup (iL come)), some (.tup (iL rates)), some (.int (lef come rates come.length)), some (.int (don come rates come.length)), some (.lst (iL (donL come rates come.length))), some (.lst (iL (lefL come rates come.length))), b, c, some (.int ((min one.length other.length) : Nat)), some (.lst (iL ((List.range k).map (beh one other)))), e, a16, a17, a18, a19, a20, a21, a22, a23, a24, a25, a26, a27, a28, a29, a30, a31, a32, a33, a34, a35, a36, a37]) (min one.length other.length) rfl (by (simp (config := { implicitDefEqProofs := false }) (disch := first | with_reducible assumption | omega | (simp only [iL_length, List.length_map, List.length_range, List.length_append, List.length_cons, List.length_nil, List.length_take, List.length_drop]; omega)) only [vl, vls, vlo, vlc, getS_z, getS_s, wipeF, bindTg, setAll, List.set_cons_succ, List.set_cons_zero, Option.map_some, Option.bind_some, Option.map_none, Option.bind_none, blOf, intOf, nat_z, ↓reduceIte, if_true, Bool.false_eq_true, if_false, sub_tupI, sub_lstI, bi_sumL, bi_sumT, bi_allM, bi_anyM, bi_lenT, bi_lenL, bi_lenD, bi_lenS, bi_tupL, bi_tupT, bi_lstT, bi_lstL, bi_intI, bi_absI, bi_min2I, bi_max2I, bi_minL, bi_maxL, cutop_tup, cutop_lst, rev_iT, rev_iLs, op_addI, op_subI, op_mulIL, op_mulIR, op_fdivI, op_modI, op_addT, op_addLs, co_eqI, co_neI, co_ltI, co_leI, co_gtI, co_geI, co_isN, co_isntN, co_eqLs, co_neLs, co_eqTs, co_neTs, iter_lst, iter_tup, compG_range, compG_iL, compG_one, compG_if, compR_one, compR_if, compQ_one, compQ_if, compQ_nil, rgV_ok, rgV2_ok, zipV_T, zipV_L, iL_length, map_pvint, map_int0, Int.toNat_natCast, decide_eq_true_eq, zip_iL, compG_rangeMap, cut_to, cut_from, cut_mid, Option.some.injEq, exists_eq_left', Nx_rt, Tu_rt, min_cast, max_cast, max1_cast, toNat_1, toNat_1', toNat_a, toNat_s, toNat_m1, toNat_0, half_cast, co_eqT0, co_neT0, co_eqL0, co_neL0, List.length_cons, List.length_nil])) ⟨_, rfl⟩ ?_ ?_
  · rintro k _ hk ⟨e, rfl⟩
    refine ⟨_, rfl, ?_⟩
    have q1 : ((List.range k).map (beh one other)).length = k := by simp
    have q2 : (List.range (k + 1)).map (beh one other) = (List.range k).map (beh one other) ++ [beh one other k] := by simp [List.range_succ]
    ((first | (refine w_asg ?_ ?_; exact rfl) | (refine w_asgM ?_ ?_; exact rfl) | (refine w_par ?_ ?_; exact rfl) | (refine w_unp ?_ ?_; exact rfl) | (refine w_aug ?_ ?_; exact rfl) | (refine w_app ?_ ?_; exact rfl) | (refine w_setix ?_ ?_ ?_; exact rfl; exact rfl) | (refine w_ret ?_ ?_; exact rfl) | refine w_retM ?_ | refine w_pass ?_ | refine w_cnt ?_ | refine w_brk ?_ | (refine w_if ?_ ?_; exact rfl) | refine w_nil ?_))
    (simp (config := { implicitDefEqProofs := false }) (disch := first | with_reducible assumption | omega | (simp only [iL_length, List.length_map, List.length_range, List.length_append, List.length_cons, List.length_nil, List.length_take, List.length_drop]; omega)) only [vl, vls, vlo, vlc, getS_z, getS_s, wipeF, bindTg, setAll, List.set_cons_succ, List.set_cons_zero, Option.map_some, Option.bind_some, Option.map_none, Option.bind_none, blOf, intOf, nat_z, ↓reduceIte, if_true, Bool.false_eq_true, if_false, sub_tupI, sub_lstI, bi_sumL, bi_sumT, bi_allM, bi_anyM, bi_lenT, bi_lenL, bi_lenD, bi_lenS, bi_tupL, bi_tupT, bi_lstT, bi_lstL, bi_intI, bi_absI, bi_min2I, bi_max2I, bi_minL, bi_maxL, cutop_tup, cutop_lst, rev_iT, rev_iLs, op_addI, op_subI, op_mulIL, op_mulIR, op_fdivI, op_modI, op_addT, op_addLs, co_eqI, co_neI, co_ltI, co_leI, co_gtI, co_geI, co_isN, co_isntN, co_eqLs, co_neLs, co_eqTs, co_neTs, iter_lst, iter_tup, compG_range, compG_iL, compG_one, compG_if, compR_one, compR_if, compQ_one, compQ_if, compQ_nil, rgV_ok, rgV2_ok, zipV_T, zipV_L, iL_length, map_pvint, map_int0, Int.toNat_natCast, decide_eq_true_eq, zip_iL, compG_rangeMap, cut_to, cut_from, cut_mid, Option.some.injEq, exists_eq_left', Nx_rt, Tu_rt, min_cast, max_cast, max1_cast, toNat_1, toNat_1', toNat_a, toNat_s, toNat_m1, toNat_0, half_cast, co_eqT0, co_neT0, co_eqL0, co_neL0, List.length_cons, List.length_nil,app_lst, iL_snoc])
    exact w_nil ⟨_, by rw [q2]; rfl⟩
  rintro _ ⟨e, rfl⟩
  have q5 := H.h5 one other (by omega) (by omega)
  refine w_ifF rfl (by (simp (config := { implicitDefEqProofs := false }) (disch := first | with_reducible assumption | omega | (simp only [iL_length, List.length_map, List.length_range, List.length_append, List.length_cons, List.length_nil, List.length_take, List.length_drop]; omega)) only [vl, vls, vlo, vlc, getS_z, getS_s, wipeF, bindTg, setAll, List.set_cons_succ, List.set_cons_zero, Option.map_some, Option.bind_some, Option.map_none, Option.bind_none, blOf, intOf, nat_z, ↓reduceIte, if_true, Bool.false_eq_true, if_false, sub_tupI, sub_lstI, bi_sumL, bi_sumT, bi_allM, bi_anyM, bi_lenT, bi_lenL, bi_lenD, bi_lenS, bi_tupL, bi_tupT, bi_lstT, bi_lstL, bi_intI, bi_absI, bi_min2I, bi_max2I, bi_minL, bi_maxL, cutop_tup, cutop_lst, rev_iT, rev_iLs, op_addI, op_subI, op_mulIL, op_mulIR, op_fdivI, op_modI, op_addT, op_addLs, co_eqI, co_neI, co_ltI, co_leI, co_gtI, co_geI, co_isN, co_isntN, co_eqLs, co_neLs, co_eqTs, co_neTs, iter_lst, iter_tup, compG_range, compG_iL, compG_one, compG_if, compR_one, compR_if, compQ_one, compQ_if, compQ_nil, rgV_ok, rgV2_ok, zipV_T, zipV_L, iL_length, map_pvint, map_int0, Int.toNat_natCast, decide_eq_true_eq, zip_iL, compG_rangeMap, cut_to, cut_from, cut_mid, Option.some.injEq, exists_eq_left', Nx_rt, Tu_rt, min_cast, max_cast, max1_cast, toNat_1, toNat_1', toNat_a, toNat_s, toNat_m1, toNat_0, half_cast, co_eqT0, co_neT0, co_eqL0, co_neL0, List.length_cons, List.length_nil,q5, eq_self, decide_true, Bool.not_true])) ?_
  -- most_left
  have hmm : 0 < (min one.length other.length) := by omega
  have eg : (List.range (min one.length other.length)).map (fun a => at' one a - at' other a) = gapL one other (min one.length other.length) := rfl
  have hgl := gapL_len (one := one) (other := other) (n := (min one.length other.length))
  ((first | (refine w_asg ?_ ?_; exact rfl) | (refine w_asgM ?_ ?_; exact rfl) | (refine w_par ?_ ?_; exact rfl) | (refine w_unp ?_ ?_; exact rfl) | (refine w_aug ?_ ?_; exact rfl) | (refine w_app ?_ ?_; exact rfl) | (refine w_setix ?_ ?_ ?_; exact rfl; exact rfl) | (refine w_ret ?_ ?_; exact rfl) | refine w_retM ?_ | refine w_pass ?_ | refine w_cnt ?_ | refine w_brk ?_ | (refine w_if ?_ ?_; exact rfl) | refine w_nil ?_))
  (simp (config := { implicitDefEqProofs := false }) (disch := first | with_reducible assumption | omega | (simp only [iL_length, List.length_map, List.length_range, List.length_append, List.length_cons, List.length_nil, List.length_take, List.length_drop]; omega)) only [vl, vls, vlo, vlc, getS_z, getS_s, wipeF, bindTg, setAll, List.set_cons_succ, List.set_cons_zero, Option.map_some, Option.bind_some, Option.map_none, Option.bind_none, blOf, intOf, nat_z, ↓reduceIte, if_true, Bool.false_eq_true, if_false, sub_tupI, sub_lstI, bi_sumL, bi_sumT, bi_allM, bi_anyM, bi_lenT, bi_lenL, bi_lenD, bi_lenS, bi_tupL, bi_tupT, bi_lstT, bi_lstL, bi_intI, bi_absI, bi_min2I, bi_max2I, bi_minL, bi_maxL, cutop_tup, cutop_lst, rev_iT, rev_iLs, op_addI, op_subI, op_mulIL, op_mulIR, op_fdivI, op_modI, op_addT, op_addLs, co_eqI, co_neI, co_ltI, co_leI, co_gtI, co_geI, co_isN, co_isntN, co_eqLs, co_neLs, co_eqTs, co_neTs, iter_lst, iter_tup, compG_range, compG_iL, compG_one, compG_if, compR_one, compR_if, compQ_one, compQ_if, compQ_nil, rgV_ok, rgV2_ok, zipV_T, zipV_L, iL_length, map_pvint, map_int0, Int.toNat_natCast, decide_eq_true_eq, zip_iL, compG_rangeMap, cut_to, cut_from, cut_mid, Option.some.injEq, exists_eq_left', Nx_rt, Tu_rt, min_cast, max_cast, max1_cast, toNat_1, toNat_1', toNat_a, toNat_s, toNat_m1, toNat_0, half_cast, co_eqT0, co_neT0, co_eqL0, co_neL0, List.length_cons, List.length_nil])
  rw [eg]
  have q6 := H.h6 one other (by omega) (by omega) p1 p2
  have r6 : ∀ a b : Int, cmpop .ne (.tup [.int a, .int b]) (.tup [.int a, .int b]) = some (.bl false) := fun a b => co_neV rfl
  refine w_ifF rfl (by (simp (config := { implicitDefEqProofs := false }) (disch := first | with_reducible assumption | omega | (simp only [iL_length, List.length_map, List.length_range, List.length_append, List.length_cons, List.length_nil, List.length_take, List.length_drop]; omega)) only [vl, vls, vlo, vlc, getS_z, getS_s, wipeF, bindTg, setAll, List.set_cons_succ, List.set_cons_zero, Option.map_some, Option.bind_some, Option.map_none, Option.bind_none, blOf, intOf, nat_z, ↓reduceIte, if_true, Bool.false_eq_true, if_false, sub_tupI, sub_lstI, bi_sumL, bi_sumT, bi_allM, bi_anyM, bi_lenT, bi_lenL, bi_lenD, bi_lenS, bi_tupL, bi_tupT, bi_lstT, bi_lstL, bi_intI, bi_absI, bi_min2I, bi_max2I, bi_minL, bi_maxL, cutop_tup, cutop_lst, rev_iT, rev_iLs, op_addI, op_subI, op_mulIL, op_mulIR, op_fdivI, op_modI, op_addT, op_addLs, co_eqI, co_neI, co_ltI, co_leI, co_gtI, co_geI, co_isN, co_isntN, co_eqLs, co_neLs, co_eqTs, co_neTs, iter_lst, iter_tup, compG_range, compG_iL, compG_one, compG_if, compR_one, compR_if, compQ_one, compQ_if, compQ_nil, rgV_ok, rgV2_ok, zipV_T, zipV_L, iL_length, map_pvint, map_int0, Int.toNat_natCast, decide_eq_true_eq, zip_iL, compG_rangeMap, cut_to, cut_from, cut_mid, Option.some.injEq, exists_eq_left', Nx_rt, Tu_rt, min_cast, max_cast, max1_cast, toNat_1, toNat_1', toNat_a, toNat_s, toNat_m1, toNat_0, half_cast, co_eqT0, co_neT0, co_eqL0, co_neL0, List.length_cons, List.length_nil,q6, List.cons_append, List.nil_append, iL_cons', recv_idx, mx_0gap hmm, mx_gap hmm, idx_gap hmm, r6])) ?_
  -- longest_wait
  ((first | (refine w_asg ?_ ?_; exact rfl) | (refine w_asgM ?_ ?_; exact rfl) | (refine w_par ?_ ?_; exact rfl) | (refine w_unp ?_ ?_; exact rfl) | (refine w_aug ?_ ?_; exact rfl) | (refine w_app ?_ ?_; exact rfl) | (refine w_setix ?_ ?_ ?_; exact rfl; exact rfl) | (refine w_ret ?_ ?_; exact rfl) | refine w_retM ?_ | refine w_pass ?_ | refine w_cnt ?_ | refine w_brk ?_ | (refine w_if ?_ ?_; exact rfl) | refine w_nil ?_))
  (simp (config := { implicitDefEqProofs := false }) (disch := first | with_reducible assumption | omega | (simp only [iL_length, List.length_map, List.length_range, List.length_append, List.length_cons, List.length_nil, List.length_take, List.length_drop]; omega)) only [vl, vls, vlo, vlc, getS_z, getS_s, wipeF, bindTg, setAll, List.set_cons_succ, List.set_cons_zero, Option.map_some, Option.bind_some, Option.map_none, Option.bind_none, blOf, intOf, nat_z, ↓reduceIte, if_true, Bool.false_eq_true, if_false, sub_tupI, sub_lstI, bi_sumL, bi_sumT, bi_allM, bi_anyM, bi_lenT, bi_lenL, bi_lenD, bi_lenS, bi_tupL, bi_tupT, bi_lstT, bi_lstL, bi_intI, bi_absI, bi_min2I, bi_max2I, bi_minL, bi_maxL, cutop_tup, cutop_lst, rev_iT, rev_iLs, op_addI, op_subI, op_mulIL, op_mulIR, op_fdivI, op_modI, op_addT, op_addLs, co_eqI, co_neI, co_ltI, co_leI, co_gtI, co_geI, co_isN, co_isntN, co_eqLs, co_neLs, co_eqTs, co_neTs, iter_lst, iter_tup, compG_range, compG_iL, compG_one, compG_if, compR_one, compR_if, compQ_one, compQ_if, compQ_nil, rgV_ok, rgV2_ok, zipV_T, zipV_L, iL_length, map_pvint, map_int0, Int.toNat_natCast, decide_eq_true_eq, zip_iL, compG_rangeMap, cut_to, cut_from, cut_mid, Option.some.injEq, exists_eq_left', Nx_rt, Tu_rt, min_cast, max_cast, max1_cast, toNat_1, toNat_1', toNat_a, toNat_s, toNat_m1, toNat_0, half_cast, co_eqT0, co_neT0, co_eqL0, co_neL0, List.length_cons, List.length_nil,Option.some.injEq, exists_eq_left', app_lst, aug_addI, aug_subI, iL_snoc, List.length_append, List.length_cons, List.length_nil, PV.tup.injEq, PV.bl.injEq, List.map_cons, List.map_nil, List.cons_append, List.nil_append, isMut, parChk, Bool.not_true, Bool.not_false, Bool.or_true, Bool.true_or, Bool.false_or, Bool.true_and, true_and])
  refine w_rg (I := fun k fr => ∃ e f, fr = [some (.scr ns), some (wd ds n4), a2, some (.tup (iL one)), some (.tup (iL other)), some (.tup (iL come)), some (.tup (iL rates)), some (.int (lef come rates come.length)), some (.int (don come rates come.length)), some (.lst (iL (donL come rates come.length))), some (.lst (iL (lefL come rates come.length))), b, c, some (.int ((min one.length other.length) : Nat)), some (.lst (iL ((List.range (min one.length other.length)).map (beh one other)))), e, some (.lst (iL (gapL one other (min one.length other.length)))), some (.lst (latL one other k)), f, a19, a20, a21, a22, a23, a24, a25, a26, a27, a28, a29, a30, a31, a32, a33, a34, a35, a36, a37]) one.length rfl (by (simp (config := { implicitDefEqProofs := false }) (disch := first | with_reducible assumption | omega | (simp only [iL_length, List.length_map, List.length_range, List.length_append, List.length_cons, List.length_nil, List.length_take, List.length_drop]; omega)) only [vl, vls, vlo, vlc, getS_z, getS_s, wipeF, bindTg, setAll, List.set_cons_succ, List.set_cons_zero, Option.map_some, Option.bind_some, Option.map_none, Option.bind_none, blOf, intOf, nat_z, ↓reduceIte, if_true, Bool.false_eq_true, if_false, sub_tupI, sub_lstI, bi_sumL, bi_sumT, bi_allM, bi_anyM, bi_lenT, bi_lenL, bi_lenD, bi_lenS, bi_tupL, bi_tupT, bi_lstT, bi_lstL, bi_intI, bi_absI, bi_min2I, bi_max2I, bi_minL, bi_maxL, cutop_tup, cutop_lst, rev_iT, rev_iLs, op_addI, op_subI, op_mulIL, op_mulIR, op_fdivI, op_modI, op_addT, op_addLs, co_eqI, co_neI, co_ltI, co_leI, co_gtI, co_geI, co_isN, co_isntN, co_eqLs, co_neLs, co_eqTs, co_neTs, iter_lst, iter_tup, compG_range, compG_iL, compG_one, compG_if, compR_one, compR_if, compQ_one, compQ_if, compQ_nil, rgV_ok, rgV2_ok, zipV_T, zipV_L, iL_length, map_pvint, map_int0, Int.toNat_natCast, decide_eq_true_eq, zip_iL, compG_rangeMap, cut_to, cut_from, cut_mid, Option.some.injEq, exists_eq_left', Nx_rt, Tu_rt, min_cast, max_cast, max1_cast, toNat_1, toNat_1', toNat_a, toNat_s, toNat_m1, toNat_0, half_cast, co_eqT0, co_neT0, co_eqL0, co_neL0, List.length_cons, List.length_nil])) ⟨_, _, rfl⟩ ?_ ?_
  · rintro k _ hk ⟨e, f, rfl⟩
    refine ⟨_, rfl, ?_⟩
    have q1 := latL_len (one := one) (other := other) (n := k)
    have ef : List.map (fun (a : Nat) => (k : Int) + (a : Int)) (List.filter (fun a => decide (at' one k ≤ at' other (k + a))) (List.range (other.length - k))) = (fl one other k).map fun (l : Nat) => (k : Int) + (l : Int) := rfl
    ((first | (refine w_asg ?_ ?_; exact rfl) | (refine w_asgM ?_ ?_; exact rfl) | (refine w_par ?_ ?_; exact rfl) | (refine w_unp ?_ ?_; exact rfl) | (refine w_aug ?_ ?_; exact rfl) | (refine w_app ?_ ?_; exact rfl) | (refine w_setix ?_ ?_ ?_; exact rfl; exact rfl) | (refine w_ret ?_ ?_; exact rfl) | refine w_retM ?_ | refine w_pass ?_ | refine w_cnt ?_ | refine w_brk ?_ | (refine w_if ?_ ?_; exact rfl) | refine w_nil ?_))
    (simp (config := { implicitDefEqProofs := false }) (disch := first | with_reducible assumption | omega | (simp only [iL_length, List.length_map, List.length_range, List.length_append, List.length_cons, List.length_nil, List.length_take, List.length_drop]; omega)) only [vl, vls, vlo, vlc, getS_z, getS_s, wipeF, bindTg, setAll, List.set_cons_succ, List.set_cons_zero, Option.map_some, Option.bind_some, Option.map_none, Option.bind_none, blOf, intOf, nat_z, ↓reduceIte, if_true, Bool.false_eq_true, if_false, sub_tupI, sub_lstI, bi_sumL, bi_sumT, bi_allM, bi_anyM, bi_lenT, bi_lenL, bi_lenD, bi_lenS, bi_tupL, bi_tupT, bi_lstT, bi_lstL, bi_intI, bi_absI, bi_min2I, bi_max2I, bi_minL, bi_maxL, cutop_tup, cutop_lst, rev_iT, rev_iLs, op_addI, op_subI, op_mulIL, op_mulIR, op_fdivI, op_modI, op_addT, op_addLs, co_eqI, co_neI, co_ltI, co_leI, co_gtI, co_geI, co_isN, co_isntN, co_eqLs, co_neLs, co_eqTs, co_neTs, iter_lst, iter_tup, compG_range, compG_iL, compG_one, compG_if, compR_one, compR_if, compQ_one, compQ_if, compQ_nil, rgV_ok, rgV2_ok, zipV_T, zipV_L, iL_length, map_pvint, map_int0, Int.toNat_natCast, decide_eq_true_eq, zip_iL, compG_rangeMap, cut_to, cut_from, cut_mid, Option.some.injEq, exists_eq_left', Nx_rt, Tu_rt, min_cast, max_cast, max1_cast, toNat_1, toNat_1', toNat_a, toNat_s, toNat_m1, toNat_0, half_cast, co_eqT0, co_neT0, co_eqL0, co_neL0, List.length_cons, List.length_nil])
    rw [ef]
    have lv : (if (fl one other k).map (fun (l : Nat) => (k : Int) + (l : Int)) = [] then PV.non else .int (at' ((fl one other k).map fun (l : Nat) => (k : Int) + (l : Int)) 0 - (k : Int))) = latV one other k := by
      unfold latV hd'
      cases fl one other k with
      | nil => rfl
      | cons a l => simp [at', List.getD]; omega
    by_cases hf : (fl one other k).map (fun (l : Nat) => (k : Int) + (l : Int)) = []
    · rw [if_pos hf] at lv
      ((first | (refine w_asg ?_ ?_; exact rfl) | (refine w_asgM ?_ ?_; exact rfl) | (refine w_par ?_ ?_; exact rfl) | (refine w_unp ?_ ?_; exact rfl) | (refine w_aug ?_ ?_; exact rfl) | (refine w_app ?_ ?_; exact rfl) | (refine w_setix ?_ ?_ ?_; exact rfl; exact rfl) | (refine w_ret ?_ ?_; exact rfl) | refine w_retM ?_ | refine w_pass ?_ | refine w_cnt ?_ | refine w_brk ?_ | (refine w_if ?_ ?_; exact rfl) | refine w_nil ?_))
      (simp (config := { implicitDefEqProofs := false }) (disch := first | with_reducible assumption | omega | (simp only [iL_length, List.length_map, List.length_range, List.length_append, List.length_cons, List.length_nil, List.length_take, List.length_drop]; omega)) only [vl, vls, vlo, vlc, getS_z, getS_s, wipeF, bindTg, setAll, List.set_cons_succ, List.set_cons_zero, Option.map_some, Option.bind_some, Option.map_none, Option.bind_none, blOf, intOf, nat_z, ↓reduceIte, if_true, Bool.false_eq_true, if_false, sub_tupI, sub_lstI, bi_sumL, bi_sumT, bi_allM, bi_anyM, bi_lenT, bi_lenL, bi_lenD, bi_lenS, bi_tupL, bi_tupT, bi_lstT, bi_lstL, bi_intI, bi_absI, bi_min2I, bi_max2I, bi_minL, bi_maxL, cutop_tup, cutop_lst, rev_iT, rev_iLs, op_addI, op_subI, op_mulIL, op_mulIR, op_fdivI, op_modI, op_addT, op_addLs, co_eqI, co_neI, co_ltI, co_leI, co_gtI, co_geI, co_isN, co_isntN, co_eqLs, co_neLs, co_eqTs, co_neTs, iter_lst, iter_tup, compG_range, compG_iL, compG_one, compG_if, compR_one, compR_if, compQ_one, compQ_if, compQ_nil, rgV_ok, rgV2_ok, zipV_T, zipV_L, iL_length, map_pvint, map_int0, Int.toNat_natCast, decide_eq_true_eq, zip_iL, compG_rangeMap, cut_to, cut_from, cut_mid, Option.some.injEq, exists_eq_left', Nx_rt, Tu_rt, min_cast, max_cast, max1_cast, toNat_1, toNat_1', toNat_a, toNat_s, toNat_m1, toNat_0, half_cast, co_eqT0, co_neT0, co_eqL0, co_neL0, List.length_cons, List.length_nil,hf, decide_true, Bool.not_true, app_lst, lv])
      exact w_nil ⟨_, _, by rw [latL_s]⟩
    · rw [if_neg hf] at lv
      have hlen := List.length_pos_iff.mpr hf
      generalize ((fl one other k).map fun (l : Nat) => (k : Int) + (l : Int)) = ab at hf lv hlen
      ((first | (refine w_asg ?_ ?_; exact rfl) | (refine w_asgM ?_ ?_; exact rfl) | (refine w_par ?_ ?_; exact rfl) | (refine w_unp ?_ ?_; exact rfl) | (refine w_aug ?_ ?_; exact rfl) | (refine w_app ?_ ?_; exact rfl) | (refine w_setix ?_ ?_ ?_; exact rfl; exact rfl) | (refine w_ret ?_ ?_; exact rfl) | refine w_retM ?_ | refine w_pass ?_ | refine w_cnt ?_ | refine w_brk ?_ | (refine w_if ?_ ?_; exact rfl) | refine w_nil ?_))
      (simp (config := { implicitDefEqProofs := false }) (disch := first | with_reducible assumption | omega | (simp only [iL_length, List.length_map, List.length_range, List.length_append, List.length_cons, List.length_nil, List.length_take, List.length_drop]; omega)) only [vl, vls, vlo, vlc, getS_z, getS_s, wipeF, bindTg, setAll, List.set_cons_succ, List.set_cons_zero, Option.map_some, Option.bind_some, Option.map_none, Option.bind_none, blOf, intOf, nat_z, ↓reduceIte, if_true, Bool.false_eq_true, if_false, sub_tupI, sub_lstI, bi_sumL, bi_sumT, bi_allM, bi_anyM, bi_lenT, bi_lenL, bi_lenD, bi_lenS, bi_tupL, bi_tupT, bi_lstT, bi_lstL, bi_intI, bi_absI, bi_min2I, bi_max2I, bi_minL, bi_maxL, cutop_tup, cutop_lst, rev_iT, rev_iLs, op_addI, op_subI, op_mulIL, op_mulIR, op_fdivI, op_modI, op_addT, op_addLs, co_eqI, co_neI, co_ltI, co_leI, co_gtI, co_geI, co_isN, co_isntN, co_eqLs, co_neLs, co_eqTs, co_neTs, iter_lst, iter_tup, compG_range, compG_iL, compG_one, compG_if, compR_one, compR_if, compQ_one, compQ_if, compQ_nil, rgV_ok, rgV2_ok, zipV_T, zipV_L, iL_length, map_pvint, map_int0, Int.toNat_natCast, decide_eq_true_eq, zip_iL, compG_rangeMap, cut_to, cut_from, cut_mid, Option.some.injEq, exists_eq_left', Nx_rt, Tu_rt, min_cast, max_cast, max1_cast, toNat_1, toNat_1', toNat_a, toNat_s, toNat_m1, toNat_0, half_cast, co_eqT0, co_neT0, co_eqL0, co_neL0, List.length_cons, List.length_nil,hf, decide_false, Bool.not_false, app_lst, lv])
      exact w_nil ⟨_, _, by rw [latL_s]⟩
  rintro _ ⟨e', f', rfl⟩
  have r7 : cmpop .ne .non .non = some (.bl false) := rfl
  obtain ⟨v7, q7, a7⟩ := H.h7 one other (by omega) (by omega)
  refine w_ifF rfl (by
    rcases a7 with ⟨rfl, s, hs, hf⟩ | ⟨rfl, hf⟩
    · (simp (config := { implicitDefEqProofs := false }) (disch := first | with_reducible assumption | omega | (simp only [iL_length, List.length_map, List.length_range, List.length_append, List.length_cons, List.length_nil, List.length_take, List.length_drop]; omega)) only [vl, vls, vlo, vlc, getS_z, getS_s, wipeF, bindTg, setAll, List.set_cons_succ, List.set_cons_zero, Option.map_some, Option.bind_some, Option.map_none, Option.bind_none, blOf, intOf, nat_z, ↓reduceIte, if_true, Bool.false_eq_true, if_false, sub_tupI, sub_lstI, bi_sumL, bi_sumT, bi_allM, bi_anyM, bi_lenT, bi_lenL, bi_lenD, bi_lenS, bi_tupL, bi_tupT, bi_lstT, bi_lstL, bi_intI, bi_absI, bi_min2I, bi_max2I, bi_minL, bi_maxL, cutop_tup, cutop_lst, rev_iT, rev_iLs, op_addI, op_subI, op_mulIL, op_mulIR, op_fdivI, op_modI, op_addT, op_addLs, co_eqI, co_neI, co_ltI, co_leI, co_gtI, co_geI, co_isN, co_isntN, co_eqLs, co_neLs, co_eqTs, co_neTs, iter_lst, iter_tup, compG_range, compG_iL, compG_one, compG_if, compR_one, compR_if, compQ_one, compQ_if, compQ_nil, rgV_ok, rgV2_ok, zipV_T, zipV_L, iL_length, map_pvint, map_int0, Int.toNat_natCast, decide_eq_true_eq, zip_iL, compG_rangeMap, cut_to, cut_from, cut_mid, Option.some.injEq, exists_eq_left', Nx_rt, Tu_rt, min_cast, max_cast, max1_cast, toNat_1, toNat_1', toNat_a, toNat_s, toNat_m1, toNat_0, half_cast, co_eqT0, co_neT0, co_eqL0, co_neL0, List.length_cons, List.length_nil,q7, lat_in, lat_in1 hs hf, r7])
    · obtain ⟨z1, z2⟩ := lat_in0 hf
      rw [z2] at z1
      have z3 : cmpop .isin .non (.lst (iL ((List.range one.length).map (hd' one other)))) = some (.bl false) := by
        have := lat_in (one := one) (other := other) (n := one.length)
        rw [z2, z1] at this
        exact this
      (simp (config := { implicitDefEqProofs := false }) (disch := first | with_reducible assumption | omega | (simp only [iL_length, List.length_map, List.length_range, List.length_append, List.length_cons, List.length_nil, List.length_take, List.length_drop]; omega)) only [vl, vls, vlo, vlc, getS_z, getS_s, wipeF, bindTg, setAll, List.set_cons_succ, List.set_cons_zero, Option.map_some, Option.bind_some, Option.map_none, Option.bind_none, blOf, intOf, nat_z, ↓reduceIte, if_true, Bool.false_eq_true, if_false, sub_tupI, sub_lstI, bi_sumL, bi_sumT, bi_allM, bi_anyM, bi_lenT, bi_lenL, bi_lenD, bi_lenS, bi_tupL, bi_tupT, bi_lstT, bi_lstL, bi_intI, bi_absI, bi_min2I, bi_max2I, bi_minL, bi_maxL, cutop_tup, cutop_lst, rev_iT, rev_iLs, op_addI, op_subI, op_mulIL, op_mulIR, op_fdivI, op_modI, op_addT, op_addLs, co_eqI, co_neI, co_ltI, co_leI, co_gtI, co_geI, co_isN, co_isntN, co_eqLs, co_neLs, co_eqTs, co_neTs, iter_lst, iter_tup, compG_range, compG_iL, compG_one, compG_if, compR_one, compR_if, compQ_one, compQ_if, compQ_nil, rgV_ok, rgV2_ok, zipV_T, zipV_L, iL_length, map_pvint, map_int0, Int.toNat_natCast, decide_eq_true_eq, zip_iL, compG_rangeMap, cut_to, cut_from, cut_mid, Option.some.injEq, exists_eq_left', Nx_rt, Tu_rt, min_cast, max_cast, max1_cast, toNat_1, toNat_1', toNat_a, toNat_s, toNat_m1, toNat_0, half_cast, co_eqT0, co_neT0, co_eqL0, co_neL0, List.length_cons, List.length_nil,q7, z2, z3, mx_bst one.length p1, _root_.eq_self, decide_true, not_true, decide_false])) ?_
  -- left_over
  have q8 := H.h8 one other (by omega) (by omega)
  have e8 : (List.range (min one.length other.length)).map (fun a => mxL (0 :: (gapL one other (min one.length other.length)).take (a + 1))) = boL one other (min one.length other.length) := by
    unfold boL
    apply List.map_congr_left
    intro s hs
    exact mx_bo (s + 1) (by have := List.mem_range.mp hs; omega)
  refine w_ifF rfl (by (simp (config := { implicitDefEqProofs := false }) (disch := first | with_reducible assumption | omega | (simp only [iL_length, List.length_map, List.length_range, List.length_append, List.length_cons, List.length_nil, List.length_take, List.length_drop]; omega)) only [vl, vls, vlo, vlc, getS_z, getS_s, wipeF, bindTg, setAll, List.set_cons_succ, List.set_cons_zero, Option.map_some, Option.bind_some, Option.map_none, Option.bind_none, blOf, intOf, nat_z, ↓reduceIte, if_true, Bool.false_eq_true, if_false, sub_tupI, sub_lstI, bi_sumL, bi_sumT, bi_allM, bi_anyM, bi_lenT, bi_lenL, bi_lenD, bi_lenS, bi_tupL, bi_tupT, bi_lstT, bi_lstL, bi_intI, bi_absI, bi_min2I, bi_max2I, bi_minL, bi_maxL, cutop_tup, cutop_lst, rev_iT, rev_iLs, op_addI, op_subI, op_mulIL, op_mulIR, op_fdivI, op_modI, op_addT, op_addLs, co_eqI, co_neI, co_ltI, co_leI, co_gtI, co_geI, co_isN, co_isntN, co_eqLs, co_neLs, co_eqTs, co_neTs, iter_lst, iter_tup, compG_range, compG_iL, compG_one, compG_if, compR_one, compR_if, compQ_one, compQ_if, compQ_nil, rgV_ok, rgV2_ok, zipV_T, zipV_L, iL_length, map_pvint, map_int0, Int.toNat_natCast, decide_eq_true_eq, zip_iL, compG_rangeMap, cut_to, cut_from, cut_mid, Option.some.injEq, exists_eq_left', Nx_rt, Tu_rt, min_cast, max_cast, max1_cast, toNat_1, toNat_1', toNat_a, toNat_s, toNat_m1, toNat_0, half_cast, co_eqT0, co_neT0, co_eqL0, co_neL0, List.length_cons, List.length_nil,q8, List.cons_append, List.nil_append, iL_cons', e8, _root_.eq_self, decide_true, Bool.not_true])) ?_
  -- after
  have q9 := H.h9 one other (by omega) (by omega) p1 p2
  have e9 : (List.range (((min one.length other.length) + 1) / 2)).map (fun a => mxL ((List.range (((min one.length other.length) + 1) / 2)).map fun b => at' one (a + b) - at' other b)) = (List.range (((min one.length other.length) + 1) / 2)).map (aft one other) := rfl
  ((first | (refine w_asg ?_ ?_; exact rfl) | (refine w_asgM ?_ ?_; exact rfl) | (refine w_par ?_ ?_; exact rfl) | (refine w_unp ?_ ?_; exact rfl) | (refine w_aug ?_ ?_; exact rfl) | (refine w_app ?_ ?_; exact rfl) | (refine w_setix ?_ ?_ ?_; exact rfl; exact rfl) | (refine w_ret ?_ ?_; exact rfl) | refine w_retM ?_ | refine w_pass ?_ | refine w_cnt ?_ | refine w_brk ?_ | (refine w_if ?_ ?_; exact rfl) | refine w_nil ?_))
  (simp (config := { implicitDefEqProofs := false }) (disch := first | with_reducible assumption | omega | (simp only [iL_length, List.length_map, List.length_range, List.length_append, List.length_cons, List.length_nil, List.length_take, List.length_drop]; omega)) only [vl, vls, vlo, vlc, getS_z, getS_s, wipeF, bindTg, setAll, List.set_cons_succ, List.set_cons_zero, Option.map_some, Option.bind_some, Option.map_none, Option.bind_none, blOf, intOf, nat_z, ↓reduceIte, if_true, Bool.false_eq_true, if_false, sub_tupI, sub_lstI, bi_sumL, bi_sumT, bi_allM, bi_anyM, bi_lenT, bi_lenL, bi_lenD, bi_lenS, bi_tupL, bi_tupT, bi_lstT, bi_lstL, bi_intI, bi_absI, bi_min2I, bi_max2I, bi_minL, bi_maxL, cutop_tup, cutop_lst, rev_iT, rev_iLs, op_addI, op_subI, op_mulIL, op_mulIR, op_fdivI, op_modI, op_addT, op_addLs, co_eqI, co_neI, co_ltI, co_leI, co_gtI, co_geI, co_isN, co_isntN, co_eqLs, co_neLs, co_eqTs, co_neTs, iter_lst, iter_tup, compG_range, compG_iL, compG_one, compG_if, compR_one, compR_if, compQ_one, compQ_if, compQ_nil, rgV_ok, rgV2_ok, zipV_T, zipV_L, iL_length, map_pvint, map_int0, Int.toNat_natCast, decide_eq_true_eq, zip_iL, compG_rangeMap, cut_to, cut_from, cut_mid, Option.some.injEq, exists_eq_left', Nx_rt, Tu_rt, min_cast, max_cast, max1_cast, toNat_1, toNat_1', toNat_a, toNat_s, toNat_m1, toNat_0, half_cast, co_eqT0, co_neT0, co_eqL0, co_neL0, List.length_cons, List.length_nil])
  refine w_ifF rfl (by (simp (config := { implicitDefEqProofs := false }) (disch := first | with_reducible assumption | omega | (simp only [iL_length, List.length_map, List.length_range, List.length_append, List.length_cons, List.length_nil, List.length_take, List.length_drop]; omega)) only [vl, vls, vlo, vlc, getS_z, getS_s, wipeF, bindTg, setAll, List.set_cons_succ, List.set_cons_zero, Option.map_some, Option.bind_some, Option.map_none, Option.bind_none, blOf, intOf, nat_z, ↓reduceIte, if_true, Bool.false_eq_true, if_false, sub_tupI, sub_lstI, bi_sumL, bi_sumT, bi_allM, bi_anyM, bi_lenT, bi_lenL, bi_lenD, bi_lenS, bi_tupL, bi_tupT, bi_lstT, bi_lstL, bi_intI, bi_absI, bi_min2I, bi_max2I, bi_minL, bi_maxL, cutop_tup, cutop_lst, rev_iT, rev_iLs, op_addI, op_subI, op_mulIL, op_mulIR, op_fdivI, op_modI, op_addT, op_addLs, co_eqI, co_neI, co_ltI, co_leI, co_gtI, co_geI, co_isN, co_isntN, co_eqLs, co_neLs, co_eqTs, co_neTs, iter_lst, iter_tup, compG_range, compG_iL, compG_one, compG_if, compR_one, compR_if, compQ_one, compQ_if, compQ_nil, rgV_ok, rgV2_ok, zipV_T, zipV_L, iL_length, map_pvint, map_int0, Int.toNat_natCast, decide_eq_true_eq, zip_iL, compG_rangeMap, cut_to, cut_from, cut_mid, Option.some.injEq, exists_eq_left', Nx_rt, Tu_rt, min_cast, max_cast, max1_cast, toNat_1, toNat_1', toNat_a, toNat_s, toNat_m1, toNat_0, half_cast, co_eqT0, co_neT0, co_eqL0, co_neL0, List.length_cons, List.length_nil,q9, e9, _root_.eq_self, decide_true, Bool.not_true])) ?_
  -- steps, rates
  refine w_parE (ves_cons (ve_bin (ve_pure rfl ⟨.int 1, rfl, ve_next (m := 4) H.nx rfl rfl rfl (by decide) fun r1 h1 h1' => ⟨_, rfl, ?_⟩⟩)))
  refine ves_cons (ve_bin (ve_pure rfl ⟨.int 1, rfl, ve_next (m := 5) H.nx rfl rfl rfl (by decide) fun r2 h2 h2' => ⟨_, rfl, ?_⟩⟩))
  refine ves_cons (ve_next (m := 5) H.nx rfl rfl rfl (by decide) fun wait h3 h3' => ?_)
  refine ves_cons (ve_next (m := 9) H.nx rfl rfl rfl (by decide) fun r4 h4 h4' => ves_nil ⟨rfl, ?_⟩)
  obtain ⟨size, rfl⟩ := Int.eq_ofNat_of_zero_le h4
  have hb1 : 0 ≤ 1 + r1 := by omega
  have hb2 : 1 + r1 ≤ 4 := by omega
  have hg1 : 0 < 1 + r2 := by omega
  have hg2 : 1 + r2 ≤ 5 := by omega
  have hs9 : size ≤ 8 := by omega
  generalize 1 + r1 = burst at hb1 hb2 ⊢
  generalize 1 + r2 = gap at hg1 hg2 ⊢
  obtain ⟨n5, hn5⟩ : ∃ n5, n5 = n4 + 1 + 1 + 1 + 1 := ⟨_, rfl⟩
  show W C _ [some (.scr ns), some (wd ds (n4 + 1 + 1 + 1 + 1)), a2, some (.tup (iL one)), some (.tup (iL other)), some (.tup (iL come)), some (.tup (iL rates)), some (.int (lef come rates come.length)), some (.int (don come rates come.length)), some (.lst (iL (donL come rates come.length))), some (.lst (iL (lefL come rates come.length))), b, c, some (.int ((min one.length other.length) : Nat)), some (.lst (iL ((List.range (min one.length other.length)).map (beh one other)))), some (.int (size : Int)), some (.lst (iL (gapL one other (min one.length other.length)))), some (.lst (latL one other one.length)), f', some (.int ((((min one.length other.length) + 1) / 2 : Nat) : Int)), some (.int burst), some (.int gap), some (.int wait), a23, a24, a25, a26, a27, a28, a29, a30, a31, a32, a33, a34, a35, a36, a37] _
  rw [← hn5]
  clear h1 h1' h2 h2' h4 h4' hn5
  ((first | (refine w_asg ?_ ?_; exact rfl) | (refine w_asgM ?_ ?_; exact rfl) | (refine w_par ?_ ?_; exact rfl) | (refine w_unp ?_ ?_; exact rfl) | (refine w_aug ?_ ?_; exact rfl) | (refine w_app ?_ ?_; exact rfl) | (refine w_setix ?_ ?_ ?_; exact rfl; exact rfl) | (refine w_ret ?_ ?_; exact rfl) | refine w_retM ?_ | refine w_pass ?_ | refine w_cnt ?_ | refine w_brk ?_ | (refine w_if ?_ ?_; exact rfl) | refine w_nil ?_))
  (simp (config := { implicitDefEqProofs := false }) (disch := first | with_reducible assumption | omega | (simp only [iL_length, List.length_map, List.length_range, List.length_append, List.length_cons, List.length_nil, List.length_take, List.length_drop]; omega)) only [vl, vls, vlo, vlc, getS_z, getS_s, wipeF, bindTg, setAll, List.set_cons_succ, List.set_cons_zero, Option.map_some, Option.bind_some, Option.map_none, Option.bind_none, blOf, intOf, nat_z, ↓reduceIte, if_true, Bool.false_eq_true, if_false, sub_tupI, sub_lstI, bi_sumL, bi_sumT, bi_allM, bi_anyM, bi_lenT, bi_lenL, bi_lenD, bi_lenS, bi_tupL, bi_tupT, bi_lstT, bi_lstL, bi_intI, bi_absI, bi_min2I, bi_max2I, bi_minL, bi_maxL, cutop_tup, cutop_lst, rev_iT, rev_iLs, op_addI, op_subI, op_mulIL, op_mulIR, op_fdivI, op_modI, op_addT, op_addLs, co_eqI, co_neI, co_ltI, co_leI, co_gtI, co_geI, co_isN, co_isntN, co_eqLs, co_neLs, co_eqTs, co_neTs, iter_lst, iter_tup, compG_range, compG_iL, compG_one, compG_if, compR_one, compR_if, compQ_one, compQ_if, compQ_nil, rgV_ok, rgV2_ok, zipV_T, zipV_L, iL_length, map_pvint, map_int0, Int.toNat_natCast, decide_eq_true_eq, zip_iL, compG_rangeMap, cut_to, cut_from, cut_mid, Option.some.injEq, exists_eq_left', Nx_rt, Tu_rt, min_cast, max_cast, max1_cast, toNat_1, toNat_1', toNat_a, toNat_s, toNat_m1, toNat_0, half_cast, co_eqT0, co_neT0, co_eqL0, co_neL0, List.length_cons, List.length_nil,steps_eq hg1])
  have q10 := H.h10 burst gap size hb1 (by omega) hg1 (by omega) (by omega)
  have q11 := H.h11 wait burst size hb1 (by omega) (by omega)
  have e11 : (List.range (size + 1)).map (fun (a : Nat) => max 0 ((a : Int) - wait) * burst) = (List.range (size + 1)).map (fun (a : Nat) => if wait < (a : Int) then burst * ((a : Int) - wait) else 0) := List.map_congr_left fun a _ => rate_eq wait burst a
  rw [e11] at q11
  refine w_ifF rfl (by (simp (config := { implicitDefEqProofs := false }) (disch := first | with_reducible assumption | omega | (simp only [iL_length, List.length_map, List.length_range, List.length_append, List.length_cons, List.length_nil, List.length_take, List.length_drop]; omega)) only [vl, vls, vlo, vlc, getS_z, getS_s, wipeF, bindTg, setAll, List.set_cons_succ, List.set_cons_zero, Option.map_some, Option.bind_some, Option.map_none, Option.bind_none, blOf, intOf, nat_z, ↓reduceIte, if_true, Bool.false_eq_true, if_false, sub_tupI, sub_lstI, bi_sumL, bi_sumT, bi_allM, bi_anyM, bi_lenT, bi_lenL, bi_lenD, bi_lenS, bi_tupL, bi_tupT, bi_lstT, bi_lstL, bi_intI, bi_absI, bi_min2I, bi_max2I, bi_minL, bi_maxL, cutop_tup, cutop_lst, rev_iT, rev_iLs, op_addI, op_subI, op_mulIL, op_mulIR, op_fdivI, op_modI, op_addT, op_addLs, co_eqI, co_neI, co_ltI, co_leI, co_gtI, co_geI, co_isN, co_isntN, co_eqLs, co_neLs, co_eqTs, co_neTs, iter_lst, iter_tup, compG_range, compG_iL, compG_one, compG_if, compR_one, compR_if, compQ_one, compQ_if, compQ_nil, rgV_ok, rgV2_ok, zipV_T, zipV_L, iL_length, map_pvint, map_int0, Int.toNat_natCast, decide_eq_true_eq, zip_iL, compG_rangeMap, cut_to, cut_from, cut_mid, Option.some.injEq, exists_eq_left', Nx_rt, Tu_rt, min_cast, max_cast, max1_cast, toNat_1, toNat_1', toNat_a, toNat_s, toNat_m1, toNat_0, half_cast, co_eqT0, co_neT0, co_eqL0, co_neL0, List.length_cons, List.length_nil,q10, q11, ite_some, ite_int, _root_.eq_self, decide_true, Bool.not_true])) ?_
  -- spans
  ((first | (refine w_asg ?_ ?_; exact rfl) | (refine w_asgM ?_ ?_; exact rfl) | (refine w_par ?_ ?_; exact rfl) | (refine w_unp ?_ ?_; exact rfl) | (refine w_aug ?_ ?_; exact rfl) | (refine w_app ?_ ?_; exact rfl) | (refine w_setix ?_ ?_ ?_; exact rfl; exact rfl) | (refine w_ret ?_ ?_; exact rfl) | refine w_retM ?_ | refine w_pass ?_ | refine w_cnt ?_ | refine w_brk ?_ | (refine w_if ?_ ?_; exact rfl) | refine w_nil ?_))
  (simp (config := { implicitDefEqProofs := false }) (disch := first | with_reducible assumption | omega | (simp only [iL_length, List.length_map, List.length_range, List.length_append, List.length_cons, List.length_nil, List.length_take, List.length_drop]; omega)) only [vl, vls, vlo, vlc, getS_z, getS_s, wipeF, bindTg, setAll, List.set_cons_succ, List.set_cons_zero, Option.map_some, Option.bind_some, Option.map_none, Option.bind_none, blOf, intOf, nat_z, ↓reduceIte, if_true, Bool.false_eq_true, if_false, sub_tupI, sub_lstI, bi_sumL, bi_sumT, bi_allM, bi_anyM, bi_lenT, bi_lenL, bi_lenD, bi_lenS, bi_tupL, bi_tupT, bi_lstT, bi_lstL, bi_intI, bi_absI, bi_min2I, bi_max2I, bi_minL, bi_maxL, cutop_tup, cutop_lst, rev_iT, rev_iLs, op_addI, op_subI, op_mulIL, op_mulIR, op_fdivI, op_modI, op_addT, op_addLs, co_eqI, co_neI, co_ltI, co_leI, co_gtI, co_geI, co_isN, co_isntN, co_eqLs, co_neLs, co_eqTs, co_neTs, iter_lst, iter_tup, compG_range, compG_iL, compG_one, compG_if, compR_one, compR_if, compQ_one, compQ_if, compQ_nil, rgV_ok, rgV2_ok, zipV_T, zipV_L, iL_length, map_pvint, map_int0, Int.toNat_natCast, decide_eq_true_eq, zip_iL, compG_rangeMap, cut_to, cut_from, cut_mid, Option.some.injEq, exists_eq_left', Nx_rt, Tu_rt, min_cast, max_cast, max1_cast, toNat_1, toNat_1', toNat_a, toNat_s, toNat_m1, toNat_0, half_cast, co_eqT0, co_neT0, co_eqL0, co_neL0, List.length_cons, List.length_nil,Option.some.injEq, exists_eq_left', app_lst, aug_addI, aug_subI, iL_snoc, List.length_append, List.length_cons, List.length_nil, PV.tup.injEq, PV.bl.injEq, List.map_cons, List.map_nil, List.cons_append, List.nil_append, isMut, parChk, Bool.not_true, Bool.not_false, Bool.or_true, Bool.true_or, Bool.false_or, Bool.true_and, true_and])
  refine w_rg (I := fun k fr => ∃ (L : List (Int × Int)) (e : Option PV), (∀ p, p ∈ L ↔ ∃ b e : Nat, b < k ∧ p = ((b : Int), (e : Int)) ∧ fit come one b e ∧ bad come one b e) ∧ L.length ≤ 100 * k ∧ fr = [some (.scr ns), some (wd ds n5), a2, some (.tup (iL one)), some (.tup (iL other)), some (.tup (iL come)), some (.tup (iL rates)), some (.int (lef come rates come.length)), some (.int (don come rates come.length)), some (.lst (iL (donL come rates come.length))), some (.lst (iL (lefL come rates come.length))), b, c, some (.int ((min one.length other.length) : Nat)), some (.lst (iL ((List.range (min one.length other.length)).map (beh one other)))), some (.int (size : Int)), some (.lst (iL (gapL one other (min one.length other.length)))), some (.lst (latL one other one.length)), f', some (.int ((((min one.length other.length) + 1) / 2 : Nat) : Int)), some (.int burst), some (.int gap), some (.int wait), some (.lst (iL ((List.range (size + 1)).map fun (a : Nat) => burst * -(-(a : Int) / gap)))), some (.lst (L.map pr)), e, a26, a27, a28, a29, a30, a31, a32, a33, a34, a35, a36, a37]) come.length rfl (by (simp (config := { implicitDefEqProofs := false }) (disch := first | with_reducible assumption | omega | (simp only [iL_length, List.length_map, List.length_range, List.length_append, List.length_cons, List.length_nil, List.length_take, List.length_drop]; omega)) only [vl, vls, vlo, vlc, getS_z, getS_s, wipeF, bindTg, setAll, List.set_cons_succ, List.set_cons_zero, Option.map_some, Option.bind_some, Option.map_none, Option.bind_none, blOf, intOf, nat_z, ↓reduceIte, if_true, Bool.false_eq_true, if_false, sub_tupI, sub_lstI, bi_sumL, bi_sumT, bi_allM, bi_anyM, bi_lenT, bi_lenL, bi_lenD, bi_lenS, bi_tupL, bi_tupT, bi_lstT, bi_lstL, bi_intI, bi_absI, bi_min2I, bi_max2I, bi_minL, bi_maxL, cutop_tup, cutop_lst, rev_iT, rev_iLs, op_addI, op_subI, op_mulIL, op_mulIR, op_fdivI, op_modI, op_addT, op_addLs, co_eqI, co_neI, co_ltI, co_leI, co_gtI, co_geI, co_isN, co_isntN, co_eqLs, co_neLs, co_eqTs, co_neTs, iter_lst, iter_tup, compG_range, compG_iL, compG_one, compG_if, compR_one, compR_if, compQ_one, compQ_if, compQ_nil, rgV_ok, rgV2_ok, zipV_T, zipV_L, iL_length, map_pvint, map_int0, Int.toNat_natCast, decide_eq_true_eq, zip_iL, compG_rangeMap, cut_to, cut_from, cut_mid, Option.some.injEq, exists_eq_left', Nx_rt, Tu_rt, min_cast, max_cast, max1_cast, toNat_1, toNat_1', toNat_a, toNat_s, toNat_m1, toNat_0, half_cast, co_eqT0, co_neT0, co_eqL0, co_neL0, List.length_cons, List.length_nil])) ⟨[], _, fun p => ⟨fun z => absurd z (by simp), fun ⟨b, e, h, _⟩ => absurd h (by omega)⟩, by simp, rfl⟩ ?_ ?_
  · rintro k _ hk ⟨L, e1, hL, hlen, rfl⟩
    refine ⟨_, rfl, ?_⟩
    obtain ⟨L2, v2, hlen2, hL2⟩ := spans_vl (C := C) (one := one) (come := come) hk hcl (by omega) (some (.scr ns)) (some (wd ds n5)) (a2) (some (.tup (iL other))) (some (.tup (iL rates))) (some (.int (lef come rates come.length))) (some (.int (don come rates come.length))) (some (.lst (iL (donL come rates come.length)))) (some (.lst (iL (lefL come rates come.length)))) (b) (c) (some (.int ((min one.length other.length) : Nat))) (some (.lst (iL ((List.range (min one.length other.length)).map (beh one other))))) (some (.int (size : Int))) (some (.lst (iL (gapL one other (min one.length other.length))))) (some (.lst (latL one other one.length))) (f') (some (.int ((((min one.length other.length) + 1) / 2 : Nat) : Int))) (some (.int burst)) (some (.int gap)) (some (.int wait)) (some (.lst (iL ((List.range (size + 1)).map fun (a : Nat) => burst * -(-(a : Int) / gap))))) (some (.lst (L.map pr))) (a26) (a27) (a28) (a29) (a30) (a31) (a32) (a33) (a34) (a35) (a36) (a37)
    refine w_asg rfl ⟨.lst ((L ++ L2).map pr), ?_, ?_⟩
    · rw [vl_bin]
      simp only [vl, bindTg, List.set_cons_succ, List.set_cons_zero, Option.bind_some] at v2 ⊢
      rw [v2]
      simp only [getS_s, getS_z, Option.bind_some]
      rw [op_addLs (by simp only [List.length_map]; omega), List.map_append]
    · refine w_nil ⟨L ++ L2, _, fun p => ?_, by rw [List.length_append]; omega, rfl⟩
      rw [List.mem_append, hL, hL2]
      constructor
      · rintro (⟨b, e, h1, h2, h3⟩ | ⟨e, h2, h3⟩)
        · exact ⟨b, e, by omega, h2, h3⟩
        · exact ⟨k, e, by omega, h2, h3⟩
      · rintro ⟨b, e, h1, h2, h3⟩
        by_cases hb : b = k
        · subst hb; exact .inr ⟨e, h2, h3⟩
        · exact .inl ⟨b, e, by omega, h2, h3⟩
  rintro _ ⟨L, e1, hL, hlen, rfl⟩
  have fitb : ∀ b e, fit come one b e → b < come.length := fun b e h => by
    have := h.1
    have := h.2.1
    omega
  obtain ⟨v12, q12, a12'⟩ := H.h12 come one (by omega) (by omega) p1
  refine w_ifF rfl (by
    rcases a12' with ⟨rfl, hno⟩ | ⟨b, e, rfl, h1, h2, h3⟩
    · have eL : L = [] := List.eq_nil_iff_forall_not_mem.mpr fun p hp => by
        obtain ⟨b, e, _, _, h3, h4⟩ := (hL p).mp hp
        exact hno b e h3 h4
      subst eL
      have z0 : cmpop .ne (.lst []) (.lst []) = some (.bl false) := rfl
      (simp (config := { implicitDefEqProofs := false }) (disch := first | with_reducible assumption | omega | (simp only [iL_length, List.length_map, List.length_range, List.length_append, List.length_cons, List.length_nil, List.length_take, List.length_drop]; omega)) only [vl, vls, vlo, vlc, getS_z, getS_s, wipeF, bindTg, setAll, List.set_cons_succ, List.set_cons_zero, Option.map_some, Option.bind_some, Option.map_none, Option.bind_none, blOf, intOf, nat_z, ↓reduceIte, if_true, Bool.false_eq_true, if_false, sub_tupI, sub_lstI, bi_sumL, bi_sumT, bi_allM, bi_anyM, bi_lenT, bi_lenL, bi_lenD, bi_lenS, bi_tupL, bi_tupT, bi_lstT, bi_lstL, bi_intI, bi_absI, bi_min2I, bi_max2I, bi_minL, bi_maxL, cutop_tup, cutop_lst, rev_iT, rev_iLs, op_addI, op_subI, op_mulIL, op_mulIR, op_fdivI, op_modI, op_addT, op_addLs, co_eqI, co_neI, co_ltI, co_leI, co_gtI, co_geI, co_isN, co_isntN, co_eqLs, co_neLs, co_eqTs, co_neTs, iter_lst, iter_tup, compG_range, compG_iL, compG_one, compG_if, compR_one, compR_if, compQ_one, compQ_if, compQ_nil, rgV_ok, rgV2_ok, zipV_T, zipV_L, iL_length, map_pvint, map_int0, Int.toNat_natCast, decide_eq_true_eq, zip_iL, compG_rangeMap, cut_to, cut_from, cut_mid, Option.some.injEq, exists_eq_left', Nx_rt, Tu_rt, min_cast, max_cast, max1_cast, toNat_1, toNat_1', toNat_a, toNat_s, toNat_m1, toNat_0, half_cast, co_eqT0, co_neT0, co_eqL0, co_neL0, List.length_cons, List.length_nil,q12, List.map_nil, z0, r7])
    · have hin : ((b : Int), (e : Int)) ∈ L := (hL _).mpr ⟨b, e, fitb b e h1, rfl, h1, h2⟩
      have hpos : 0 < L.length := List.length_pos_of_mem hin
      have hem : L.isEmpty = false := by cases L with
        | nil => simp at hpos
        | cons _ _ => rfl
      have hmin : mnP L = ((b : Int), (e : Int)) := mnP_uniq hin fun y hy => by
        obtain ⟨b', e', _, rfl, z3, z4⟩ := (hL y).mp hy
        have := h3 b' e' z3 z4
        simp only [plt, decide_eq_false_iff_not]
        omega
      have z1 : biop .min [.lst (L.map pr)] = some (.tup [.int b, .int e]) := by rw [bi_minP hpos, hmin]; rfl
      (simp (config := { implicitDefEqProofs := false }) (disch := first | with_reducible assumption | omega | (simp only [iL_length, List.length_map, List.length_range, List.length_append, List.length_cons, List.length_nil, List.length_take, List.length_drop]; omega)) only [vl, vls, vlo, vlc, getS_z, getS_s, wipeF, bindTg, setAll, List.set_cons_succ, List.set_cons_zero, Option.map_some, Option.bind_some, Option.map_none, Option.bind_none, blOf, intOf, nat_z, ↓reduceIte, if_true, Bool.false_eq_true, if_false, sub_tupI, sub_lstI, bi_sumL, bi_sumT, bi_allM, bi_anyM, bi_lenT, bi_lenL, bi_lenD, bi_lenS, bi_tupL, bi_tupT, bi_lstT, bi_lstL, bi_intI, bi_absI, bi_min2I, bi_max2I, bi_minL, bi_maxL, cutop_tup, cutop_lst, rev_iT, rev_iLs, op_addI, op_subI, op_mulIL, op_mulIR, op_fdivI, op_modI, op_addT, op_addLs, co_eqI, co_neI, co_ltI, co_leI, co_gtI, co_geI, co_isN, co_isntN, co_eqLs, co_neLs, co_eqTs, co_neTs, iter_lst, iter_tup, compG_range, compG_iL, compG_one, compG_if, compR_one, compR_if, compQ_one, compQ_if, compQ_nil, rgV_ok, rgV2_ok, zipV_T, zipV_L, iL_length, map_pvint, map_int0, Int.toNat_natCast, decide_eq_true_eq, zip_iL, compG_rangeMap, cut_to, cut_from, cut_mid, Option.some.injEq, exists_eq_left', Nx_rt, Tu_rt, min_cast, max_cast, max1_cast, toNat_1, toNat_1', toNat_a, toNat_s, toNat_m1, toNat_0, half_cast, co_eqT0, co_neT0, co_eqL0, co_neL0, List.length_cons, List.length_nil,q12, co_neP0, hem, Bool.not_false, z1, r6])) ?_
  -- narrowest
  have q13 := H.h13 come size (by omega) (by omega)
  have hc0 : ∀ x ∈ come, 0 ≤ x := fun x hx => (hc x hx).1
  have e27 : (List.range (size + 1)).map (fun a => mxL (0 :: (List.range come.length).map fun b => ((come.drop b).take a).sum)) = nrwL come size := by
    rw [nrw_eq hc0]; rfl
  have hnl := nrwL_len come size
  ((first | (refine w_asg ?_ ?_; exact rfl) | (refine w_asgM ?_ ?_; exact rfl) | (refine w_par ?_ ?_; exact rfl) | (refine w_unp ?_ ?_; exact rfl) | (refine w_aug ?_ ?_; exact rfl) | (refine w_app ?_ ?_; exact rfl) | (refine w_setix ?_ ?_ ?_; exact rfl; exact rfl) | (refine w_ret ?_ ?_; exact rfl) | refine w_retM ?_ | refine w_pass ?_ | refine w_cnt ?_ | refine w_brk ?_ | (refine w_if ?_ ?_; exact rfl) | refine w_nil ?_))
  (simp (config := { implicitDefEqProofs := false }) (disch := first | with_reducible assumption | omega | (simp only [iL_length, List.length_map, List.length_range, List.length_append, List.length_cons, List.length_nil, List.length_take, List.length_drop]; omega)) only [vl, vls, vlo, vlc, getS_z, getS_s, wipeF, bindTg, setAll, List.set_cons_succ, List.set_cons_zero, Option.map_some, Option.bind_some, Option.map_none, Option.bind_none, blOf, intOf, nat_z, ↓reduceIte, if_true, Bool.false_eq_true, if_false, sub_tupI, sub_lstI, bi_sumL, bi_sumT, bi_allM, bi_anyM, bi_lenT, bi_lenL, bi_lenD, bi_lenS, bi_tupL, bi_tupT, bi_lstT, bi_lstL, bi_intI, bi_absI, bi_min2I, bi_max2I, bi_minL, bi_maxL, cutop_tup, cutop_lst, rev_iT, rev_iLs, op_addI, op_subI, op_mulIL, op_mulIR, op_fdivI, op_modI, op_addT, op_addLs, co_eqI, co_neI, co_ltI, co_leI, co_gtI, co_geI, co_isN, co_isntN, co_eqLs, co_neLs, co_eqTs, co_neTs, iter_lst, iter_tup, compG_range, compG_iL, compG_one, compG_if, compR_one, compR_if, compQ_one, compQ_if, compQ_nil, rgV_ok, rgV2_ok, zipV_T, zipV_L, iL_length, map_pvint, map_int0, Int.toNat_natCast, decide_eq_true_eq, zip_iL, compG_rangeMap, cut_to, cut_from, cut_mid, Option.some.injEq, exists_eq_left', Nx_rt, Tu_rt, min_cast, max_cast, max1_cast, toNat_1, toNat_1', toNat_a, toNat_s, toNat_m1, toNat_0, half_cast, co_eqT0, co_neT0, co_eqL0, co_neL0, List.length_cons, List.length_nil,q13])
  ((first | (refine w_asg ?_ ?_; exact rfl) | (refine w_asgM ?_ ?_; exact rfl) | (refine w_par ?_ ?_; exact rfl) | (refine w_unp ?_ ?_; exact rfl) | (refine w_aug ?_ ?_; exact rfl) | (refine w_app ?_ ?_; exact rfl) | (refine w_setix ?_ ?_ ?_; exact rfl; exact rfl) | (refine w_ret ?_ ?_; exact rfl) | refine w_retM ?_ | refine w_pass ?_ | refine w_cnt ?_ | refine w_brk ?_ | (refine w_if ?_ ?_; exact rfl) | refine w_nil ?_))
  (simp (config := { implicitDefEqProofs := false }) (disch := first | with_reducible assumption | omega | (simp only [iL_length, List.length_map, List.length_range, List.length_append, List.length_cons, List.length_nil, List.length_take, List.length_drop]; omega)) only [vl, vls, vlo, vlc, getS_z, getS_s, wipeF, bindTg, setAll, List.set_cons_succ, List.set_cons_zero, Option.map_some, Option.bind_some, Option.map_none, Option.bind_none, blOf, intOf, nat_z, ↓reduceIte, if_true, Bool.false_eq_true, if_false, sub_tupI, sub_lstI, bi_sumL, bi_sumT, bi_allM, bi_anyM, bi_lenT, bi_lenL, bi_lenD, bi_lenS, bi_tupL, bi_tupT, bi_lstT, bi_lstL, bi_intI, bi_absI, bi_min2I, bi_max2I, bi_minL, bi_maxL, cutop_tup, cutop_lst, rev_iT, rev_iLs, op_addI, op_subI, op_mulIL, op_mulIR, op_fdivI, op_modI, op_addT, op_addLs, co_eqI, co_neI, co_ltI, co_leI, co_gtI, co_geI, co_isN, co_isntN, co_eqLs, co_neLs, co_eqTs, co_neTs, iter_lst, iter_tup, compG_range, compG_iL, compG_one, compG_if, compR_one, compR_if, compQ_one, compQ_if, compQ_nil, rgV_ok, rgV2_ok, zipV_T, zipV_L, iL_length, map_pvint, map_int0, Int.toNat_natCast, decide_eq_true_eq, zip_iL, compG_rangeMap, cut_to, cut_from, cut_mid, Option.some.injEq, exists_eq_left', Nx_rt, Tu_rt, min_cast, max_cast, max1_cast, toNat_1, toNat_1', toNat_a, toNat_s, toNat_m1, toNat_0, half_cast, co_eqT0, co_neT0, co_eqL0, co_neL0, List.length_cons, List.length_nil,List.cons_append, List.nil_append, iL_cons', Nat.add_sub_cancel_left, e27])
  obtain ⟨v12', q12', a12''⟩ := H.h12 come (nrwL come size) (by omega) (by omega) (by omega)
  have hv12 : v12' = .non := by
    rcases a12'' with ⟨z, _⟩ | ⟨b, e, _, h1, h2, _⟩
    · exact z
    · exfalso
      obtain ⟨f1, f2, f3⟩ := h1
      unfold bad at h2
      have := nrw_ge (come := come) (s := size) (b := b) (k := e - b) (by omega) (by omega) (by omega)
      omega
  subst hv12
  refine w_ifF rfl (by (simp (config := { implicitDefEqProofs := false }) (disch := first | with_reducible assumption | omega | (simp only [iL_length, List.length_map, List.length_range, List.length_append, List.length_cons, List.length_nil, List.length_take, List.length_drop]; omega)) only [vl, vls, vlo, vlc, getS_z, getS_s, wipeF, bindTg, setAll, List.set_cons_succ, List.set_cons_zero, Option.map_some, Option.bind_some, Option.map_none, Option.bind_none, blOf, intOf, nat_z, ↓reduceIte, if_true, Bool.false_eq_true, if_false, sub_tupI, sub_lstI, bi_sumL, bi_sumT, bi_allM, bi_anyM, bi_lenT, bi_lenL, bi_lenD, bi_lenS, bi_tupL, bi_tupT, bi_lstT, bi_lstL, bi_intI, bi_absI, bi_min2I, bi_max2I, bi_minL, bi_maxL, cutop_tup, cutop_lst, rev_iT, rev_iLs, op_addI, op_subI, op_mulIL, op_mulIR, op_fdivI, op_modI, op_addT, op_addLs, co_eqI, co_neI, co_ltI, co_leI, co_gtI, co_geI, co_isN, co_isntN, co_eqLs, co_neLs, co_eqTs, co_neTs, iter_lst, iter_tup, compG_range, compG_iL, compG_one, compG_if, compR_one, compR_if, compQ_one, compQ_if, compQ_nil, rgV_ok, rgV2_ok, zipV_T, zipV_L, iL_length, map_pvint, map_int0, Int.toNat_natCast, decide_eq_true_eq, zip_iL, compG_rangeMap, cut_to, cut_from, cut_mid, Option.some.injEq, exists_eq_left', Nx_rt, Tu_rt, min_cast, max_cast, max1_cast, toNat_1, toNat_1', toNat_a, toNat_s, toNat_m1, toNat_0, half_cast, co_eqT0, co_neT0, co_eqL0, co_neL0, List.length_cons, List.length_nil,q12', isNon, _root_.eq_self, decide_true, Bool.not_true])) ?_
  -- is_kept
  have q14 := H.h14 one other (by omega) (by omega)
  rw [kept_eq] at q14
  have e14 : ∀ l : List Int, List.map (fun a => a) l = l := fun l => List.map_id' l
  refine w_ifF rfl (by (simp (config := { implicitDefEqProofs := false }) (disch := first | with_reducible assumption | omega | (simp only [iL_length, List.length_map, List.length_range, List.length_append, List.length_cons, List.length_nil, List.length_take, List.length_drop]; omega)) only [vl, vls, vlo, vlc, getS_z, getS_s, wipeF, bindTg, setAll, List.set_cons_succ, List.set_cons_zero, Option.map_some, Option.bind_some, Option.map_none, Option.bind_none, blOf, intOf, nat_z, ↓reduceIte, if_true, Bool.false_eq_true, if_false, sub_tupI, sub_lstI, bi_sumL, bi_sumT, bi_allM, bi_anyM, bi_lenT, bi_lenL, bi_lenD, bi_lenS, bi_tupL, bi_tupT, bi_lstT, bi_lstL, bi_intI, bi_absI, bi_min2I, bi_max2I, bi_minL, bi_maxL, cutop_tup, cutop_lst, rev_iT, rev_iLs, op_addI, op_subI, op_mulIL, op_mulIR, op_fdivI, op_modI, op_addT, op_addLs, co_eqI, co_neI, co_ltI, co_leI, co_gtI, co_geI, co_isN, co_isntN, co_eqLs, co_neLs, co_eqTs, co_neTs, iter_lst, iter_tup, compG_range, compG_iL, compG_one, compG_if, compR_one, compR_if, compQ_one, compQ_if, compQ_nil, rgV_ok, rgV2_ok, zipV_T, zipV_L, iL_length, map_pvint, map_int0, Int.toNat_natCast, decide_eq_true_eq, zip_iL, compG_rangeMap, cut_to, cut_from, cut_mid, Option.some.injEq, exists_eq_left', Nx_rt, Tu_rt, min_cast, max_cast, max1_cast, toNat_1, toNat_1', toNat_a, toNat_s, toNat_m1, toNat_0, half_cast, co_eqT0, co_neT0, co_eqL0, co_neL0, List.length_cons, List.length_nil,q14, e14, H.h19, beq_self_eq_true, Bool.not_true])) ?_
  -- things
  refine w_asgE (ve_next (m := (one.length : Int)) H.nx rfl rfl (by (simp (config := { implicitDefEqProofs := false }) (disch := first | with_reducible assumption | omega | (simp only [iL_length, List.length_map, List.length_range, List.length_append, List.length_cons, List.length_nil, List.length_take, List.length_drop]; omega)) only [vl, vls, vlo, vlc, getS_z, getS_s, wipeF, bindTg, setAll, List.set_cons_succ, List.set_cons_zero, Option.map_some, Option.bind_some, Option.map_none, Option.bind_none, blOf, intOf, nat_z, ↓reduceIte, if_true, Bool.false_eq_true, if_false, sub_tupI, sub_lstI, bi_sumL, bi_sumT, bi_allM, bi_anyM, bi_lenT, bi_lenL, bi_lenD, bi_lenS, bi_tupL, bi_tupT, bi_lstT, bi_lstL, bi_intI, bi_absI, bi_min2I, bi_max2I, bi_minL, bi_maxL, cutop_tup, cutop_lst, rev_iT, rev_iLs, op_addI, op_subI, op_mulIL, op_mulIR, op_fdivI, op_modI, op_addT, op_addLs, co_eqI, co_neI, co_ltI, co_leI, co_gtI, co_geI, co_isN, co_isntN, co_eqLs, co_neLs, co_eqTs, co_neTs, iter_lst, iter_tup, compG_range, compG_iL, compG_one, compG_if, compR_one, compR_if, compQ_one, compQ_if, compQ_nil, rgV_ok, rgV2_ok, zipV_T, zipV_L, iL_length, map_pvint, map_int0, Int.toNat_natCast, decide_eq_true_eq, zip_iL, compG_rangeMap, cut_to, cut_from, cut_mid, Option.some.injEq, exists_eq_left', Nx_rt, Tu_rt, min_cast, max_cast, max1_cast, toNat_1, toNat_1', toNat_a, toNat_s, toNat_m1, toNat_0, half_cast, co_eqT0, co_neT0, co_eqL0, co_neL0, List.length_cons, List.length_nil])) (by omega) fun r hr hr' => ?_)
  obtain ⟨q, rfl⟩ := Int.eq_ofNat_of_zero_le hr
  show W C _ [some (.scr ns), some (wd ds (n5 + 1)), a2, some (.tup (iL one)), some (.tup (iL other)), some (.tup (iL come)), some (.tup (iL rates)), some (.int (lef come rates come.length)), some (.int (don come rates come.length)), some (.lst (iL (donL come rates come.length))), some (.lst (iL (lefL come rates come.length))), b, c, some (.int ((min one.length other.length) : Nat)), some (.lst (iL ((List.range (min one.length other.length)).map (beh one other)))), some (.int (size : Int)), some (.lst (iL (gapL one other (min one.length other.length)))), some (.lst (latL one other one.length)), f', some (.int ((((min one.length other.length) + 1) / 2 : Nat) : Int)), some (.int burst), some (.int gap), some (.int wait), some (.lst (iL ((List.range (size + 1)).map fun (a : Nat) => burst * -(-(a : Int) / gap)))), some (.lst (L.map pr)), e1, some (.tup (iL (nrwL come size))), some (.lst (iL (nrwL come size))), some (.int (q : Int)), a29, a30, a31, a32, a33, a34, a35, a36, a37] _
  ((first | (refine w_asg ?_ ?_; exact rfl) | (refine w_asgM ?_ ?_; exact rfl) | (refine w_par ?_ ?_; exact rfl) | (refine w_unp ?_ ?_; exact rfl) | (refine w_aug ?_ ?_; exact rfl) | (refine w_app ?_ ?_; exact rfl) | (refine w_setix ?_ ?_ ?_; exact rfl; exact rfl) | (refine w_ret ?_ ?_; exact rfl) | refine w_retM ?_ | refine w_pass ?_ | refine w_cnt ?_ | refine w_brk ?_ | (refine w_if ?_ ?_; exact rfl) | refine w_nil ?_))
  (simp (config := { implicitDefEqProofs := false }) (disch := first | with_reducible assumption | omega | (simp only [iL_length, List.length_map, List.length_range, List.length_append, List.length_cons, List.length_nil, List.length_take, List.length_drop]; omega)) only [vl, vls, vlo, vlc, getS_z, getS_s, wipeF, bindTg, setAll, List.set_cons_succ, List.set_cons_zero, Option.map_some, Option.bind_some, Option.map_none, Option.bind_none, blOf, intOf, nat_z, ↓reduceIte, if_true, Bool.false_eq_true, if_false, sub_tupI, sub_lstI, bi_sumL, bi_sumT, bi_allM, bi_anyM, bi_lenT, bi_lenL, bi_lenD, bi_lenS, bi_tupL, bi_tupT, bi_lstT, bi_lstL, bi_intI, bi_absI, bi_min2I, bi_max2I, bi_minL, bi_maxL, cutop_tup, cutop_lst, rev_iT, rev_iLs, op_addI, op_subI, op_mulIL, op_mulIR, op_fdivI, op_modI, op_addT, op_addLs, co_eqI, co_neI, co_ltI, co_leI, co_gtI, co_geI, co_isN, co_isntN, co_eqLs, co_neLs, co_eqTs, co_neTs, iter_lst, iter_tup, compG_range, compG_iL, compG_one, compG_if, compR_one, compR_if, compQ_one, compQ_if, compQ_nil, rgV_ok, rgV2_ok, zipV_T, zipV_L, iL_length, map_pvint, map_int0, Int.toNat_natCast, decide_eq_true_eq, zip_iL, compG_rangeMap, cut_to, cut_from, cut_mid, Option.some.injEq, exists_eq_left', Nx_rt, Tu_rt, min_cast, max_cast, max1_cast, toNat_1, toNat_1', toNat_a, toNat_s, toNat_m1, toNat_0, half_cast, co_eqT0, co_neT0, co_eqL0, co_neL0, List.length_cons, List.length_nil,parChk, Bool.not_false, Bool.true_or, Bool.true_and, true_and])
  have ht1 : (one.take q).length ≤ 9 := by rw [List.length_take]; omega
  have ht2 : (one.drop (q + 1)).length ≤ 9 := by rw [List.length_drop]; omega
  have ht3 : (one.take q).length + (one.drop (q + 1)).length ≤ 99 := by omega
  ((first | (refine w_asg ?_ ?_; exact rfl) | (refine w_asgM ?_ ?_; exact rfl) | (refine w_par ?_ ?_; exact rfl) | (refine w_unp ?_ ?_; exact rfl) | (refine w_aug ?_ ?_; exact rfl) | (refine w_app ?_ ?_; exact rfl) | (refine w_setix ?_ ?_ ?_; exact rfl; exact rfl) | (refine w_ret ?_ ?_; exact rfl) | refine w_retM ?_ | refine w_pass ?_ | refine w_cnt ?_ | refine w_brk ?_ | (refine w_if ?_ ?_; exact rfl) | refine w_nil ?_))
  (simp (config := { implicitDefEqProofs := false }) (disch := first | with_reducible assumption | omega | (simp only [iL_length, List.length_map, List.length_range, List.length_append, List.length_cons, List.length_nil, List.length_take, List.length_drop]; omega)) only [vl, vls, vlo, vlc, getS_z, getS_s, wipeF, bindTg, setAll, List.set_cons_succ, List.set_cons_zero, Option.map_some, Option.bind_some, Option.map_none, Option.bind_none, blOf, intOf, nat_z, ↓reduceIte, if_true, Bool.false_eq_true, if_false, sub_tupI, sub_lstI, bi_sumL, bi_sumT, bi_allM, bi_anyM, bi_lenT, bi_lenL, bi_lenD, bi_lenS, bi_tupL, bi_tupT, bi_lstT, bi_lstL, bi_intI, bi_absI, bi_min2I, bi_max2I, bi_minL, bi_maxL, cutop_tup, cutop_lst, rev_iT, rev_iLs, op_addI, op_subI, op_mulIL, op_mulIR, op_fdivI, op_modI, op_addT, op_addLs, co_eqI, co_neI, co_ltI, co_leI, co_gtI, co_geI, co_isN, co_isntN, co_eqLs, co_neLs, co_eqTs, co_neTs, iter_lst, iter_tup, compG_range, compG_iL, compG_one, compG_if, compR_one, compR_if, compQ_one, compQ_if, compQ_nil, rgV_ok, rgV2_ok, zipV_T, zipV_L, iL_length, map_pvint, map_int0, Int.toNat_natCast, decide_eq_true_eq, zip_iL, compG_rangeMap, cut_to, cut_from, cut_mid, Option.some.injEq, exists_eq_left', Nx_rt, Tu_rt, min_cast, max_cast, max1_cast, toNat_1, toNat_1', toNat_a, toNat_s, toNat_m1, toNat_0, half_cast, co_eqT0, co_neT0, co_eqL0, co_neL0, List.length_cons, List.length_nil,List.map_cons, List.map_nil, List.cons_append, List.nil_append])
  refine w_each (I := fun fr => ∃ u32 u33, fr = [some (.scr ns), some (wd ds (n5 + 1)), a2, some (.tup (iL one)), some (.tup (iL other)), some (.tup (iL come)), some (.tup (iL rates)), some (.int (lef come rates come.length)), some (.int (don come rates come.length)), some (.lst (iL (donL come rates come.length))), some (.lst (iL (lefL come rates come.length))), b, c, some (.int ((min one.length other.length) : Nat)), some (.lst (iL ((List.range (min one.length other.length)).map (beh one other)))), some (.int (size : Int)), some (.lst (iL (gapL one other (min one.length other.length)))), some (.lst (latL one other one.length)), f', some (.int ((((min one.length other.length) + 1) / 2 : Nat) : Int)), some (.int burst), some (.int gap), some (.int wait), some (.lst (iL ((List.range (size + 1)).map fun (a : Nat) => burst * -(-(a : Int) / gap)))), some (.lst (L.map pr)), e1, some (.tup (iL (nrwL come size))), some (.lst (iL (nrwL come size))), some (.int (q : Int)), some (.tup (iL (one.take q))), some (.tup (iL (one.drop (q + 1)))), some (.lst [.tup (iL one), .tup (iL one.reverse), .lst (iL one), .non, .tup [], .tup [.int 0], .tup [.bl false], .tup (iL (one.take q) ++ [.int (-1)] ++ iL (one.drop (q + 1))), .tup (iL (one.take q) ++ [.bl true] ++ iL (one.drop (q + 1))), .tup (iL (one.take q) ++ [.int 99] ++ iL (one.drop (q + 1))), .tup (iL (one.take q) ++ [.str [97]] ++ iL (one.drop (q + 1)))]), u32, u33, a34, a35, a36, a37]) rfl (by simp only [vl, getS_s, getS_z]; rfl) rfl ⟨_, _, rfl⟩ ?_ ?_
  · rintro y hy _ ⟨u32, u33, rfl⟩
    have hTO : TO y := by
      simp only [List.mem_cons, List.not_mem_nil, or_false] at hy
      rcases hy with rfl | rfl | rfl | rfl | rfl | rfl | rfl | rfl | rfl | rfl | rfl
      · exact .tup _ (by omega)
      · exact .tup _ (by rw [List.length_reverse]; omega)
      · exact .lst _
      · exact .non
      · exact .tup [] (by simp)
      · exact .tup [0] (by simp)
      · exact to_odd (xs := []) (ys := []) (x := .bl false) rfl rfl rfl rfl
      · exact to_int ht3
      · exact to_odd rfl rfl rfl rfl
      · exact to_int ht3
      · exact to_odd rfl rfl rfl rfl
    clear hy
    refine ⟨_, rfl, ?_⟩
    cases hTO with
    | non =>
      have q2 := H.h2n .non rfl (fun _ z => by cases z)
      ((first | (refine w_asg ?_ ?_; exact rfl) | (refine w_asgM ?_ ?_; exact rfl) | (refine w_par ?_ ?_; exact rfl) | (refine w_unp ?_ ?_; exact rfl) | (refine w_aug ?_ ?_; exact rfl) | (refine w_app ?_ ?_; exact rfl) | (refine w_setix ?_ ?_ ?_; exact rfl; exact rfl) | (refine w_ret ?_ ?_; exact rfl) | refine w_retM ?_ | refine w_pass ?_ | refine w_cnt ?_ | refine w_brk ?_ | (refine w_if ?_ ?_; exact rfl) | refine w_nil ?_))
      (simp (config := { implicitDefEqProofs := false }) (disch := first | with_reducible assumption | omega | (simp only [iL_length, List.length_map, List.length_range, List.length_append, List.length_cons, List.length_nil, List.length_take, List.length_drop]; omega)) only [vl, vls, vlo, vlc, getS_z, getS_s, wipeF, bindTg, setAll, List.set_cons_succ, List.set_cons_zero, Option.map_some, Option.bind_some, Option.map_none, Option.bind_none, blOf, intOf, nat_z, ↓reduceIte, if_true, Bool.false_eq_true, if_false, sub_tupI, sub_lstI, bi_sumL, bi_sumT, bi_allM, bi_anyM, bi_lenT, bi_lenL, bi_lenD, bi_lenS, bi_tupL, bi_tupT, bi_lstT, bi_lstL, bi_intI, bi_absI, bi_min2I, bi_max2I, bi_minL, bi_maxL, cutop_tup, cutop_lst, rev_iT, rev_iLs, op_addI, op_subI, op_mulIL, op_mulIR, op_fdivI, op_modI, op_addT, op_addLs, co_eqI, co_neI, co_ltI, co_leI, co_gtI, co_geI, co_isN, co_isntN, co_eqLs, co_neLs, co_eqTs, co_neTs, iter_lst, iter_tup, compG_range, compG_iL, compG_one, compG_if, compR_one, compR_if, compQ_one, compQ_if, compQ_nil, rgV_ok, rgV2_ok, zipV_T, zipV_L, iL_length, map_pvint, map_int0, Int.toNat_natCast, decide_eq_true_eq, zip_iL, compG_rangeMap, cut_to, cut_from, cut_mid, Option.some.injEq, exists_eq_left', Nx_rt, Tu_rt, min_cast, max_cast, max1_cast, toNat_1, toNat_1', toNat_a, toNat_s, toNat_m1, toNat_0, half_cast, co_eqT0, co_neT0, co_eqL0, co_neL0, List.length_cons, List.length_nil,isTy])
      refine w_ifF rfl (by (simp (config := { implicitDefEqProofs := false }) (disch := first | with_reducible assumption | omega | (simp only [iL_length, List.length_map, List.length_range, List.length_append, List.length_cons, List.length_nil, List.length_take, List.length_drop]; omega)) only [vl, vls, vlo, vlc, getS_z, getS_s, wipeF, bindTg, setAll, List.set_cons_succ, List.set_cons_zero, Option.map_some, Option.bind_some, Option.map_none, Option.bind_none, blOf, intOf, nat_z, ↓reduceIte, if_true, Bool.false_eq_true, if_false, sub_tupI, sub_lstI, bi_sumL, bi_sumT, bi_allM, bi_anyM, bi_lenT, bi_lenL, bi_lenD, bi_lenS, bi_tupL, bi_tupT, bi_lstT, bi_lstL, bi_intI, bi_absI, bi_min2I, bi_max2I, bi_minL, bi_maxL, cutop_tup, cutop_lst, rev_iT, rev_iLs, op_addI, op_subI, op_mulIL, op_mulIR, op_fdivI, op_modI, op_addT, op_addLs, co_eqI, co_neI, co_ltI, co_leI, co_gtI, co_geI, co_isN, co_isntN, co_eqLs, co_neLs, co_eqTs, co_neTs, iter_lst, iter_tup, compG_range, compG_iL, compG_one, compG_if, compR_one, compR_if, compQ_one, compQ_if, compQ_nil, rgV_ok, rgV2_ok, zipV_T, zipV_L, iL_length, map_pvint, map_int0, Int.toNat_natCast, decide_eq_true_eq, zip_iL, compG_rangeMap, cut_to, cut_from, cut_mid, Option.some.injEq, exists_eq_left', Nx_rt, Tu_rt, min_cast, max_cast, max1_cast, toNat_1, toNat_1', toNat_a, toNat_s, toNat_m1, toNat_0, half_cast, co_eqT0, co_neT0, co_eqL0, co_neL0, List.length_cons, List.length_nil,q2, H.h19, beq_self_eq_true, Bool.not_true])) (w_nil ⟨_, _, rfl⟩)
    | lst l =>
      have q2 := H.h2n (.lst (iL l)) rfl (fun _ z => by cases z)
      ((first | (refine w_asg ?_ ?_; exact rfl) | (refine w_asgM ?_ ?_; exact rfl) | (refine w_par ?_ ?_; exact rfl) | (refine w_unp ?_ ?_; exact rfl) | (refine w_aug ?_ ?_; exact rfl) | (refine w_app ?_ ?_; exact rfl) | (refine w_setix ?_ ?_ ?_; exact rfl; exact rfl) | (refine w_ret ?_ ?_; exact rfl) | refine w_retM ?_ | refine w_pass ?_ | refine w_cnt ?_ | refine w_brk ?_ | (refine w_if ?_ ?_; exact rfl) | refine w_nil ?_))
      (simp (config := { implicitDefEqProofs := false }) (disch := first | with_reducible assumption | omega | (simp only [iL_length, List.length_map, List.length_range, List.length_append, List.length_cons, List.length_nil, List.length_take, List.length_drop]; omega)) only [vl, vls, vlo, vlc, getS_z, getS_s, wipeF, bindTg, setAll, List.set_cons_succ, List.set_cons_zero, Option.map_some, Option.bind_some, Option.map_none, Option.bind_none, blOf, intOf, nat_z, ↓reduceIte, if_true, Bool.false_eq_true, if_false, sub_tupI, sub_lstI, bi_sumL, bi_sumT, bi_allM, bi_anyM, bi_lenT, bi_lenL, bi_lenD, bi_lenS, bi_tupL, bi_tupT, bi_lstT, bi_lstL, bi_intI, bi_absI, bi_min2I, bi_max2I, bi_minL, bi_maxL, cutop_tup, cutop_lst, rev_iT, rev_iLs, op_addI, op_subI, op_mulIL, op_mulIR, op_fdivI, op_modI, op_addT, op_addLs, co_eqI, co_neI, co_ltI, co_leI, co_gtI, co_geI, co_isN, co_isntN, co_eqLs, co_neLs, co_eqTs, co_neTs, iter_lst, iter_tup, compG_range, compG_iL, compG_one, compG_if, compR_one, compR_if, compQ_one, compQ_if, compQ_nil, rgV_ok, rgV2_ok, zipV_T, zipV_L, iL_length, map_pvint, map_int0, Int.toNat_natCast, decide_eq_true_eq, zip_iL, compG_rangeMap, cut_to, cut_from, cut_mid, Option.some.injEq, exists_eq_left', Nx_rt, Tu_rt, min_cast, max_cast, max1_cast, toNat_1, toNat_1', toNat_a, toNat_s, toNat_m1, toNat_0, half_cast, co_eqT0, co_neT0, co_eqL0, co_neL0, List.length_cons, List.length_nil,isTy])
      refine w_ifF rfl (by (simp (config := { implicitDefEqProofs := false }) (disch := first | with_reducible assumption | omega | (simp only [iL_length, List.length_map, List.length_range, List.length_append, List.length_cons, List.length_nil, List.length_take, List.length_drop]; omega)) only [vl, vls, vlo, vlc, getS_z, getS_s, wipeF, bindTg, setAll, List.set_cons_succ, List.set_cons_zero, Option.map_some, Option.bind_some, Option.map_none, Option.bind_none, blOf, intOf, nat_z, ↓reduceIte, if_true, Bool.false_eq_true, if_false, sub_tupI, sub_lstI, bi_sumL, bi_sumT, bi_allM, bi_anyM, bi_lenT, bi_lenL, bi_lenD, bi_lenS, bi_tupL, bi_tupT, bi_lstT, bi_lstL, bi_intI, bi_absI, bi_min2I, bi_max2I, bi_minL, bi_maxL, cutop_tup, cutop_lst, rev_iT, rev_iLs, op_addI, op_subI, op_mulIL, op_mulIR, op_fdivI, op_modI, op_addT, op_addLs, co_eqI, co_neI, co_ltI, co_leI, co_gtI, co_geI, co_isN, co_isntN, co_eqLs, co_neLs, co_eqTs, co_neTs, iter_lst, iter_tup, compG_range, compG_iL, compG_one, compG_if, compR_one, compR_if, compQ_one, compQ_if, compQ_nil, rgV_ok, rgV2_ok, zipV_T, zipV_L, iL_length, map_pvint, map_int0, Int.toNat_natCast, decide_eq_true_eq, zip_iL, compG_rangeMap, cut_to, cut_from, cut_mid, Option.some.injEq, exists_eq_left', Nx_rt, Tu_rt, min_cast, max_cast, max1_cast, toNat_1, toNat_1', toNat_a, toNat_s, toNat_m1, toNat_0, half_cast, co_eqT0, co_neT0, co_eqL0, co_neL0, List.length_cons, List.length_nil,q2, H.h19, beq_self_eq_true, Bool.not_true])) (w_nil ⟨_, _, rfl⟩)
    | tup l hl =>
      have q2 := H.h2 l (by omega)
      have q18 : ∀ a : Int, C 18 [.int a] = some (.bl true, []) := fun a => H.h18 (.int a) rfl
      have cf : compG (fun _ : Int => (some [] : Option (List PV))) l = some [] := by
        clear q2 hl
        induction l with
        | nil => rfl
        | cons a l ih => simp [compG, ih]
      have ce : cmpop .eq (.lst []) (.lst []) = some (.bl true) := rfl
      by_cases hne : l = []
      · subst hne
        ((first | (refine w_asg ?_ ?_; exact rfl) | (refine w_asgM ?_ ?_; exact rfl) | (refine w_par ?_ ?_; exact rfl) | (refine w_unp ?_ ?_; exact rfl) | (refine w_aug ?_ ?_; exact rfl) | (refine w_app ?_ ?_; exact rfl) | (refine w_setix ?_ ?_ ?_; exact rfl; exact rfl) | (refine w_ret ?_ ?_; exact rfl) | refine w_retM ?_ | refine w_pass ?_ | refine w_cnt ?_ | refine w_brk ?_ | (refine w_if ?_ ?_; exact rfl) | refine w_nil ?_))
        (simp (config := { implicitDefEqProofs := false }) (disch := first | with_reducible assumption | omega | (simp only [iL_length, List.length_map, List.length_range, List.length_append, List.length_cons, List.length_nil, List.length_take, List.length_drop]; omega)) only [vl, vls, vlo, vlc, getS_z, getS_s, wipeF, bindTg, setAll, List.set_cons_succ, List.set_cons_zero, Option.map_some, Option.bind_some, Option.map_none, Option.bind_none, blOf, intOf, nat_z, ↓reduceIte, if_true, Bool.false_eq_true, if_false, sub_tupI, sub_lstI, bi_sumL, bi_sumT, bi_allM, bi_anyM, bi_lenT, bi_lenL, bi_lenD, bi_lenS, bi_tupL, bi_tupT, bi_lstT, bi_lstL, bi_intI, bi_absI, bi_min2I, bi_max2I, bi_minL, bi_maxL, cutop_tup, cutop_lst, rev_iT, rev_iLs, op_addI, op_subI, op_mulIL, op_mulIR, op_fdivI, op_modI, op_addT, op_addLs, co_eqI, co_neI, co_ltI, co_leI, co_gtI, co_geI, co_isN, co_isntN, co_eqLs, co_neLs, co_eqTs, co_neTs, iter_lst, iter_tup, compG_range, compG_iL, compG_one, compG_if, compR_one, compR_if, compQ_one, compQ_if, compQ_nil, rgV_ok, rgV2_ok, zipV_T, zipV_L, iL_length, map_pvint, map_int0, Int.toNat_natCast, decide_eq_true_eq, zip_iL, compG_rangeMap, cut_to, cut_from, cut_mid, Option.some.injEq, exists_eq_left', Nx_rt, Tu_rt, min_cast, max_cast, max1_cast, toNat_1, toNat_1', toNat_a, toNat_s, toNat_m1, toNat_0, half_cast, co_eqT0, co_neT0, co_eqL0, co_neL0, List.length_cons, List.length_nil,isTy, q18, cf, ce, _root_.eq_self, decide_true, Bool.not_true])
        have hcb : curveB [] = false := rfl
        refine w_ifF rfl (by (simp (config := { implicitDefEqProofs := false }) (disch := first | with_reducible assumption | omega | (simp only [iL_length, List.length_map, List.length_range, List.length_append, List.length_cons, List.length_nil, List.length_take, List.length_drop]; omega)) only [vl, vls, vlo, vlc, getS_z, getS_s, wipeF, bindTg, setAll, List.set_cons_succ, List.set_cons_zero, Option.map_some, Option.bind_some, Option.map_none, Option.bind_none, blOf, intOf, nat_z, ↓reduceIte, if_true, Bool.false_eq_true, if_false, sub_tupI, sub_lstI, bi_sumL, bi_sumT, bi_allM, bi_anyM, bi_lenT, bi_lenL, bi_lenD, bi_lenS, bi_tupL, bi_tupT, bi_lstT, bi_lstL, bi_intI, bi_absI, bi_min2I, bi_max2I, bi_minL, bi_maxL, cutop_tup, cutop_lst, rev_iT, rev_iLs, op_addI, op_subI, op_mulIL, op_mulIR, op_fdivI, op_modI, op_addT, op_addLs, co_eqI, co_neI, co_ltI, co_leI, co_gtI, co_geI, co_isN, co_isntN, co_eqLs, co_neLs, co_eqTs, co_neTs, iter_lst, iter_tup, compG_range, compG_iL, compG_one, compG_if, compR_one, compR_if, compQ_one, compQ_if, compQ_nil, rgV_ok, rgV2_ok, zipV_T, zipV_L, iL_length, map_pvint, map_int0, Int.toNat_natCast, decide_eq_true_eq, zip_iL, compG_rangeMap, cut_to, cut_from, cut_mid, Option.some.injEq, exists_eq_left', Nx_rt, Tu_rt, min_cast, max_cast, max1_cast, toNat_1, toNat_1', toNat_a, toNat_s, toNat_m1, toNat_0, half_cast, co_eqT0, co_neT0, co_eqL0, co_neL0, List.length_cons, List.length_nil,q2, hcb, H.h19, beq_self_eq_true, Bool.not_true])) (w_nil ⟨_, _, rfl⟩)
      · have hpos := List.length_pos_iff.mpr hne
        ((first | (refine w_asg ?_ ?_; exact rfl) | (refine w_asgM ?_ ?_; exact rfl) | (refine w_par ?_ ?_; exact rfl) | (refine w_unp ?_ ?_; exact rfl) | (refine w_aug ?_ ?_; exact rfl) | (refine w_app ?_ ?_; exact rfl) | (refine w_setix ?_ ?_ ?_; exact rfl; exact rfl) | (refine w_ret ?_ ?_; exact rfl) | refine w_retM ?_ | refine w_pass ?_ | refine w_cnt ?_ | refine w_brk ?_ | (refine w_if ?_ ?_; exact rfl) | refine w_nil ?_))
        (simp (config := { implicitDefEqProofs := false }) (disch := first | with_reducible assumption | omega | (simp only [iL_length, List.length_map, List.length_range, List.length_append, List.length_cons, List.length_nil, List.length_take, List.length_drop]; omega)) only [vl, vls, vlo, vlc, getS_z, getS_s, wipeF, bindTg, setAll, List.set_cons_succ, List.set_cons_zero, Option.map_some, Option.bind_some, Option.map_none, Option.bind_none, blOf, intOf, nat_z, ↓reduceIte, if_true, Bool.false_eq_true, if_false, sub_tupI, sub_lstI, bi_sumL, bi_sumT, bi_allM, bi_anyM, bi_lenT, bi_lenL, bi_lenD, bi_lenS, bi_tupL, bi_tupT, bi_lstT, bi_lstL, bi_intI, bi_absI, bi_min2I, bi_max2I, bi_minL, bi_maxL, cutop_tup, cutop_lst, rev_iT, rev_iLs, op_addI, op_subI, op_mulIL, op_mulIR, op_fdivI, op_modI, op_addT, op_addLs, co_eqI, co_neI, co_ltI, co_leI, co_gtI, co_geI, co_isN, co_isntN, co_eqLs, co_neLs, co_eqTs, co_neTs, iter_lst, iter_tup, compG_range, compG_iL, compG_one, compG_if, compR_one, compR_if, compQ_one, compQ_if, compQ_nil, rgV_ok, rgV2_ok, zipV_T, zipV_L, iL_length, map_pvint, map_int0, Int.toNat_natCast, decide_eq_true_eq, zip_iL, compG_rangeMap, cut_to, cut_from, cut_mid, Option.some.injEq, exists_eq_left', Nx_rt, Tu_rt, min_cast, max_cast, max1_cast, toNat_1, toNat_1', toNat_a, toNat_s, toNat_m1, toNat_0, half_cast, co_eqT0, co_neT0, co_eqL0, co_neL0, List.length_cons, List.length_nil,isTy, q18, cf, ce, hne, decide_false, Bool.not_false, Bool.not_true])
        have hcb : curveB l = if 0 ≤ at' l 0 then decide (l = l.mergeSort fun a b => decide (a ≤ b)) else false := by
          rw [sorted_eq]
          unfold curveB
          by_cases h0 : 0 ≤ at' l 0
          · simp [hne, h0]
          · simp [hne, h0]
        refine w_ifF rfl (by (simp (config := { implicitDefEqProofs := false }) (disch := first | with_reducible assumption | omega | (simp only [iL_length, List.length_map, List.length_range, List.length_append, List.length_cons, List.length_nil, List.length_take, List.length_drop]; omega)) only [vl, vls, vlo, vlc, getS_z, getS_s, wipeF, bindTg, setAll, List.set_cons_succ, List.set_cons_zero, Option.map_some, Option.bind_some, Option.map_none, Option.bind_none, blOf, intOf, nat_z, ↓reduceIte, if_true, Bool.false_eq_true, if_false, sub_tupI, sub_lstI, bi_sumL, bi_sumT, bi_allM, bi_anyM, bi_lenT, bi_lenL, bi_lenD, bi_lenS, bi_tupL, bi_tupT, bi_lstT, bi_lstL, bi_intI, bi_absI, bi_min2I, bi_max2I, bi_minL, bi_maxL, cutop_tup, cutop_lst, rev_iT, rev_iLs, op_addI, op_subI, op_mulIL, op_mulIR, op_fdivI, op_modI, op_addT, op_addLs, co_eqI, co_neI, co_ltI, co_leI, co_gtI, co_geI, co_isN, co_isntN, co_eqLs, co_neLs, co_eqTs, co_neTs, iter_lst, iter_tup, compG_range, compG_iL, compG_one, compG_if, compR_one, compR_if, compQ_one, compQ_if, compQ_nil, rgV_ok, rgV2_ok, zipV_T, zipV_L, iL_length, map_pvint, map_int0, Int.toNat_natCast, decide_eq_true_eq, zip_iL, compG_rangeMap, cut_to, cut_from, cut_mid, Option.some.injEq, exists_eq_left', Nx_rt, Tu_rt, min_cast, max_cast, max1_cast, toNat_1, toNat_1', toNat_a, toNat_s, toNat_m1, toNat_0, half_cast, co_eqT0, co_neT0, co_eqL0, co_neL0, List.length_cons, List.length_nil,q2, hcb, sort_iL, ite_sbl, H.h19, beq_self_eq_true, Bool.not_true])) (w_nil ⟨_, _, rfl⟩)
    | odd xs hsm hd hdp hn =>
      have q2 := H.h2b xs hsm hn
      have q18 : ∀ x ∈ xs, C 18 [x] = some (.bl (isNum x), []) := fun x hx => H.h18 x (hsm x hx)
      have hne : xs.isEmpty = false := by
        cases xs with
        | nil => simp at hn
        | cons _ _ => rfl
      have hfl : (xs.filter fun x => decide ((!isNum x) = true)).isEmpty = false := by
        rw [Bool.eq_false_iff]
        intro z
        rw [List.isEmpty_iff, List.filter_eq_nil_iff] at z
        have : xs.all isNum = true := List.all_eq_true.mpr fun x hx => by simpa using z x hx
        rw [this] at hn
        cases hn
      have hf2 : cmpop .eq (.lst (xs.filter fun x => decide ((!isNum x) = true))) (.lst []) = some (.bl false) := by
        rw [co_eqL00 (datOkL_filter hd) (Nat.le_trans depthL_filter hdp), hfl]
      have e0 : ∀ l : List PV, List.map (fun a => a) l = l := fun l => List.map_id' l
      ((first | (refine w_asg ?_ ?_; exact rfl) | (refine w_asgM ?_ ?_; exact rfl) | (refine w_par ?_ ?_; exact rfl) | (refine w_unp ?_ ?_; exact rfl) | (refine w_aug ?_ ?_; exact rfl) | (refine w_app ?_ ?_; exact rfl) | (refine w_setix ?_ ?_ ?_; exact rfl; exact rfl) | (refine w_ret ?_ ?_; exact rfl) | refine w_retM ?_ | refine w_pass ?_ | refine w_cnt ?_ | refine w_brk ?_ | (refine w_if ?_ ?_; exact rfl) | refine w_nil ?_))
      (simp (config := { implicitDefEqProofs := false }) (disch := first | with_reducible assumption | omega | (simp only [iL_length, List.length_map, List.length_range, List.length_append, List.length_cons, List.length_nil, List.length_take, List.length_drop]; omega)) only [vl, vls, vlo, vlc, getS_z, getS_s, wipeF, bindTg, setAll, List.set_cons_succ, List.set_cons_zero, Option.map_some, Option.bind_some, Option.map_none, Option.bind_none, blOf, intOf, nat_z, ↓reduceIte, if_true, Bool.false_eq_true, if_false, sub_tupI, sub_lstI, bi_sumL, bi_sumT, bi_allM, bi_anyM, bi_lenT, bi_lenL, bi_lenD, bi_lenS, bi_tupL, bi_tupT, bi_lstT, bi_lstL, bi_intI, bi_absI, bi_min2I, bi_max2I, bi_minL, bi_maxL, cutop_tup, cutop_lst, rev_iT, rev_iLs, op_addI, op_subI, op_mulIL, op_mulIR, op_fdivI, op_modI, op_addT, op_addLs, co_eqI, co_neI, co_ltI, co_leI, co_gtI, co_geI, co_isN, co_isntN, co_eqLs, co_neLs, co_eqTs, co_neTs, iter_lst, iter_tup, compG_range, compG_iL, compG_one, compG_if, compR_one, compR_if, compQ_one, compQ_if, compQ_nil, rgV_ok, rgV2_ok, zipV_T, zipV_L, iL_length, map_pvint, map_int0, Int.toNat_natCast, decide_eq_true_eq, zip_iL, compG_rangeMap, cut_to, cut_from, cut_mid, Option.some.injEq, exists_eq_left', Nx_rt, Tu_rt, min_cast, max_cast, max1_cast, toNat_1, toNat_1', toNat_a, toNat_s, toNat_m1, toNat_0, half_cast, co_eqT0, co_neT0, co_eqL0, co_neL0, List.length_cons, List.length_nil,isTy, q18, compG_memC, co_neT00 hd hdp, hne, Bool.not_false, e0, hf2])
      refine w_ifF rfl (by (simp (config := { implicitDefEqProofs := false }) (disch := first | with_reducible assumption | omega | (simp only [iL_length, List.length_map, List.length_range, List.length_append, List.length_cons, List.length_nil, List.length_take, List.length_drop]; omega)) only [vl, vls, vlo, vlc, getS_z, getS_s, wipeF, bindTg, setAll, List.set_cons_succ, List.set_cons_zero, Option.map_some, Option.bind_some, Option.map_none, Option.bind_none, blOf, intOf, nat_z, ↓reduceIte, if_true, Bool.false_eq_true, if_false, sub_tupI, sub_lstI, bi_sumL, bi_sumT, bi_allM, bi_anyM, bi_lenT, bi_lenL, bi_lenD, bi_lenS, bi_tupL, bi_tupT, bi_lstT, bi_lstL, bi_intI, bi_absI, bi_min2I, bi_max2I, bi_minL, bi_maxL, cutop_tup, cutop_lst, rev_iT, rev_iLs, op_addI, op_subI, op_mulIL, op_mulIR, op_fdivI, op_modI, op_addT, op_addLs, co_eqI, co_neI, co_ltI, co_leI, co_gtI, co_geI, co_isN, co_isntN, co_eqLs, co_neLs, co_eqTs, co_neTs, iter_lst, iter_tup, compG_range, compG_iL, compG_one, compG_if, compR_one, compR_if, compQ_one, compQ_if, compQ_nil, rgV_ok, rgV2_ok, zipV_T, zipV_L, iL_length, map_pvint, map_int0, Int.toNat_natCast, decide_eq_true_eq, zip_iL, compG_rangeMap, cut_to, cut_from, cut_mid, Option.some.injEq, exists_eq_left', Nx_rt, Tu_rt, min_cast, max_cast, max1_cast, toNat_1, toNat_1', toNat_a, toNat_s, toNat_m1, toNat_0, half_cast, co_eqT0, co_neT0, co_eqL0, co_neL0, List.length_cons, List.length_nil,q2, H.h19, beq_self_eq_true, Bool.not_true])) (w_nil ⟨_, _, rfl⟩)
  · rintro _ ⟨u32, u33, rfl⟩
    exact w_nil ⟨_, _, _, _, _, _, _, _, _, _, _, _, _, _, _, _, _, _, _, _, _, _, _, _, _, _, _, _, _, _, _, _, _, _, _, _, _, rfl⟩
end K34

set_option linter.all false
set_option Elab.async false
set_option maxRecDepth 20000
namespace K34
open EV
theorem ok2n {d : Nat} {v : PV} (h : smp v = true) (hn : ∀ xs, v ≠ .tup xs) : evCall P (d + 3) 2 [v] = some (.bl false, []) := by
  have h1 := ok1n (d := d) h hn
  refine call_w (d := d + 2) (F := f_is_curve) rfl rfl rfl ?_
  generalize evCall P (d + 2) = C at *
  show W C b_is_curve [some v, none] _
  unfold b_is_curve
  ((first | (refine w_asg ?_ ?_; exact rfl) | (refine w_asgM ?_ ?_; exact rfl) | (refine w_par ?_ ?_; exact rfl) | (refine w_unp ?_ ?_; exact rfl) | (refine w_aug ?_ ?_; exact rfl) | (refine w_app ?_ ?_; exact rfl) | (refine w_setix ?_ ?_ ?_; exact rfl; exact rfl) | (refine w_ret ?_ ?_; exact rfl) | refine w_retM ?_ | refine w_pass ?_ | refine w_cnt ?_ | refine w_brk ?_ | (refine w_if ?_ ?_; exact rfl) | refine w_nil ?_))
  (simp (config := { implicitDefEqProofs := false }) (disch := first | with_reducible assumption | omega | (simp only [iL_length, List.length_map, List.length_range, List.length_append, List.length_cons, List.length_nil, List.length_take, List.length_drop]; omega)) only [vl, vls, vlo, vlc, getS_z, getS_s, wipeF, bindTg, setAll, List.set_cons_succ, List.set_cons_zero, Option.map_some, Option.bind_some, Option.map_none, Option.bind_none, blOf, intOf, nat_z, ↓reduceIte, if_true, Bool.false_eq_true, if_false, sub_tupI, sub_lstI, bi_sumL, bi_sumT, bi_allM, bi_anyM, bi_lenT, bi_lenL, bi_lenD, bi_lenS, bi_tupL, bi_tupT, bi_lstT, bi_lstL, bi_intI, bi_absI, bi_min2I, bi_max2I, bi_minL, bi_maxL, cutop_tup, cutop_lst, rev_iT, rev_iLs, op_addI, op_subI, op_mulIL, op_mulIR, op_fdivI, op_modI, op_addT, op_addLs, co_eqI, co_neI, co_ltI, co_leI, co_gtI, co_geI, co_isN, co_isntN, co_eqLs, co_neLs, co_eqTs, co_neTs, iter_lst, iter_tup, compG_range, compG_iL, compG_one, compG_if, compR_one, compR_if, compQ_one, compQ_if, compQ_nil, rgV_ok, rgV2_ok, zipV_T, zipV_L, iL_length, map_pvint, map_int0, Int.toNat_natCast, decide_eq_true_eq, zip_iL, compG_rangeMap, cut_to, cut_from, cut_mid, Option.some.injEq, exists_eq_left', Nx_rt, Tu_rt, min_cast, max_cast, max1_cast, toNat_1, toNat_1', toNat_a, toNat_s, toNat_m1, toNat_0, half_cast, co_eqT0, co_neT0, co_eqL0, co_neL0, List.length_cons, List.length_nil,h1, PV.bl.injEq, Bool.not_false])
  refine ⟨fun _ => ?_, fun z => by cases z⟩
  ((first | (refine w_asg ?_ ?_; exact rfl) | (refine w_asgM ?_ ?_; exact rfl) | (refine w_par ?_ ?_; exact rfl) | (refine w_unp ?_ ?_; exact rfl) | (refine w_aug ?_ ?_; exact rfl) | (refine w_app ?_ ?_; exact rfl) | (refine w_setix ?_ ?_ ?_; exact rfl; exact rfl) | (refine w_ret ?_ ?_; exact rfl) | refine w_retM ?_ | refine w_pass ?_ | refine w_cnt ?_ | refine w_brk ?_ | (refine w_if ?_ ?_; exact rfl) | refine w_nil ?_))
  (simp (config := { implicitDefEqProofs := false }) (disch := first | with_reducible assumption | omega | (simp only [iL_length, List.length_map, List.length_range, List.length_append, List.length_cons, List.length_nil, List.length_take, List.length_drop]; omega)) only [vl, vls, vlo, vlc, getS_z, getS_s, wipeF, bindTg, setAll, List.set_cons_succ, List.set_cons_zero, Option.map_some, Option.bind_some, Option.map_none, Option.bind_none, blOf, intOf, nat_z, ↓reduceIte, if_true, Bool.false_eq_true, if_false, sub_tupI, sub_lstI, bi_sumL, bi_sumT, bi_allM, bi_anyM, bi_lenT, bi_lenL, bi_lenD, bi_lenS, bi_tupL, bi_tupT, bi_lstT, bi_lstL, bi_intI, bi_absI, bi_min2I, bi_max2I, bi_minL, bi_maxL, cutop_tup, cutop_lst, rev_iT, rev_iLs, op_addI, op_subI, op_mulIL, op_mulIR, op_fdivI, op_modI, op_addT, op_addLs, co_eqI, co_neI, co_ltI, co_leI, co_gtI, co_geI, co_isN, co_isntN, co_eqLs, co_neLs, co_eqTs, co_neTs, iter_lst, iter_tup, compG_range, compG_iL, compG_one, compG_if, compR_one, compR_if, compQ_one, compQ_if, compQ_nil, rgV_ok, rgV2_ok, zipV_T, zipV_L, iL_length, map_pvint, map_int0, Int.toNat_natCast, decide_eq_true_eq, zip_iL, compG_rangeMap, cut_to, cut_from, cut_mid, Option.some.injEq, exists_eq_left', Nx_rt, Tu_rt, min_cast, max_cast, max1_cast, toNat_1, toNat_1', toNat_a, toNat_s, toNat_m1, toNat_0, half_cast, co_eqT0, co_neT0, co_eqL0, co_neL0, List.length_cons, List.length_nil])
theorem ok2b {d : Nat} {xs : List PV} (h : ∀ x ∈ xs, smp x = true) (hn : xs.all isNum = false) : evCall P (d + 3) 2 [.tup xs] = some (.bl false, []) := by
  have h1 := ok1 (d := d) h
  rw [hn] at h1
  refine call_w (d := d + 2) (F := f_is_curve) rfl rfl rfl ?_
  generalize evCall P (d + 2) = C at *
  show W C b_is_curve [some (.tup xs), none] _
  unfold b_is_curve
  ((first | (refine w_asg ?_ ?_; exact rfl) | (refine w_asgM ?_ ?_; exact rfl) | (refine w_par ?_ ?_; exact rfl) | (refine w_unp ?_ ?_; exact rfl) | (refine w_aug ?_ ?_; exact rfl) | (refine w_app ?_ ?_; exact rfl) | (refine w_setix ?_ ?_ ?_; exact rfl; exact rfl) | (refine w_ret ?_ ?_; exact rfl) | refine w_retM ?_ | refine w_pass ?_ | refine w_cnt ?_ | refine w_brk ?_ | (refine w_if ?_ ?_; exact rfl) | refine w_nil ?_))
  (simp (config := { implicitDefEqProofs := false }) (disch := first | with_reducible assumption | omega | (simp only [iL_length, List.length_map, List.length_range, List.length_append, List.length_cons, List.length_nil, List.length_take, List.length_drop]; omega)) only [vl, vls, vlo, vlc, getS_z, getS_s, wipeF, bindTg, setAll, List.set_cons_succ, List.set_cons_zero, Option.map_some, Option.bind_some, Option.map_none, Option.bind_none, blOf, intOf, nat_z, ↓reduceIte, if_true, Bool.false_eq_true, if_false, sub_tupI, sub_lstI, bi_sumL, bi_sumT, bi_allM, bi_anyM, bi_lenT, bi_lenL, bi_lenD, bi_lenS, bi_tupL, bi_tupT, bi_lstT, bi_lstL, bi_intI, bi_absI, bi_min2I, bi_max2I, bi_minL, bi_maxL, cutop_tup, cutop_lst, rev_iT, rev_iLs, op_addI, op_subI, op_mulIL, op_mulIR, op_fdivI, op_modI, op_addT, op_addLs, co_eqI, co_neI, co_ltI, co_leI, co_gtI, co_geI, co_isN, co_isntN, co_eqLs, co_neLs, co_eqTs, co_neTs, iter_lst, iter_tup, compG_range, compG_iL, compG_one, compG_if, compR_one, compR_if, compQ_one, compQ_if, compQ_nil, rgV_ok, rgV2_ok, zipV_T, zipV_L, iL_length, map_pvint, map_int0, Int.toNat_natCast, decide_eq_true_eq, zip_iL, compG_rangeMap, cut_to, cut_from, cut_mid, Option.some.injEq, exists_eq_left', Nx_rt, Tu_rt, min_cast, max_cast, max1_cast, toNat_1, toNat_1', toNat_a, toNat_s, toNat_m1, toNat_0, half_cast, co_eqT0, co_neT0, co_eqL0, co_neL0, List.length_cons, List.length_nil,h1, PV.bl.injEq, Bool.not_false])
  refine ⟨fun _ => ?_, fun z => by cases z⟩
  ((first | (refine w_asg ?_ ?_; exact rfl) | (refine w_asgM ?_ ?_; exact rfl) | (refine w_par ?_ ?_; exact rfl) | (refine w_unp ?_ ?_; exact rfl) | (refine w_aug ?_ ?_; exact rfl) | (refine w_app ?_ ?_; exact rfl) | (refine w_setix ?_ ?_ ?_; exact rfl; exact rfl) | (refine w_ret ?_ ?_; exact rfl) | refine w_retM ?_ | refine w_pass ?_ | refine w_cnt ?_ | refine w_brk ?_ | (refine w_if ?_ ?_; exact rfl) | refine w_nil ?_))
  (simp (config := { implicitDefEqProofs := false }) (disch := first | with_reducible assumption | omega | (simp only [iL_length, List.length_map, List.length_range, List.length_append, List.length_cons, List.length_nil, List.length_take, List.length_drop]; omega)) only [vl, vls, vlo, vlc, getS_z, getS_s, wipeF, bindTg, setAll, List.set_cons_succ, List.set_cons_zero, Option.map_some, Option.bind_some, Option.map_none, Option.bind_none, blOf, intOf, nat_z, ↓reduceIte, if_true, Bool.false_eq_true, if_false, sub_tupI, sub_lstI, bi_sumL, bi_sumT, bi_allM, bi_anyM, bi_lenT, bi_lenL, bi_lenD, bi_lenS, bi_tupL, bi_tupT, bi_lstT, bi_lstL, bi_intI, bi_absI, bi_min2I, bi_max2I, bi_minL, bi_maxL, cutop_tup, cutop_lst, rev_iT, rev_iLs, op_addI, op_subI, op_mulIL, op_mulIR, op_fdivI, op_modI, op_addT, op_addLs, co_eqI, co_neI, co_ltI, co_leI, co_gtI, co_geI, co_isN, co_isntN, co_eqLs, co_neLs, co_eqTs, co_neTs, iter_lst, iter_tup, compG_range, compG_iL, compG_one, compG_if, compR_one, compR_if, compQ_one, compQ_if, compQ_nil, rgV_ok, rgV2_ok, zipV_T, zipV_L, iL_length, map_pvint, map_int0, Int.toNat_natCast, decide_eq_true_eq, zip_iL, compG_rangeMap, cut_to, cut_from, cut_mid, Option.some.injEq, exists_eq_left', Nx_rt, Tu_rt, min_cast, max_cast, max1_cast, toNat_1, toNat_1', toNat_a, toNat_s, toNat_m1, toNat_0, half_cast, co_eqT0, co_neT0, co_eqL0, co_neL0, List.length_cons, List.length_nil])
theorem lh : LH (evCall P 59) where
  nx := nextOk (d := 58) rfl
  cv := fun ds n => ok20 (d := 56) (by decide) (by decide)
  h3 := fun _ _ a b => ok3 (d := 58) a b
  h4 := fun _ _ a b => ok4 (d := 57) a b
  h5 := fun _ _ a b => ok5 (d := 58) a b
  h6 := fun _ _ a b c e => ok6 (d := 58) a b c e
  h7 := fun _ _ a b => ok7 (d := 58) a b
  h8 := fun _ _ a b => ok8 (d := 58) a b
  h9 := fun _ _ a b c e => ok9 (d := 58) a b c e
  h10 := fun _ _ _ a b c e f => ok10 (d := 58) a b c e f
  h11 := fun _ _ _ a b c => ok11 (d := 58) a b c
  h12 := fun _ _ a b c => ok12 (d := 58) a b c
  h13 := fun _ _ a b => ok13 (d := 58) a b
  h14 := fun _ _ a b => ok14 (d := 58) a b
  h18 := fun _ a => ok18 (d := 58) a
  h19 := fun _ _ => ok19 (d := 58)
  h2 := fun _ a => ok2 (d := 56) a
  h2n := fun _ a b => ok2n (d := 56) a b
  h2b := fun _ a b => ok2b (d := 56) a b
theorem law_plain : ∀ ns : List Int, ns.length ≤ 63 → evCall P 60 21 [.scr ns] = some (.bl true, []) := fun ns hl => by
  obtain ⟨ds, hd⟩ := draws_call (P := P) (d := 58) (i := 15) rfl hl (m := 300) (by decide)
  have H := lh
  refine call_w (d := 59) (F := f_law) rfl rfl rfl ?_
  have hd : evCall P 59 15 [.scr ns, .int 300] = some (.lst (iL ds), []) := hd
  generalize evCall P 59 = C at *
  show W C b_law [some (.scr ns), none, none, none, none, none, none, none, none, none, none, none, none, none, none, none, none, none, none, none, none, none, none, none, none, none, none, none, none, none, none, none, none, none, none, none, none, none] _
  rw [b_law_eq]
  ((first | (refine w_asg ?_ ?_; exact rfl) | (refine w_asgM ?_ ?_; exact rfl) | (refine w_par ?_ ?_; exact rfl) | (refine w_unp ?_ ?_; exact rfl) | (refine w_aug ?_ ?_; exact rfl) | (refine w_app ?_ ?_; exact rfl) | (refine w_setix ?_ ?_ ?_; exact rfl; exact rfl) | (refine w_ret ?_ ?_; exact rfl) | refine w_retM ?_ | refine w_pass ?_ | refine w_cnt ?_ | refine w_brk ?_ | (refine w_if ?_ ?_; exact rfl) | refine w_nil ?_))
  (simp (config := { implicitDefEqProofs := false }) (disch := first | with_reducible assumption | omega | (simp only [iL_length, List.length_map, List.length_range, List.length_append, List.length_cons, List.length_nil, List.length_take, List.length_drop]; omega)) only [vl, vls, vlo, vlc, getS_z, getS_s, wipeF, bindTg, setAll, List.set_cons_succ, List.set_cons_zero, Option.map_some, Option.bind_some, Option.map_none, Option.bind_none, blOf, intOf, nat_z, ↓reduceIte, if_true, Bool.false_eq_true, if_false, sub_tupI, sub_lstI, bi_sumL, bi_sumT, bi_allM, bi_anyM, bi_lenT, bi_lenL, bi_lenD, bi_lenS, bi_tupL, bi_tupT, bi_lstT, bi_lstL, bi_intI, bi_absI, bi_min2I, bi_max2I, bi_minL, bi_maxL, cutop_tup, cutop_lst, rev_iT, rev_iLs, op_addI, op_subI, op_mulIL, op_mulIR, op_fdivI, op_modI, op_addT, op_addLs, co_eqI, co_neI, co_ltI, co_leI, co_gtI, co_geI, co_isN, co_isntN, co_eqLs, co_neLs, co_eqTs, co_neTs, iter_lst, iter_tup, compG_range, compG_iL, compG_one, compG_if, compR_one, compR_if, compQ_one, compQ_if, compQ_nil, rgV_ok, rgV2_ok, zipV_T, zipV_L, iL_length, map_pvint, map_int0, Int.toNat_natCast, decide_eq_true_eq, zip_iL, compG_rangeMap, cut_to, cut_from, cut_mid, Option.some.injEq, exists_eq_left', Nx_rt, Tu_rt, min_cast, max_cast, max1_cast, toNat_1, toNat_1', toNat_a, toNat_s, toNat_m1, toNat_0, half_cast, co_eqT0, co_neT0, co_eqL0, co_neL0, List.length_cons, List.length_nil,hd, pairUp, toKy])
  refine ⟨rfl, ?_⟩
  show W C _ [some (.scr ns), some (wd ds 0), none, none, none, none, none, none, none, none, none, none, none, none, none, none, none, none, none, none, none, none, none, none, none, none, none, none, none, none, none, none, none, none, none, none, none, none] _
  refine w_rg (I := fun _ fr => IFr ns ds fr) 4 rfl (by (simp (config := { implicitDefEqProofs := false }) (disch := first | with_reducible assumption | omega | (simp only [iL_length, List.length_map, List.length_range, List.length_append, List.length_cons, List.length_nil, List.length_take, List.length_drop]; omega)) only [vl, vls, vlo, vlc, getS_z, getS_s, wipeF, bindTg, setAll, List.set_cons_succ, List.set_cons_zero, Option.map_some, Option.bind_some, Option.map_none, Option.bind_none, blOf, intOf, nat_z, ↓reduceIte, if_true, Bool.false_eq_true, if_false, sub_tupI, sub_lstI, bi_sumL, bi_sumT, bi_allM, bi_anyM, bi_lenT, bi_lenL, bi_lenD, bi_lenS, bi_tupL, bi_tupT, bi_lstT, bi_lstL, bi_intI, bi_absI, bi_min2I, bi_max2I, bi_minL, bi_maxL, cutop_tup, cutop_lst, rev_iT, rev_iLs, op_addI, op_subI, op_mulIL, op_mulIR, op_fdivI, op_modI, op_addT, op_addLs, co_eqI, co_neI, co_ltI, co_leI, co_gtI, co_geI, co_isN, co_isntN, co_eqLs, co_neLs, co_eqTs, co_neTs, iter_lst, iter_tup, compG_range, compG_iL, compG_one, compG_if, compR_one, compR_if, compQ_one, compQ_if, compQ_nil, rgV_ok, rgV2_ok, zipV_T, zipV_L, iL_length, map_pvint, map_int0, Int.toNat_natCast, decide_eq_true_eq, zip_iL, compG_rangeMap, cut_to, cut_from, cut_mid, Option.some.injEq, exists_eq_left', Nx_rt, Tu_rt, min_cast, max_cast, max1_cast, toNat_1, toNat_1', toNat_a, toNat_s, toNat_m1, toNat_0, half_cast, co_eqT0, co_neT0, co_eqL0, co_neL0, List.length_cons, List.length_nil]); rfl) ⟨0, _, _, _, _, _, _, _, _, _, _, _, _, _, _, _, _, _, _, _, _, _, _, _, _, _, _, _, _, _, _, _, _, _, _, _, _, rfl⟩ ?_ ?_
  · rintro k _ hk ⟨n, a2, a3, a4, a5, a6, a7, a8, a9, a10, a11, a12, a13, a14, a15, a16, a17, a18, a19, a20, a21, a22, a23, a24, a25, a26, a27, a28, a29, a30, a31, a32, a33, a34, a35, a36, a37, rfl⟩
    exact ⟨_, rfl, turn H n _ a3 a4 a5 a6 a7 a8 a9 a10 a11 a12 a13 a14 a15 a16 a17 a18 a19 a20 a21 a22 a23 a24 a25 a26 a27 a28 a29 a30 a31 a32 a33 a34 a35 a36 a37⟩
  · rintro _ ⟨n, a2, a3, a4, a5, a6, a7, a8, a9, a10, a11, a12, a13, a14, a15, a16, a17, a18, a19, a20, a21, a22, a23, a24, a25, a26, a27, a28, a29, a30, a31, a32, a33, a34, a35, a36, a37, rfl⟩
    ((first | (refine w_asg ?_ ?_; exact rfl) | (refine w_asgM ?_ ?_; exact rfl) | (refine w_par ?_ ?_; exact rfl) | (refine w_unp ?_ ?_; exact rfl) | (refine w_aug ?_ ?_; exact rfl) | (refine w_app ?_ ?_; exact rfl) | (refine w_setix ?_ ?_ ?_; exact rfl; exact rfl) | (refine w_ret ?_ ?_; exact rfl) | refine w_retM ?_ | refine w_pass ?_ | refine w_cnt ?_ | refine w_brk ?_ | (refine w_if ?_ ?_; exact rfl) | refine w_nil ?_))
    (simp (config := { implicitDefEqProofs := false }) (disch := first | with_reducible assumption | omega | (simp only [iL_length, List.length_map, List.length_range, List.length_append, List.length_cons, List.length_nil, List.length_take, List.length_drop]; omega)) only [vl, vls, vlo, vlc, getS_z, getS_s, wipeF, bindTg, setAll, List.set_cons_succ, List.set_cons_zero, Option.map_some, Option.bind_some, Option.map_none, Option.bind_none, blOf, intOf, nat_z, ↓reduceIte, if_true, Bool.false_eq_true, if_false, sub_tupI, sub_lstI, bi_sumL, bi_sumT, bi_allM, bi_anyM, bi_lenT, bi_lenL, bi_lenD, bi_lenS, bi_tupL, bi_tupT, bi_lstT, bi_lstL, bi_intI, bi_absI, bi_min2I, bi_max2I, bi_minL, bi_maxL, cutop_tup, cutop_lst, rev_iT, rev_iLs, op_addI, op_subI, op_mulIL, op_mulIR, op_fdivI, op_modI, op_addT, op_addLs, co_eqI, co_neI, co_ltI, co_leI, co_gtI, co_geI, co_isN, co_isntN, co_eqLs, co_neLs, co_eqTs, co_neTs, iter_lst, iter_tup, compG_range, compG_iL, compG_one, compG_if, compR_one, compR_if, compQ_one, compQ_if, compQ_nil, rgV_ok, rgV2_ok, zipV_T, zipV_L, iL_length, map_pvint, map_int0, Int.toNat_natCast, decide_eq_true_eq, zip_iL, compG_rangeMap, cut_to, cut_from, cut_mid, Option.some.injEq, exists_eq_left', Nx_rt, Tu_rt, min_cast, max_cast, max1_cast, toNat_1, toNat_1', toNat_a, toNat_s, toNat_m1, toNat_0, half_cast, co_eqT0, co_neT0, co_eqL0, co_neL0, List.length_cons, List.length_nil])
end K34

set_option linter.all false
set_option Elab.async false
set_option maxRecDepth 100000
/-! k34: the table. -/
namespace K34
open PySem L2 EV
def topS (i : Nat) : Stmt := PySem.Challenge.pw_raisedlines_k34_whole_curves_of_work.main.body.getD i (.Pass ⟨0, 0, 0, 0⟩)
def d_is_number : FnD := { x := ("is_number" : Str), st := topS 1, ps := [("thing" : Str)], N := [("thing" : Str)], cls := [.L], rf := false, mvs := [] }
def d_are_numbers : FnD := { x := ("are_numbers" : Str), st := topS 2, ps := [("thing" : Str)], N := [("thing" : Str), ("one" : Str)], cls := [.L, .P], rf := false, mvs := [] }
def d_is_curve : FnD := { x := ("is_curve" : Str), st := topS 4, ps := [("thing" : Str)], N := [("thing" : Str), ("k" : Str)], cls := [.L, .P], rf := false, mvs := [] }
def d_served : FnD := { x := ("served" : Str), st := topS 5, ps := [("come" : Str), ("rate_of" : Str)], N := [("come" : Str), ("rate_of" : Str), ("left" : Str), ("found" : Str), ("total" : Str), ("tick" : Str), ("part" : Str)], cls := [.L, .L, .P, .M, .P, .P, .P], rf := true, mvs := [] }
def d_backlogs : FnD := { x := ("backlogs" : Str), st := topS 6, ps := [("come" : Str), ("rate_of" : Str)], N := [("come" : Str), ("rate_of" : Str), ("done" : Str), ("tick" : Str)], cls := [.L, .L, .P, .P], rf := true, mvs := [] }
def d_rows_behind : FnD := { x := ("rows_behind" : Str), st := topS 7, ps := [("one" : Str), ("other" : Str)], N := [("one" : Str), ("other" : Str), ("long" : Str), ("size" : Str), ("k" : Str)], cls := [.L, .L, .P, .P, .P], rf := true, mvs := [] }
def d_most_left : FnD := { x := ("most_left" : Str), st := topS 8, ps := [("comes" : Str), ("serves" : Str)], N := [("comes" : Str), ("serves" : Str), ("rows" : Str), ("size" : Str)], cls := [.L, .L, .P, .P], rf := true, mvs := [] }
def d_longest_wait : FnD := { x := ("longest_wait" : Str), st := topS 9, ps := [("comes" : Str), ("serves" : Str)], N := [("comes" : Str), ("serves" : Str), ("best" : Str), ("size" : Str), ("able" : Str), ("late" : Str)], cls := [.L, .L, .P, .P, .P, .P], rf := false, mvs := [] }
def d_left_over : FnD := { x := ("left_over" : Str), st := topS 10, ps := [("serves" : Str), ("comes" : Str)], N := [("serves" : Str), ("comes" : Str), ("found" : Str), ("best" : Str), ("size" : Str)], cls := [.L, .L, .M, .P, .P], rf := true, mvs := [] }
def d_after : FnD := { x := ("after" : Str), st := topS 11, ps := [("comes" : Str), ("serves" : Str)], N := [("comes" : Str), ("serves" : Str), ("half" : Str), ("size" : Str), ("k" : Str)], cls := [.L, .L, .P, .P, .P], rf := true, mvs := [] }
def d_steps_curve : FnD := { x := ("steps_curve" : Str), st := topS 12, ps := [("burst" : Str), ("gap" : Str), ("long" : Str)], N := [("burst" : Str), ("gap" : Str), ("long" : Str), ("size" : Str)], cls := [.L, .L, .L, .P], rf := true, mvs := [] }
def d_rate_curve : FnD := { x := ("rate_curve" : Str), st := topS 13, ps := [("wait" : Str), ("rate" : Str), ("long" : Str)], N := [("wait" : Str), ("rate" : Str), ("long" : Str), ("size" : Str)], cls := [.L, .L, .L, .P], rf := true, mvs := [] }
def d_is_within : FnD := { x := ("is_within" : Str), st := topS 14, ps := [("come" : Str), ("curve" : Str)], N := [("come" : Str), ("curve" : Str), ("begin" : Str), ("end" : Str)], cls := [.L, .L, .P, .P], rf := false, mvs := [] }
def d_narrowest : FnD := { x := ("narrowest" : Str), st := topS 15, ps := [("come" : Str), ("long" : Str)], N := [("come" : Str), ("long" : Str), ("found" : Str), ("size" : Str), ("sums" : Str), ("begin" : Str)], cls := [.L, .L, .M, .P, .P, .P], rf := true, mvs := [] }
def d_is_kept : FnD := { x := ("is_kept" : Str), st := topS 16, ps := [("one" : Str), ("other" : Str)], N := [("one" : Str), ("other" : Str), ("a" : Str), ("b" : Str)], cls := [.P, .P, .P, .P], rf := true, mvs := [] }
def d__law_draws : FnD := { x := ("_law_draws" : Str), st := topS 18, ps := [("script" : Str), ("many" : Str)], N := [("script" : Str), ("many" : Str), ("draws" : Str), ("mixed" : Str), ("k" : Str), ("cell" : Str), ("rest" : Str), ("turn" : Str)], cls := [.L, .L, .M, .P, .P, .P, .P, .P], rf := true, mvs := [] }
def d__law_next : FnD := { x := ("_law_next" : Str), st := topS 19, ps := [("w" : Str), ("many" : Str)], N := [("w" : Str), ("many" : Str)], cls := [.M, .L], rf := false, mvs := [] }
def d__law_pick : FnD := { x := ("_law_pick" : Str), st := topS 20, ps := [("w" : Str), ("rows" : Str)], N := [("w" : Str), ("rows" : Str)], cls := [.M, .L], rf := false, mvs := [] }
def d__law_is_number : FnD := { x := ("_law_is_number" : Str), st := topS 21, ps := [("thing" : Str)], N := [("thing" : Str)], cls := [.L], rf := false, mvs := [] }
def d__law_is_bit : FnD := { x := ("_law_is_bit" : Str), st := topS 22, ps := [("said" : Str), ("due" : Str)], N := [("said" : Str), ("due" : Str)], cls := [.L, .L], rf := false, mvs := [] }
def d__law_curve : FnD := { x := ("_law_curve" : Str), st := topS 23, ps := [("w" : Str), ("most" : Str)], N := [("w" : Str), ("most" : Str), ("found" : Str), ("now" : Str), ("k" : Str)], cls := [.M, .L, .P, .P, .P], rf := false, mvs := [] }
def d_law : FnD := { x := ("law" : Str), st := topS 24, ps := [("script" : Str)], N := [("script" : Str), ("w" : Str), ("turn" : Str), ("one" : Str), ("other" : Str), ("come" : Str), ("rates" : Str), ("left" : Str), ("done" : Str), ("rows" : Str), ("waits" : Str), ("tick" : Str), ("part" : Str), ("long" : Str), ("due" : Str), ("size" : Str), ("gaps" : Str), ("lates" : Str), ("able" : Str), ("half" : Str), ("burst" : Str), ("gap" : Str), ("wait" : Str), ("steps" : Str), ("spans" : Str), ("begin" : Str), ("told" : Str), ("least" : Str), ("k" : Str), ("front" : Str), ("back" : Str), ("things" : Str), ("thing" : Str), ("right" : Str), ("n" : Str), ("place" : Str), ("bent" : Str), ("end" : Str)], cls := [.L, .M, .P, .P, .P, .P, .P, .P, .P, .M, .M, .P, .P, .P, .M, .P, .P, .M, .P, .P, .P, .P, .P, .P, .P, .P, .P, .P, .P, .P, .P, .P, .P, .P, .P, .P, .P, .P], rf := false, mvs := [] }
def tbl : List FnD := [d_is_number, d_are_numbers, d_is_curve, d_served, d_backlogs, d_rows_behind, d_most_left, d_longest_wait, d_left_over, d_after, d_steps_curve, d_rate_curve, d_is_within, d_narrowest, d_is_kept, d__law_draws, d__law_next, d__law_pick, d__law_is_number, d__law_is_bit, d__law_curve, d_law]

theorem P_ok : cmpAll [] (tabOf tbl 0) tbl = some P := eqP_ok (by decide +kernel)
end K34

set_option linter.all false
set_option Elab.async false
set_option maxRecDepth 100000
open PySem PySem.W PyProof.Rows in
set_option maxRecDepth 100000 in
set_option maxHeartbeats 0 in
theorem PySem.Challenge.cw_raisedlines_k34_whole_curves_of_work_holds : PySem.Challenge.rw_raisedlines_k34_whole_curves_of_work.Holds := by
  w_on; o_law; k_head; (case hw => w_witness2)
  k_fill
  refine EV.law_walk (l := PySem.Challenge.rw_raisedlines_k34_whole_curves_of_work) (cst := []) (tbl := K34.tbl) (P := K34.P) (k := 60) (i := 21) (dl := K34.d_law) rfl ⟨rfl, by decide, by decide⟩ rfl rfl (fun w h Y => PySem.W.kIn_of Y) K34.P_ok (by decide +kernel) rfl rfl rfl (by decide) (by decide) ?hF (fun w mg h _ _ x k v e => by cases e) K34.law_plain
  case hF =>
    intro w
    refine ⟨EV.fnsIs_all (ds := K34.tbl) ?_, EV.blt_of ?_⟩
    focus
      refine And.intro (show EV.FnIs _ ("is_number" : Str) (K34.topS 1) from by refine' EV.fnIs_mk ?a ?l ?c ?k; (case a => k_is); (case l => k_is); (case c => k_is); (case k => k_is)) ?_
      refine And.intro (show EV.FnIs _ ("are_numbers" : Str) (K34.topS 2) from by refine' EV.fnIs_mk ?a ?l ?c ?k; (case a => k_is); (case l => k_is); (case c => k_is); (case k => k_is)) ?_
      refine And.intro (show EV.FnIs _ ("is_curve" : Str) (K34.topS 4) from by refine' EV.fnIs_mk ?a ?l ?c ?k; (case a => k_is); (case l => k_is); (case c => k_is); (case k => k_is)) ?_
      refine And.intro (show EV.FnIs _ ("served" : Str) (K34.topS 5) from by refine' EV.fnIs_mk ?a ?l ?c ?k; (case a => k_is); (case l => k_is); (case c => k_is); (case k => k_is)) ?_
      refine And.intro (show EV.FnIs _ ("backlogs" : Str) (K34.topS 6) from by refine' EV.fnIs_mk ?a ?l ?c ?k; (case a => k_is); (case l => k_is); (case c => k_is); (case k => k_is)) ?_
      refine And.intro (show EV.FnIs _ ("rows_behind" : Str) (K34.topS 7) from by refine' EV.fnIs_mk ?a ?l ?c ?k; (case a => k_is); (case l => k_is); (case c => k_is); (case k => k_is)) ?_
      refine And.intro (show EV.FnIs _ ("most_left" : Str) (K34.topS 8) from by refine' EV.fnIs_mk ?a ?l ?c ?k; (case a => k_is); (case l => k_is); (case c => k_is); (case k => k_is)) ?_
      refine And.intro (show EV.FnIs _ ("longest_wait" : Str) (K34.topS 9) from by refine' EV.fnIs_mk ?a ?l ?c ?k; (case a => k_is); (case l => k_is); (case c => k_is); (case k => k_is)) ?_
      refine And.intro (show EV.FnIs _ ("left_over" : Str) (K34.topS 10) from by refine' EV.fnIs_mk ?a ?l ?c ?k; (case a => k_is); (case l => k_is); (case c => k_is); (case k => k_is)) ?_
      refine And.intro (show EV.FnIs _ ("after" : Str) (K34.topS 11) from by refine' EV.fnIs_mk ?a ?l ?c ?k; (case a => k_is); (case l => k_is); (case c => k_is); (case k => k_is)) ?_
      refine And.intro (show EV.FnIs _ ("steps_curve" : Str) (K34.topS 12) from by refine' EV.fnIs_mk ?a ?l ?c ?k; (case a => k_is); (case l => k_is); (case c => k_is); (case k => k_is)) ?_
      refine And.intro (show EV.FnIs _ ("rate_curve" : Str) (K34.topS 13) from by refine' EV.fnIs_mk ?a ?l ?c ?k; (case a => k_is); (case l => k_is); (case c => k_is); (case k => k_is)) ?_
      refine And.intro (show EV.FnIs _ ("is_within" : Str) (K34.topS 14) from by refine' EV.fnIs_mk ?a ?l ?c ?k; (case a => k_is); (case l => k_is); (case c => k_is); (case k => k_is)) ?_
      refine And.intro (show EV.FnIs _ ("narrowest" : Str) (K34.topS 15) from by refine' EV.fnIs_mk ?a ?l ?c ?k; (case a => k_is); (case l => k_is); (case c => k_is); (case k => k_is)) ?_
      refine And.intro (show EV.FnIs _ ("is_kept" : Str) (K34.topS 16) from by refine' EV.fnIs_mk ?a ?l ?c ?k; (case a => k_is); (case l => k_is); (case c => k_is); (case k => k_is)) ?_
      refine And.intro (show EV.FnIs _ ("_law_draws" : Str) (K34.topS 18) from by refine' EV.fnIs_mk ?a ?l ?c ?k; (case a => k_is); (case l => k_is); (case c => k_is); (case k => k_is)) ?_
      refine And.intro (show EV.FnIs _ ("_law_next" : Str) (K34.topS 19) from by refine' EV.fnIs_mk ?a ?l ?c ?k; (case a => k_is); (case l => k_is); (case c => k_is); (case k => k_is)) ?_
      refine And.intro (show EV.FnIs _ ("_law_pick" : Str) (K34.topS 20) from by refine' EV.fnIs_mk ?a ?l ?c ?k; (case a => k_is); (case l => k_is); (case c => k_is); (case k => k_is)) ?_
      refine And.intro (show EV.FnIs _ ("_law_is_number" : Str) (K34.topS 21) from by refine' EV.fnIs_mk ?a ?l ?c ?k; (case a => k_is); (case l => k_is); (case c => k_is); (case k => k_is)) ?_
      refine And.intro (show EV.FnIs _ ("_law_is_bit" : Str) (K34.topS 22) from by refine' EV.fnIs_mk ?a ?l ?c ?k; (case a => k_is); (case l => k_is); (case c => k_is); (case k => k_is)) ?_
      refine And.intro (show EV.FnIs _ ("_law_curve" : Str) (K34.topS 23) from by refine' EV.fnIs_mk ?a ?l ?c ?k; (case a => k_is); (case l => k_is); (case c => k_is); (case k => k_is)) ?_
      refine And.intro (show EV.FnIs _ ("law" : Str) (K34.topS 24) from by refine' EV.fnIs_mk ?a ?l ?c ?k; (case a => k_is); (case l => k_is); (case c => k_is); (case k => k_is)) ?_
      exact trivial
    refine And.intro (show PySem.W.nsIn _ PySem.mainGlobals ("abs" : PySem.Str) = some none from by k_is) ?_
    refine And.intro (show PySem.W.nsIn _ PySem.mainGlobals ("len" : PySem.Str) = some none from by k_is) ?_
    refine And.intro (show PySem.W.nsIn _ PySem.mainGlobals ("int" : PySem.Str) = some none from by k_is) ?_
    refine And.intro (show PySem.W.nsIn _ PySem.mainGlobals ("bool" : PySem.Str) = some none from by k_is) ?_
    refine And.intro (show PySem.W.nsIn _ PySem.mainGlobals ("str" : PySem.Str) = some none from by k_is) ?_
    refine And.intro (show PySem.W.nsIn _ PySem.mainGlobals ("tuple" : PySem.Str) = some none from by k_is) ?_
    refine And.intro (show PySem.W.nsIn _ PySem.mainGlobals ("list" : PySem.Str) = some none from by k_is) ?_
    refine And.intro (show PySem.W.nsIn _ PySem.mainGlobals ("dict" : PySem.Str) = some none from by k_is) ?_
    refine And.intro (show PySem.W.nsIn _ PySem.mainGlobals ("sorted" : PySem.Str) = some none from by k_is) ?_
    refine And.intro (show PySem.W.nsIn _ PySem.mainGlobals ("min" : PySem.Str) = some none from by k_is) ?_
    refine And.intro (show PySem.W.nsIn _ PySem.mainGlobals ("max" : PySem.Str) = some none from by k_is) ?_
    refine And.intro (show PySem.W.nsIn _ PySem.mainGlobals ("sum" : PySem.Str) = some none from by k_is) ?_
    refine And.intro (show PySem.W.nsIn _ PySem.mainGlobals ("all" : PySem.Str) = some none from by k_is) ?_
    refine And.intro (show PySem.W.nsIn _ PySem.mainGlobals ("any" : PySem.Str) = some none from by k_is) ?_
    refine And.intro (show PySem.W.nsIn _ PySem.mainGlobals ("range" : PySem.Str) = some none from by k_is) ?_
    refine And.intro (show PySem.W.nsIn _ PySem.mainGlobals ("zip" : PySem.Str) = some none from by k_is) ?_
    refine And.intro (show PySem.W.nsIn _ PySem.mainGlobals ("isinstance" : PySem.Str) = some none from by k_is) ?_
    refine And.intro (show PySem.W.nsIn _ PySem.mainGlobals ("set" : PySem.Str) = some none from by k_is) ?_
    refine And.intro (show PySem.W.nsIn _ PySem.mainGlobals ("ord" : PySem.Str) = some none from by k_is) ?_
    refine And.intro (show PySem.W.nsIn _ PySem.mainGlobals ("reversed" : PySem.Str) = some none from by k_is) ?_
    refine And.intro (show PySem.W.nsIn _ PySem.mainGlobals ("enumerate" : PySem.Str) = some none from by k_is) ?_
    refine And.intro (show PySem.W.nsIn _ PySem.mainGlobals ("ValueError" : PySem.Str) = some none from by k_is) ?_
    exact trivial
#print axioms PySem.Challenge.cw_raisedlines_k34_whole_curves_of_work_holds

