import PyProof.Rows.All
import Wide.All
import OpenK.AllK
import Wide.FinOn
import PySem.Syntax
import PySem.Value
import HandS.ForMost
import HandS.ForExc
import HandS.Defaults
import HandS.ExcInit
import HandS.ExcValue
import HandS.ExcIs
import HandS.ExcField
import KE.KDictKeyed
import KE.KeyNested
import KE.LtData
import HandS.Wide
import HandS.TupAny
import HandS.TupMul
import HandS.TupLe
import HandS.Deep
import HandS.Text
import HandS.Dict
import HandS.Star
import HandS.ListEq
import HandS.Walk
import HandS.Zip
import HandS.TryOnly
import HandS.NoneIn
import HandS.Iter
import HandS.IsInst
import HandS.Exc
import HandS.ExcOwn
import HandS.TupLen
import HandS.Conv
import KE.KExcSuper
import KE.KExcIs
import HandS.Head0
import HandS.Head1
import HandS.Head2
import HandS.HeadEnd
import HandS.HeadHook1
import HandS.HeadHook2
import KE.KStateDown
import PySem.Challenge.RW_newinputs_k00_errors
set_option Elab.async false
set_option linter.all false
section
/-! NI: a small interpreter for the bodies of a Python text, over plain values (tuples are values) and a heap of lists, dicts, instances. -/
set_option linter.all false
namespace NI
abbrev Txt := List Nat
inductive PV where
  | non | bl (b : Bool) | int (i : Int) | str (s : Txt) | tup (xs : List PV) | obj (n : Nat) | glo (g : Nat)
  deriving Inhabited, Repr
/-- what stands in the heap: a list; the script; a dict; a dict that is walked; an instance; an exception that is held as a value -/
inductive AO where
  | lst (xs : List PV) | frz (xs : List PV) | dct (kvs : List (PV × PV)) | frd (kvs : List (PV × PV)) | ins (C : Nat) (fs : List (Nat × PV)) | exc (C : Nat) (fs : List (Nat × PV))
  deriving Inhabited
abbrev AH := List AO
abbrev Sg := List (Option PV)
/-- what an expression comes to: a value, an exception (class, fields), or nothing that is told -/
inductive R (α : Type) where
  | ok (a : α) (h : AH) | ex (c : Nat) (fs : List (Nat × PV)) (h : AH) | no
def R.bind {α β : Type} (x : R α) (f : α → AH → R β) : R β := match x with
  | .ok a h => f a h
  | .ex c fs h => .ex c fs h
  | .no => .no
def R.ofO {α : Type} (h : AH) : Option α → R α
  | some a => .ok a h
  | none => .no

/-! ### values -/
def b2i (b : Bool) : Int := if b then 1 else 0
mutual
/-- == of data -/
def peq : PV → PV → Bool
  | .non, .non => true
  | .bl a, .bl b => a == b
  | .bl a, .int j => b2i a == j
  | .int i, .bl b => i == b2i b
  | .int i, .int j => i == j
  | .str x, .str y => x == y
  | .tup xs, .tup ys => peqL xs ys
  | _, _ => false
def peqL : List PV → List PV → Bool
  | [], [] => true
  | x :: xs, y :: ys => peq x y && peqL xs ys
  | _, _ => false
end
mutual
/-- data of at most this depth: None, truths, integers, texts, tuples of these -/
def isData : Nat → PV → Bool
  | _, .non => true
  | _, .bl _ => true
  | _, .int _ => true
  | _, .str _ => true
  | 0, .tup _ => false
  | n + 1, .tup xs => areData n xs
  | _, _ => false
def areData : Nat → List PV → Bool
  | _, [] => true
  | n, x :: xs => isData n x && areData n xs
end
mutual
/-- places alike: what < asks -/
def alike : PV → PV → Bool
  | .int _, .int _ => true
  | .str _, .str _ => true
  | .tup xs, .tup ys => alikeL xs ys
  | _, _ => false
def alikeL : List PV → List PV → Bool
  | [], _ => true
  | _, [] => true
  | x :: xs, y :: ys => alike x y && alikeL xs ys
end
def ltT : Txt → Txt → Bool
  | [], [] => false
  | [], _ :: _ => true
  | _ :: _, [] => false
  | x :: xs, y :: ys => if x < y then true else if y < x then false else ltT xs ys
mutual
/-- < of data that is alike -/
def plt : PV → PV → Bool
  | .int i, .int j => decide (i < j)
  | .str x, .str y => ltT x y
  | .tup xs, .tup ys => pltL xs ys
  | _, _ => false
def pltL : List PV → List PV → Bool
  | [], [] => false
  | [], _ :: _ => true
  | _ :: _, [] => false
  | x :: xs, y :: ys => if peq x y then pltL xs ys else plt x y
end
/-- keys of dicts: integers and texts; tuples -/
def keyS : PV → Bool
  | .int _ => true
  | .str _ => true
  | _ => false
mutual
def keyT : Nat → PV → Bool
  | _, .non => true
  | _, .int _ => true
  | _, .str _ => true
  | 0, .tup _ => false
  | n + 1, .tup xs => keysT n xs
  | _, _ => false
def keysT : Nat → List PV → Bool
  | _, [] => true
  | n, x :: xs => keyT n x && keysT n xs
end
def isTup : PV → Bool
  | .tup _ => true
  | _ => false
/-- a key that may be asked of, put into a dict with these keys: all of one sort -/
def keyFits (k : PV) (kvs : List (PV × PV)) : Bool :=
  (keyS k && kvs.all fun e => keyS e.1) || (isTup k && keyT 8 k && kvs.all fun e => isTup e.1)
def dget : List (PV × PV) → PV → Option PV
  | [], _ => none
  | (a, b) :: r, k => if peq a k then some b else dget r k
def dput : List (PV × PV) → PV → PV → List (PV × PV)
  | [], k, v => [(k, v)]
  | (a, b) :: r, k, v => if peq a k then (a, v) :: r else (a, b) :: dput r k v
def ddel : List (PV × PV) → PV → List (PV × PV)
  | [], _ => []
  | (a, b) :: r, k => if peq a k then r else (a, b) :: ddel r k

/-! ### indexes, slices -/
/-- the place of an index of any sign -/
def ixOf (i : Int) (n : Nat) : Option Nat := if 0 ≤ i then (if i < n then some i.toNat else none) else if -(n : Int) ≤ i then some (i + n).toNat else none
def sIx (n d : Nat) : Option Int → Nat
  | none => d
  | some i => if i < 0 then (i + n).toNat else min i.toNat n
def partOf : PV → Option (Option Int)
  | .non => some none
  | .int i => some (some i)
  | _ => none
def cutL {α : Type} (xs : List α) (lo hi : Option Int) : List α := (xs.drop (sIx xs.length 0 lo)).take (sIx xs.length xs.length hi - sIx xs.length 0 lo)
def cut {α : Type} (xs : List α) (lo hi : PV) : Option (List α) := match partOf lo, partOf hi with
  | some l, some h => some (cutL xs l h)
  | _, _ => none
def maxSize : Nat := 16777216
end NI
end

section
set_option linter.all false
namespace NI
inductive Bo where
  | add | sub | mul | fdiv | mod | pow
  deriving Repr, DecidableEq
inductive Co where
  | eq | ne | lt | le | gt | ge | isa | isn | inn | nin
  deriving Repr, DecidableEq
/-- what a parameter gets: the i-th of what is written, a default; none at all: just what is written -/
inductive Pm where
  | at_ (i : Nat) | dfl (p : PV)
  deriving Repr
/-- built-in classes in isinstance -/
inductive Ty where
  | int | bool | str | tuple | list | own (C : Nat)
  deriving Repr, DecidableEq
/-- built-ins over values -/
inductive Bf where
  | len | int | str | abs | min2 | max2 | sum | any | all | tuple
  deriving Repr, DecidableEq
/-- methods of built-in types over values -/
inductive Bm where
  | append | pop | popAt | insert | dget | dget2 | dpop2 | setdefault | isalnum | islower | upper | lower
  deriving Repr, DecidableEq
/-- expressions; lists of expressions are nil, cons -/
inductive E where
  | nil | cons (a b : E) | star (a : E)
  | var (i : Nat) | con (p : PV) | cst (c : Nat)
  | tup (es : E) | bin (o : Bo) (a b : E) | neg (a : E)
  | cmp (o : Co) (a b : E) | cmpq (o : Co) (a b : E) | chn (o1 o2 : Co) (a b c : E) | and (a b : E) | or (a b : E) | not (a : E) | ite (c a b : E)
  | ix (a b : E) | ixn (l b : E) | slc (a lo hi : E) | rev (a : E) | fld (a : E) (f : Nat) | exf (f : Nat) | exis (C : Nat)
  | call (g : Nat) (es : E) (pm : List Pm) | callv (a : E) (es : E) | mth (o : E) (m : Nat) (es : E) (pm : List Pm) | mk (C : Nat) (es : E) (pm : List Pm) | mkx (C : Nat) (es : E)
  | bf (b : Bf) (es : E) | bq (b : Bf) (q : E) | ext (o q : E) | bm (o : E) (m : Bm) (es : E) | isi (a : E) (ts : List Ty)
  | upd (o : E) (d : E)                       -- o.update(d)
  | new (l : E) | newd (d : E)                -- a fresh list, dict: laid in the heap
  -- lists that come fresh
  | lst (es : E) | lc (elt tg it cond : E) (own : List Nat) | lq (a : E) | lof (a : E) | sorted (a : E) | ladd (a b : E) | lmul (a b : E)
  -- dicts that come fresh
  | dsp (es : E) | dc (k v tg it cond : E) (own : List Nat) | dq (a : E) | dval (a : E) | dstar (a : E) | pair (k v : E)
  -- what is walked: fresh, or a value's items
  | val (a : E) | rng (a : E) | rng2 (a b : E) | zip (a b : E) | enu (a : E) | itm (a : E)
  deriving Repr, Inhabited
/-- statements -/
inductive S where
  | skip | seq (a b : S) | expr (e : E) | asg (tg e : E) | par (is : List Nat) (es : E) | aug (i : Nat) (o : Bo) (e : E) | augf (a : E) (f : Nat) (o : Bo) (e : E) | augx (a b : E) (o : Bo) (e : E)
  | ite (c : E) (a b : S) | whl (c : E) (b : S) | for_ (tg it : E) (b : S) | ret (e : E) | brk | cnt | del (a b : E)
  | raise (C : Nat) (es : E)
  | mat (e : E) (cs : S) | cas (ps : Option (List PV)) (b r : S)  -- match: patterns (none: any)
  | try_ (b hs : S) | cls (C : Nat) (nm : Option Nat) (b r : S)  -- clauses: the class, the name's slot, the suite, the others
  deriving Repr, Inhabited
inductive Y where
  | nx (σ : Sg) (h : AH) | rt (v : PV) (h : AH) | bk (σ : Sg) (h : AH) | ct (σ : Sg) (h : AH) | ex (c : Nat) (fs : List (Nat × PV)) (σ : Sg) (h : AH) | no
def R.to {α : Type} (x : R α) (σ : Sg) (f : α → AH → Y) : Y := match x with
  | .ok a h => f a h
  | .ex c fs h => .ex c fs σ h
  | .no => .no
/-- what stands around: constants, defs by what they do, methods by class and name, __init__s, which class is under which, what an exception's class makes of its arguments -/
structure G where
  cst : Nat → Option PV
  fn : Nat → List PV → AH → R PV
  mt : Nat → Nat → Option Nat
  ini : Nat → Option Nat
  sub : Nat → Nat → Bool
  exi : Nat → List PV → Option (List (Nat × PV))
  fuel : Nat

/-! ### operations over values -/
def lstAt (h : AH) (n : Nat) : Option (List PV) := match h[n]? with
  | some (.lst xs) => some xs
  | some (.frz xs) => some xs
  | _ => none
def lsOnly (h : AH) (n : Nat) : Option (List PV) := match h[n]? with
  | some (.lst xs) => some xs
  | _ => none
def dctAt (h : AH) (n : Nat) : Option (List (PV × PV)) := match h[n]? with
  | some (.dct xs) => some xs
  | some (.frd xs) => some xs
  | _ => none
def powOk (i j : Int) : Bool := decide (0 ≤ j) && decide (j ≤ 1000000) && decide (i.natAbs < 18446744073709551616)
def smallI (i : Int) : Bool := decide (-18446744073709551616 < i) && decide (i < 18446744073709551616)
def hugeDiv : Nat := 2 ^ 9000
def binI (o : Bo) (i j : Int) : Option Int := match o with
  | .add => some (i + j)
  | .sub => some (i - j)
  | .mul => if smallI i || smallI j then some (i * j) else none
  | .fdiv => if decide (0 < j) && decide (j.natAbs < hugeDiv) then some (i / j) else none
  | .mod => if 0 < j then some (i % j) else none
  | .pow => if powOk i j then some (i ^ j.toNat) else none
def repL {α : Type} (xs : List α) : Nat → List α
  | 0 => []
  | n + 1 => xs ++ repL xs n
def int64 (k : Int) : Bool := decide (k < 9223372036854775808) && decide (-9223372036854775808 ≤ k)
def repOk (n : Nat) (k : Int) : Bool := decide (0 < n) && decide (n ≤ 1000) && decide (2 ≤ k) && decide (k ≤ 1000)
def fits (n : Nat) : Bool := decide (n ≤ maxSize)
/-- a binary operation; a list comes laid in the heap -/
def binV (o : Bo) (x y : PV) (h : AH) : R PV := match x with
  | .int i => (match y with
    | .int j => R.ofO h ((binI o i j).map PV.int)
    | _ => .no)
  | .str a => (match y, o with
    | .str b, .add => if fits (a.length + b.length) then .ok (.str (a ++ b)) h else .no
    | _, _ => .no)
  | .tup a => (match y, o with
    | .tup b, .add => if fits (a.length + b.length) then .ok (.tup (a ++ b)) h else .no
    | .int k, .mul => if repOk a.length k then .ok (.tup (repL a k.toNat)) h else .no
    | _, _ => .no)
  | .obj n => (match y, o with
    | .obj m, .add => (match lsOnly h n, lsOnly h m with
      | some a, some b => if fits (a.length + b.length) then .ok (.obj h.length) (h ++ [.lst (a ++ b)]) else .no
      | _, _ => .no)
    | .int k, .mul => (match lsOnly h n with
      | some a => if fits (a.length * k.toNat) && int64 k then .ok (.obj h.length) (h ++ [.lst (repL a k.toNat)]) else .no
      | _ => .no)
    | _, _ => .no)
  | _ => .no
def dataMax : Nat := 64
/-- == of values: data; lists of data -/
def eqV (h : AH) (x y : PV) : Option Bool :=
  if isData dataMax x && isData dataMax y then some (peq x y) else match x, y with
  | .obj n, .obj m => match lstAt h n, lstAt h m with
    | some a, some b => if areData 32 a && areData 32 b then some (peqL a b) else none
    | _, _ => none
  | _, _ => none
def ltV (x y : PV) : Option Bool := if isData dataMax x && isData dataMax y && alike x y then some (plt x y) else none
def isSing (x : PV) : Bool := match x with
  | .non => true
  | _ => false
def isFlat : PV → Bool
  | .non => true
  | .bl _ => true
  | .int _ => true
  | .str _ => true
  | _ => false
def pin (x : PV) (ys : List PV) : Bool := ys.any fun y => peq y x
def inV (h : AH) (x y : PV) : Option Bool := match y with
  | .tup ys => if isFlat x && ys.all isFlat then some (pin x ys) else none
  | .str b => match x with
    | .str [c] => some (b.contains c)
    | _ => none
  | .obj n => match h[n]? with
    | some (.lst ys) => if isData 32 x && areData 32 ys then some (pin x ys) else none
    | some (.dct kvs) => if keyFits x kvs then some ((dget kvs x).isSome) else none
    | some (.frd kvs) => if keyFits x kvs then some ((dget kvs x).isSome) else none
    | _ => none
  | _ => none
def cmpL (o : Co) (x y : List PV) (h : AH) : R PV := if areData 32 x && areData 32 y then (match o with
  | .eq => .ok (.bl (peqL x y)) h
  | .ne => .ok (.bl (!peqL x y)) h
  | _ => .no) else .no
def cmpV (o : Co) (h : AH) (x y : PV) : Option Bool := match o with
  | .eq => eqV h x y
  | .ne => (eqV h x y).map (!·)
  | .lt => ltV x y
  | .gt => match x, y with
    | .int i, .int j => some (decide (j < i))
    | _, _ => none
  | .le => match x, y with
    | .int i, .int j => some (decide (i ≤ j))
    | _, _ => none
  | .ge => match x, y with
    | .int i, .int j => some (decide (j ≤ i))
    | _, _ => none
  | .isa => if isSing y then some (match x with | .non => true | _ => false) else none
  | .isn => if isSing y then some (match x with | .non => false | _ => true) else none
  | .inn => inV h x y
  | .nin => (inV h x y).map (!·)
/-- truth: truths alone are asked -/
def truV : PV → Option Bool
  | .bl b => some b
  | _ => none
def lenV (h : AH) : PV → Option Nat
  | .str s => some s.length
  | .tup xs => some xs.length
  | .obj n => match h[n]? with
    | some (.lst xs) => some xs.length
    | some (.frz xs) => some xs.length
    | some (.dct xs) => some xs.length
    | some (.frd xs) => some xs.length
    | _ => none
  | _ => none
def isTyO (sub : Nat → Nat → Bool) (o : AO) (t : Ty) : Option Bool := match o with
  | .lst _ => (match t with
    | .list => some true
    | .own _ => none
    | _ => some false)
  | .frz _ => (match t with
    | .list => some true
    | .own _ => none
    | _ => some false)
  | .exc D _ => (match t with
    | .own C => some (sub D C)
    | _ => none)
  | _ => none
def isTy (sub : Nat → Nat → Bool) (h : AH) (x : PV) (t : Ty) : Option Bool := match x with
  | .non => (match t with
    | .own _ => none
    | _ => some false)
  | .bl _ => (match t with
    | .bool => some true
    | .int => some true
    | .own _ => none
    | _ => some false)
  | .int _ => (match t with
    | .int => some true
    | .own _ => none
    | _ => some false)
  | .str _ => (match t with
    | .str => some true
    | .own _ => none
    | _ => some false)
  | .tup _ => (match t with
    | .tuple => some true
    | .own _ => none
    | _ => some false)
  | .obj n => (h[n]?).bind fun o => isTyO sub o t
  | .glo _ => none
def isTys (sub : Nat → Nat → Bool) (h : AH) (x : PV) : List Ty → Option Bool
  | [] => some false
  | t :: ts => match isTy sub h x t with
    | some true => some true
    | some false => isTys sub h x ts
    | none => none
/-- an item by its index, a dict's value by its key -/
def ixV (h : AH) (x i : PV) : Option PV := match x with
  | .tup xs => match i with
    | .int i => (ixOf i xs.length).bind fun k => xs[k]?
    | _ => none
  | .str s => match i with
    | .int i => (ixOf i s.length).bind fun k => (s[k]?).map fun c => .str [c]
    | _ => none
  | .obj n => match h[n]? with
    | some (.lst xs) => match i with
      | .int i => (ixOf i xs.length).bind fun k => xs[k]?
      | _ => none
    | some (.frz xs) => match i with
      | .int i => (ixOf i xs.length).bind fun k => xs[k]?
      | _ => none
    | some (.dct kvs) => if keyFits i kvs then dget kvs i else none
    | some (.frd kvs) => if keyFits i kvs then dget kvs i else none
    | _ => none
  | _ => none
def slcV (x : PV) (lo hi : Option Int) (h : AH) : R PV := match x with
  | .tup xs => .ok (.tup (cutL xs lo hi)) h
  | .str s => .ok (.str (cutL s lo hi)) h
  | .obj n => match lstAt h n with
    | some xs => .ok (.obj h.length) (h ++ [.lst (cutL xs lo hi)])
    | none => .no
  | _ => .no
def fget (fs : List (Nat × PV)) (f : Nat) : Option PV := match fs with
  | [] => none
  | (g, v) :: r => if g == f then some v else fget r f
def fput (fs : List (Nat × PV)) (f : Nat) (v : PV) : List (Nat × PV) := match fs with
  | [] => [(f, v)]
  | (g, u) :: r => if g == f then (g, v) :: r else (g, u) :: fput r f v
def fldV (h : AH) (x : PV) (f : Nat) : Option PV := match x with
  | .obj n => match h[n]? with
    | some (.ins _ fs) => fget fs f
    | some (.exc _ fs) => fget fs f
    | _ => none
  | _ => none
def insAt (h : AH) : PV → Option (Nat × Nat × List (Nat × PV))
  | .obj n => match h[n]? with
    | some (.ins C fs) => some (n, C, fs)
    | _ => none
  | _ => none
def setFld (mt : Nat → Nat → Option Nat) (h : AH) (x : PV) (f : Nat) (v : PV) : Option AH := match insAt h x with
  | some (n, C, fs) => if decide (fs.length < 100) && (mt C f).isNone then some (h.set n (.ins C (fput fs f v))) else none
  | none => none
def setIx (h : AH) (x i v : PV) : Option AH := match x with
  | .obj n => match h[n]? with
    | some (.lst xs) => match i with
      | .int i => (ixOf i xs.length).map fun k => h.set n (.lst (xs.set k v))
      | _ => none
    | some (.dct kvs) => if keyFits i kvs && decide (kvs.length < maxSize) then some (h.set n (.dct (dput kvs i v))) else none
    | _ => none
  | _ => none
def delIx (h : AH) (x i : PV) : Option AH := match x with
  | .obj n => match h[n]? with
    | some (.dct kvs) => if keyFits i kvs && (dget kvs i).isSome then some (h.set n (.dct (ddel kvs i))) else none
    | _ => none
  | _ => none
def strMax : Nat := 2 ^ 1900
def dig (n : Nat) : Nat := 48 + n
def txtN : Nat → Nat → Txt → Txt
  | 0, _, acc => acc
  | f + 1, n, acc => if n < 10 then dig n :: acc else txtN f (n / 10) (dig (n % 10) :: acc)
/-- the figures of an integer -/
def txtI (i : Int) : Txt := if i < 0 then 45 :: txtN 600 i.natAbs [] else txtN 600 i.natAbs []
def allBl : List PV → Option (List Bool)
  | [] => some []
  | .bl b :: r => (allBl r).map (b :: ·)
  | _ => none
def allInt : List PV → Option (List Int)
  | [] => some []
  | .int b :: r => (allInt r).map (b :: ·)
  | _ => none
/-- a built-in over a value, over two -/
def bf1 (b : Bf) (h : AH) (x : PV) : Option PV := match b with
  | .len => (lenV h x).map fun (n : Nat) => PV.int (n : Int)
  | .int => (match x with
    | .int i => some (.int i)
    | .bl b => some (.int (b2i b))
    | _ => none)
  | .abs => (match x with
    | .int i => some (.int (if i < 0 then -i else i))
    | _ => none)
  | .str => (match x with
    | .int i => if decide (0 ≤ i) && decide (i < 10) then some (.str [dig i.toNat]) else none
    | _ => none)
  | .tuple => (match x with
    | .tup xs => some (.tup xs)
    | .obj n => (lstAt h n).map PV.tup
    | _ => none)
  | _ => none
def bf2 (b : Bf) (x y : PV) : Option PV := match x with
  | .int i => (match y with
    | .int j => (match b with
      | .min2 => some (.int (if j < i then j else i))
      | .max2 => some (.int (if j > i then j else i))
      | _ => none)
    | _ => none)
  | _ => none
def bfV (b : Bf) (h : AH) (vs : List PV) : Option PV := match vs with
  | [x] => bf1 b h x
  | [x, y] => bf2 b x y
  | _ => none
/-- a built-in over the items of a sequence -/
def bqV (b : Bf) (xs : List PV) : Option PV := match b with
  | .len => some (.int xs.length)
  | .sum => (allInt xs).map fun l => .int l.sum
  | .any => (allBl xs).map fun l => .bl (l.any id)
  | .all => (allBl xs).map fun l => .bl (l.all id)
  | .tuple => some (.tup xs)
  | _ => none
/-- methods of lists -/
def isLs (h : AH) (x : PV) : Bool := match x with
  | .obj n => (lsOnly h n).isSome
  | _ => false
def lmV (m : Bm) (xs vs : List PV) : Option (PV × List PV) := match m with
  | .append => (match vs with
    | [v] => if xs.length < maxSize then some (.non, xs ++ [v]) else none
    | _ => none)
  | .pop => (match vs with
    | [] => (xs[xs.length - 1]?).map fun v => (v, xs.dropLast)
    | _ => none)
  | .popAt => (match vs with
    | [.int i] => if int64 i then (ixOf i xs.length).bind fun k => (xs[k]?).map fun v => (v, xs.eraseIdx k) else none
    | _ => none)
  | _ => none
def bmL (m : Bm) (x : PV) (vs : List PV) (h : AH) : R PV := match x with
  | .obj n => (match lsOnly h n with
    | some xs => (match lmV m xs vs with
      | some (v, ys) => .ok v (h.set n (.lst ys))
      | none => .no)
    | none => .no)
  | _ => .no
/-- methods of dicts -/
def isDc (h : AH) (x : PV) : Bool := match x with
  | .obj n => (dctAt h n).isSome
  | _ => false
def bmD (m : Bm) (x : PV) (vs : List PV) (h : AH) : R PV := match x with
  | .obj n => (match h[n]?, m, vs with
    | some (.dct kvs), .dget, [k] => if keyFits k kvs then .ok ((dget kvs k).getD .non) h else .no
    | some (.dct kvs), .dget2, [k, v] => if keyFits k kvs then .ok ((dget kvs k).getD v) h else .no
    | some (.frd kvs), .dget, [k] => if keyFits k kvs then .ok ((dget kvs k).getD .non) h else .no
    | some (.frd kvs), .dget2, [k, v] => if keyFits k kvs then .ok ((dget kvs k).getD v) h else .no
    | some (.dct kvs), .dpop2, [k, v] => if keyFits k kvs then .ok ((dget kvs k).getD v) (h.set n (.dct (ddel kvs k))) else .no
    | some (.dct kvs), .setdefault, [k, v] => if keyFits k kvs && decide (kvs.length < maxSize) then (match dget kvs k with
      | some u => .ok u h
      | none => .ok v (h.set n (.dct (kvs ++ [(k, v)])))) else .no
    | _, _, _ => .no)
  | _ => .no
def isLm : Bm → Bool
  | .append => true
  | .pop => true
  | .popAt => true
  | _ => false
/-- o.extend(xs) -/
def extV (x : PV) (ys : List PV) (h : AH) : R PV := match x with
  | .obj n => match h[n]? with
    | some (.lst xs) => if fits (xs.length + ys.length) then .ok .non (h.set n (.lst (xs ++ ys))) else .no
    | _ => .no
  | _ => .no
/-- pairs into a dict -/
def dputs : List (PV × PV) → List (PV × PV) → Option (List (PV × PV))
  | kvs, [] => some kvs
  | kvs, (k, v) :: r => if keyFits k kvs && decide (kvs.length < maxSize) then dputs (dput kvs k v) r else none
def asPairs : List PV → Option (List (PV × PV))
  | [] => some []
  | .tup [k, v] :: r => (asPairs r).map ((k, v) :: ·)
  | _ => none
def updV (x : PV) (d : List (PV × PV)) (h : AH) : R PV := match x with
  | .obj n => match h[n]? with
    | some (.dct kvs) => match dputs kvs d with
      | some e => .ok .non (h.set n (.dct e))
      | none => .no
    | _ => .no
  | _ => .no
/-- sorted: data, alike, by insertion, stable -/
def insV (x : PV) : List PV → List PV
  | [] => [x]
  | y :: r => if plt y x then y :: insV x r else x :: y :: r
def sortV : List PV → List PV
  | [] => []
  | x :: r => insV x (sortV r)
def sortable : List PV → Bool
  | [] => true
  | x :: r => isData 16 x && (r.all fun y => alike x y && alike y x) && sortable r
/-- the items of what is walked or read as a sequence -/
def itemsV (h : AH) : PV → Option (List PV)
  | .tup xs => some xs
  | .str s => some (s.map fun c => .str [c])
  | .obj n => match h[n]? with
    | some (.lst xs) => some xs
    | some (.frz xs) => some xs
    | some (.dct kvs) => some (kvs.map (·.1))
    | some (.frd kvs) => some (kvs.map (·.1))
    | _ => none
  | _ => none
/-- what must stand still while it is walked: lists; the dict that is walked is one that is not written -/
inductive Gd where
  | lists (l : List (Nat × List PV)) | dict (n : Nat)
def Gd.none : Gd := .lists []
def Gd.app : Gd → Gd → Option Gd
  | .lists a, .lists b => some (.lists (a ++ b))
  | _, _ => Option.none
mutual
def pvEq : PV → PV → Bool
  | .non, .non => true
  | .bl a, .bl b => a == b
  | .int i, .int j => i == j
  | .str x, .str y => x == y
  | .tup xs, .tup ys => pvEqL xs ys
  | .obj i, .obj j => i == j
  | .glo i, .glo j => i == j
  | _, _ => false
def pvEqL : List PV → List PV → Bool
  | [], [] => true
  | x :: xs, y :: ys => pvEq x y && pvEqL xs ys
  | _, _ => false
end
def still (g : List (Nat × List PV)) (h : AH) : Bool := g.all fun p => match h[p.1]? with
  | some (.lst xs) => pvEqL xs p.2
  | _ => false
def gdOf (h : AH) : PV → Gd
  | .obj n => match h[n]? with
    | some (.lst xs) => .lists [(n, xs)]
    | some (.dct _) => .dict n
    | _ => .none
  | _ => .none
def sget (σ : Sg) (i : Nat) : Option PV := (σ[i]?).join
def wipe (σ : Sg) : List Nat → Sg
  | [] => σ
  | v :: vs => (wipe σ vs).set v none
def enumF : Nat → List PV → List PV
  | _, [] => []
  | n, x :: r => .tup [.int n, x] :: enumF (n + 1) r
def zipV : List PV → List PV → List PV
  | x :: xs, y :: ys => .tup [x, y] :: zipV xs ys
  | _, _ => []
def rngF (lo : Int) : Nat → List PV
  | 0 => []
  | n + 1 => .int lo :: rngF (lo + 1) n
/-- a comprehension's turns -/
def lcF (g : List (Nat × List PV)) (step : PV → AH → R (Option PV)) : List PV → AH → R (List PV)
  | [], h => if still g h then .ok [] h else .no
  | x :: r, h => if still g h then (match step x h with
    | .ok (some y) h1 => (lcF g step r h1).bind fun ys h => .ok (y :: ys) h
    | .ok none h1 => lcF g step r h1
    | _ => .no) else .no
def dcF (g : List (Nat × List PV)) (step : PV → AH → R (Option (PV × PV))) : List PV → List (PV × PV) → AH → R (List (PV × PV))
  | [], acc, h => if still g h then .ok acc h else .no
  | x :: r, acc, h => if still g h then (match step x h with
    | .ok (some y) h1 => if keyFits y.1 acc && decide (acc.length < maxSize) then dcF g step r (dput acc y.1 y.2) h1 else .no
    | .ok none h1 => dcF g step r acc h1
    | _ => .no) else .no
/-- what is walked, and what is done with it: a dict is not written meanwhile -/
def unfz (n : Nat) (h : AH) : Option AH := match h[n]? with
  | some (.frd kvs) => some (h.set n (.dct kvs))
  | _ => none
def R.unf {α : Type} (n : Nat) : R α → R α
  | .ok a h => (match unfz n h with
    | some h => .ok a h
    | none => .no)
  | .ex _ _ _ => .no
  | .no => .no
def wlk {α : Type} (I : AH → R (List PV × Gd)) (h : AH) (k : List PV → List (Nat × List PV) → AH → R α) : R α := match I h with
  | .ok (_, .dict n) _ => (match h[n]? with
    | some (.dct kvs) => (match I (h.set n (.frd kvs)) with
      | .ok (xs, .lists g) h1 => (k xs g h1).unf n
      | _ => .no)
    | _ => .no)
  | .ok (xs, .lists g) h1 => k xs g h1
  | .ex c fs h => .ex c fs h
  | .no => .no
abbrev Xc := Option (Nat × List (Nat × PV))
def intOf : PV → Option Int
  | .int i => some i
  | _ => none
def rngOk (i : Int) : Bool := decide (-4611686018427387904 ≤ i) && decide (i < 4611686018427387904)
def pmV (vs : List PV) : List Pm → Option (List PV)
  | [] => some []
  | .at_ i :: r => match vs[i]?, pmV vs r with
    | some v, some l => some (v :: l)
    | _, _ => none
  | .dfl p :: r => (pmV vs r).map (p :: ·)
def pmA (vs : List PV) (pm : List Pm) : Option (List PV) := match pm with
  | [] => some vs
  | pm => pmV vs pm
def fnA (fn : Nat → List PV → AH → R PV) (g : Nat) (pre vs : List PV) (pm : List Pm) (h : AH) : R PV := match pmA vs pm with
  | some ws => fn g (pre ++ ws) h
  | none => .no
/-- what a piece of syntax does: a value; a row of values; a fresh list; what is walked; a fresh dict; pairs put into a dict; tests; a target; targets -/
structure Den where
  v : Xc → Sg → AH → R PV := fun _ _ _ => .no
  star : Bool := false
  vs : Xc → Sg → AH → R (List PV) := fun _ _ _ => .no
  L : Xc → Sg → AH → R (List PV) := fun _ _ _ => .no
  Q : Xc → Sg → AH → R (List PV × Gd) := fun _ _ _ => .no
  D : Xc → Sg → AH → R (List (PV × PV)) := fun _ _ _ => .no
  P : List (PV × PV) → Xc → Sg → AH → R (List (PV × PV)) := fun _ _ _ _ => .no
  T : Xc → Sg → AH → R Bool := fun _ _ _ => .no
  A : PV → Xc → Sg → AH → R Sg := fun _ _ _ _ => .no
  As : List PV → Xc → Sg → AH → R Sg := fun _ _ _ _ => .no
def zipQ (x y : PV) (h : AH) : R (List PV × Gd) := match x with
  | .tup xs => (match y with
    | .tup ys => .ok (zipV xs ys, .none) h
    | _ => .no)
  | .obj n => (match y with
    | .obj m => (match lsOnly h n, lsOnly h m with
      | some xs, some ys => .ok (zipV xs ys, .lists [(n, xs), (m, ys)]) h
      | _, _ => .no)
    | _ => .no)
  | _ => .no
def enuQ (x : PV) (h : AH) : R (List PV × Gd) := match x with
  | .obj n => (match lsOnly h n with
    | some xs => .ok (enumF 0 xs, .lists [(n, xs)]) h
    | _ => .no)
  | _ => .no
def lenE : E → Nat
  | .cons _ b => lenE b + 1
  | _ => 0
/-- a part of a slice: left out, or an integer -/
def partD (e : E) (v : Xc → Sg → AH → R PV) (xc : Xc) (σ : Sg) (h : AH) : R (Option Int) := match e with
  | .con .non => .ok none h
  | _ => (v xc σ h).bind fun x h => (match x with
    | .int i => .ok (some i) h
    | _ => .no)
def den (Γ : G) : E → Den
  | .nil => { vs := fun _ _ h => .ok [] h, P := fun acc _ _ h => .ok acc h, T := fun _ _ h => .ok true h, As := fun vs _ σ h => match vs with
    | [] => .ok σ h
    | _ => .no }
  | .cons a r => let A := den Γ a; let B := den Γ r
    { vs := fun xc σ h => match A.star with
        | true => (A.vs xc σ h).bind fun xs h => (B.vs xc σ h).bind fun vs h => .ok (xs ++ vs) h
        | false => (A.v xc σ h).bind fun x h => (B.vs xc σ h).bind fun vs h => .ok (x :: vs) h
      P := fun acc xc σ h => (A.P acc xc σ h).bind fun acc h => B.P acc xc σ h
      T := fun xc σ h => (A.v xc σ h).bind fun x h => match x with
        | .bl true => B.T xc σ h
        | .bl false => .ok false h
        | _ => .no
      As := fun vs xc σ h => match vs with
        | v :: vs => (A.A v xc σ h).bind fun σ h => B.As vs xc σ h
        | [] => .no }
  | .star a => let A := den Γ a
    { star := true, vs := fun xc σ h => (A.v xc σ h).bind fun x h => match x with
      | .tup xs => .ok xs h
      | _ => .no }
  | .var i => { v := fun _ σ h => R.ofO h (sget σ i), A := fun v _ σ h => .ok (σ.set i (some v)) h }
  | .con p => { v := fun _ _ h => .ok p h }
  | .cst c => { v := fun _ _ h => R.ofO h (Γ.cst c) }
  | .tup es => let A := den Γ es
    { v := fun xc σ h => (A.vs xc σ h).bind fun vs h => if fits vs.length then .ok (.tup vs) h else .no
      A := fun v xc σ h => match v with
        | .tup vs => if vs.length == lenE es then A.As vs xc σ h else .no
        | .obj n => (match lsOnly h n with
          | some vs => if vs.length == lenE es then A.As vs xc σ h else .no
          | none => .no)
        | _ => .no }
  | .bin o a b => let A := den Γ a; let B := den Γ b
    { v := fun xc σ h => (A.v xc σ h).bind fun x h => (B.v xc σ h).bind fun y h => binV o x y h }
  | .neg a => let A := den Γ a
    { v := fun xc σ h => (A.v xc σ h).bind fun x h => match x with
      | .int i => .ok (.int (-i)) h
      | _ => .no }
  | .cmp o a b => let A := den Γ a; let B := den Γ b
    { v := fun xc σ h => (A.v xc σ h).bind fun x h => (B.v xc σ h).bind fun y h => R.ofO h ((cmpV o h x y).map PV.bl) }
  | .cmpq o a b => let A := den Γ a; let B := den Γ b
    { v := match a with
      | .val _ => fun xc σ h => (A.v xc σ h).bind fun x h => (B.L xc σ h).bind fun ys h => (match x with
        | .obj n => (match lsOnly h n with
          | some xs => cmpL o xs ys h
          | none => .no)
        | _ => .no)
      | _ => fun xc σ h => (A.L xc σ h).bind fun xs h => (B.L xc σ h).bind fun ys h => cmpL o xs ys h }
  | .chn o1 o2 a b c => let A := den Γ a; let B := den Γ b; let C := den Γ c
    { v := fun xc σ h => (A.v xc σ h).bind fun x h => (B.v xc σ h).bind fun y h => match cmpV o1 h x y with
      | some true => (C.v xc σ h).bind fun z h => R.ofO h ((cmpV o2 h y z).map PV.bl)
      | some false => .ok (.bl false) h
      | none => .no }
  | .and a b => let A := den Γ a; let B := den Γ b
    { v := fun xc σ h => (A.v xc σ h).bind fun x h => match x with
      | .bl true => B.v xc σ h
      | .bl false => .ok (.bl false) h
      | _ => .no }
  | .or a b => let A := den Γ a; let B := den Γ b
    { v := fun xc σ h => (A.v xc σ h).bind fun x h => match x with
      | .bl true => .ok (.bl true) h
      | .bl false => B.v xc σ h
      | _ => .no }
  | .not a => let A := den Γ a
    { v := fun xc σ h => (A.v xc σ h).bind fun x h => match x with
      | .bl b => .ok (.bl (!b)) h
      | _ => .no }
  | .ite c a b => let C := den Γ c; let A := den Γ a; let B := den Γ b
    { v := fun xc σ h => (C.v xc σ h).bind fun x h => match x with
      | .bl true => A.v xc σ h
      | .bl false => B.v xc σ h
      | _ => .no }
  | .ix a b => let A := den Γ a; let B := den Γ b
    { v := fun xc σ h => (A.v xc σ h).bind fun x h => (B.v xc σ h).bind fun i h => R.ofO h (ixV h x i)
      A := fun v xc σ h => (A.v xc σ h).bind fun x h => (B.v xc σ h).bind fun i h => (match setIx h x i v with
        | some h => .ok σ h
        | none => .no) }
  | .ixn l b => let A := den Γ l; let B := den Γ b
    { v := fun xc σ h => (A.L xc σ h).bind fun xs h => (B.v xc σ h).bind fun i h => R.ofO h (ixV [] (.tup xs) i) }
  | .slc a lo hi => let A := den Γ a; let B := den Γ lo; let C := den Γ hi
    { v := fun xc σ h => (A.v xc σ h).bind fun x h => (partD lo B.v xc σ h).bind fun i h => (partD hi C.v xc σ h).bind fun j h => slcV x i j h }
  | .rev a => let A := den Γ a
    { v := fun xc σ h => (A.v xc σ h).bind fun x h => match x with
        | .tup xs => .ok (.tup xs.reverse) h
        | .str s => .ok (.str s.reverse) h
        | .obj n => (match lstAt h n with
          | some xs => .ok (.obj h.length) (h ++ [.lst xs.reverse])
          | none => .no)
        | _ => .no }
  | .fld a f => let A := den Γ a
    { v := fun xc σ h => (A.v xc σ h).bind fun x h => R.ofO h (fldV h x f)
      A := fun v xc σ h => (A.v xc σ h).bind fun x h => (match setFld Γ.mt h x f v with
        | some h => .ok σ h
        | none => .no) }
  | .exf f => { v := fun xc _ h => R.ofO h (xc.bind fun c => fget c.2 f) }
  | .exis C => { v := fun xc _ h => R.ofO h (xc.map fun c => .bl (Γ.sub c.1 C)) }
  | .call g es pm => let B := den Γ es
    { v := fun xc σ h => (B.vs xc σ h).bind fun vs h => fnA Γ.fn g [] vs pm h }
  | .callv a es => let A := den Γ a; let B := den Γ es
    { v := fun xc σ h => (A.v xc σ h).bind fun x h => (B.vs xc σ h).bind fun vs h => match x with
      | .glo g => Γ.fn g vs h
      | _ => .no }
  | .mth o m es pm => let A := den Γ o; let B := den Γ es
    { v := fun xc σ h => (A.v xc σ h).bind fun x h => match insAt h x with
      | some (_, C, fs) => (match fget fs m, Γ.mt C m with
        | none, some g => (B.vs xc σ h).bind fun vs h => fnA Γ.fn g [x] vs pm h
        | _, _ => .no)
      | none => .no }
  | .mk C es pm => let B := den Γ es
    { v := fun xc σ h => (B.vs xc σ h).bind fun vs h => match Γ.ini C with
      | some g => (fnA Γ.fn g [.obj h.length] vs pm (h ++ [.ins C []])).bind fun v h1 => (match v with
        | .non => .ok (.obj h.length) h1
        | _ => .no)
      | none => .no }
  | .mkx C es => let B := den Γ es
    { v := fun xc σ h => (B.vs xc σ h).bind fun vs h => match Γ.exi C vs with
      | some fs => .ok (.obj h.length) (h ++ [.exc C fs])
      | none => .no }
  | .bf b es => let B := den Γ es
    { v := fun xc σ h => (B.vs xc σ h).bind fun vs h => R.ofO h (bfV b h vs) }
  | .bq b q => let B := den Γ q
    { v := fun xc σ h => (B.Q xc σ h).bind fun xs h => R.ofO h (bqV b xs.1) }
  | .ext o q => let A := den Γ o; let B := den Γ q
    { v := fun xc σ h => (A.v xc σ h).bind fun x h => (B.Q xc σ h).bind fun ys h => extV x ys.1 h }
  | .bm o m es => let A := den Γ o; let B := den Γ es
    { v := match isLm m with
      | true => fun xc σ h => (A.v xc σ h).bind fun x h => (match isLs h x with
        | true => (B.vs xc σ h).bind fun vs h => bmL m x vs h
        | false => .no)
      | false => fun xc σ h => (A.v xc σ h).bind fun x h => (match isDc h x with
        | true => (B.vs xc σ h).bind fun vs h => bmD m x vs h
        | false => .no) }
  | .isi a ts => let A := den Γ a
    { v := fun xc σ h => (A.v xc σ h).bind fun x h => R.ofO h ((isTys Γ.sub h x ts).map PV.bl) }
  | .upd o d => let A := den Γ o; let B := den Γ d
    { v := fun xc σ h => (A.v xc σ h).bind fun x h => (B.D xc σ h).bind fun kvs h => updV x kvs h }
  | .new l => let A := den Γ l
    { v := fun xc σ h => (A.L xc σ h).bind fun xs h => .ok (.obj h.length) (h ++ [.lst xs])
      L := A.L
      Q := fun xc σ h => (A.L xc σ h).bind fun xs h => .ok (xs, .none) h }
  | .newd d => let A := den Γ d
    { v := fun xc σ h => (A.D xc σ h).bind fun kvs h => .ok (.obj h.length) (h ++ [.dct kvs])
      D := A.D }
  | .lst es => let A := den Γ es
    { L := fun xc σ h => (A.vs xc σ h).bind fun vs h => if fits vs.length then .ok vs h else .no }
  | .lc elt tg it cond own => let El := den Γ elt; let Tg := den Γ tg; let It := den Γ it; let Cd := den Γ cond
    { L := fun xc σ h => wlk (It.Q xc σ) h fun q g h => if !fits q.length then .no else lcF g (fun x h => (Tg.A x xc (wipe σ own) h).bind fun σ1 h => (Cd.T xc σ1 h).bind fun b h => (match b with
        | true => (El.v xc σ1 h).bind fun y h => .ok (some y) h
        | false => .ok none h)) q h }
  | .lof a => let A := den Γ a
    { L := fun xc σ h => (A.v xc σ h).bind fun x h => (match x with
        | .tup xs => .ok xs h
        | .obj n => R.ofO h (lstAt h n)
        | _ => .no) }
  | .lq a => let A := den Γ a
    { L := fun xc σ h => (A.Q xc σ h).bind fun q h => if fits q.1.length then .ok q.1 h else .no }
  | .sorted a => let A := den Γ a
    { L := fun xc σ h => (A.Q xc σ h).bind fun q h => if sortable q.1 && fits q.1.length then .ok (sortV q.1) h else .no }
  | .ladd a b => let A := den Γ a; let B := den Γ b
    { L := fun xc σ h => (A.L xc σ h).bind fun x h => (B.L xc σ h).bind fun y h => if fits (x.length + y.length) then .ok (x ++ y) h else .no }
  | .lmul a b => let A := den Γ a; let B := den Γ b
    { L := fun xc σ h => (A.L xc σ h).bind fun x h => (B.v xc σ h).bind fun y h => match y with
      | .int k => if fits (x.length * k.toNat) && int64 k then .ok (repL x k.toNat) h else .no
      | _ => .no }
  | .dsp es => let A := den Γ es
    { D := A.P [] }
  | .dc k v tg it cond own => let Kd := den Γ k; let Vd := den Γ v; let Tg := den Γ tg; let It := den Γ it; let Cd := den Γ cond
    { D := fun xc σ h => wlk (It.Q xc σ) h fun q g h => dcF g (fun x h => (Tg.A x xc (wipe σ own) h).bind fun σ1 h => (Cd.T xc σ1 h).bind fun b h => (match b with
        | true => (Kd.v xc σ1 h).bind fun y h => (Vd.v xc σ1 h).bind fun z h => .ok (some (y, z)) h
        | false => .ok none h)) q [] h }
  | .dq a => let A := den Γ a
    { D := fun xc σ h => (A.Q xc σ h).bind fun q h => R.ofO h ((asPairs q.1).bind (dputs [])) }
  | .pair k v => let A := den Γ k; let B := den Γ v
    { P := fun acc xc σ h => (A.v xc σ h).bind fun x h => (B.v xc σ h).bind fun y h => R.ofO h (dputs acc [(x, y)]) }
  | .dstar a => let A := den Γ a
    { P := fun acc xc σ h => (A.D xc σ h).bind fun kvs h => R.ofO h (dputs acc kvs) }
  | .dval a => let A := den Γ a
    { D := fun xc σ h => (A.v xc σ h).bind fun x h => match x with
      | .obj n => R.ofO h (dctAt h n)
      | _ => .no }
  | .val a => let A := den Γ a
    { v := A.v
      L := fun xc σ h => (A.v xc σ h).bind fun x h => (match x with
        | .obj n => R.ofO h (lsOnly h n)
        | _ => .no)
      Q := fun xc σ h => (A.v xc σ h).bind fun x h => R.ofO h ((itemsV h x).map fun xs => (xs, gdOf h x)) }
  | .rng a => let A := den Γ a
    { Q := fun xc σ h => (A.v xc σ h).bind fun x h => match x with
      | .int n => if rngOk n then .ok (rngF 0 n.toNat, .none) h else .no
      | _ => .no }
  | .rng2 a b => let A := den Γ a; let B := den Γ b
    { Q := fun xc σ h => (A.v xc σ h).bind fun x h => (B.v xc σ h).bind fun y h => match x, y with
      | .int i, .int j => if rngOk i && rngOk j then .ok (rngF i (j - i).toNat, .none) h else .no
      | _, _ => .no }
  | .zip a b => let A := den Γ a; let B := den Γ b
    { Q := fun xc σ h => (A.v xc σ h).bind fun x h => (B.v xc σ h).bind fun y h => zipQ x y h }
  | .enu a => let A := den Γ a
    { Q := fun xc σ h => (A.v xc σ h).bind fun x h => enuQ x h }
  | .itm a => let A := den Γ a
    { Q := fun xc σ h => (A.v xc σ h).bind fun x h => match x with
      | .obj n => (match dctAt h n with
        | some kvs => .ok (kvs.map fun p => .tup [p.1, p.2], gdOf h x) h
        | none => .no)
      | _ => .no }
/-- an operation in place: of integers -/
def binS (o : Bo) (x y : PV) (h : AH) : R PV := match x with
  | .int i => (match y with
    | .int j => (match o with
      | .add => .ok (.int (i + j)) h
      | .sub => .ok (.int (i - j)) h
      | _ => .no)
    | _ => .no)
  | _ => .no
def forF (g : List (Nat × List PV)) (asg : PV → Sg → AH → R Sg) (body : Sg → AH → Y) : List PV → Sg → AH → Y
  | [], σ, h => if still g h then .nx σ h else .no
  | x :: r, σ, h => if still g h then ((asg x σ h).to σ fun σ1 h1 => match body σ1 h1 with
    | .nx σ2 h2 => forF g asg body r σ2 h2
    | .ct σ2 h2 => forF g asg body r σ2 h2
    | .bk σ2 h2 => .nx σ2 h2
    | y => y) else .no
def Y.unf (n : Nat) : Y → Y
  | .nx σ h => (match unfz n h with
    | some h => .nx σ h
    | none => .no)
  | .rt v h => (match unfz n h with
    | some h => .rt v h
    | none => .no)
  | .bk σ h => (match unfz n h with
    | some h => .bk σ h
    | none => .no)
  | .ct σ h => (match unfz n h with
    | some h => .ct σ h
    | none => .no)
  | _ => .no
def wlkY (I : AH → R (List PV × Gd)) (σ : Sg) (h : AH) (k : List PV → List (Nat × List PV) → AH → Y) : Y := match I h with
  | .ok (_, .dict n) _ => (match h[n]? with
    | some (.dct kvs) => (match I (h.set n (.frd kvs)) with
      | .ok (xs, .lists g) h1 => (k xs g h1).unf n
      | _ => .no)
    | _ => .no)
  | .ok (xs, .lists g) h1 => k xs g h1
  | .ex c fs h => .ex c fs σ h
  | .no => .no
def whlF (c : Sg → AH → R PV) (body : Sg → AH → Y) : Nat → Sg → AH → Y
  | 0, _, _ => .no
  | n + 1, σ, h => (c σ h).to σ fun b h => match b with
    | .bl true => (match body σ h with
      | .nx σ2 h2 => whlF c body n σ2 h2
      | .ct σ2 h2 => whlF c body n σ2 h2
      | .bk σ2 h2 => .nx σ2 h2
      | y => y)
    | .bl false => .nx σ h
    | _ => .no
def setAll (σ : Sg) : List Nat → List PV → Option Sg
  | [], [] => some σ
  | i :: is, v :: vs => setAll (σ.set i (some v)) is vs
  | _, _ => none
def unset (σ : Sg) : Option Nat → Sg
  | some i => σ.set i none
  | none => σ
def Y.map (f : Sg → Sg) : Y → Y
  | .nx σ h => .nx (f σ) h
  | .bk σ h => .bk (f σ) h
  | .ct σ h => .ct (f σ) h
  | y => y
section
variable (Γ : G)
structure DenS where
  r : Xc → Sg → AH → Y := fun _ _ _ => .no
  hd : Nat → List (Nat × PV) → Xc → Sg → AH → Y := fun c fs _ σ h => .ex c fs σ h
  mt : PV → Xc → Sg → AH → Y := fun _ _ σ h => .nx σ h
def dens : S → DenS
  | .skip => { r := fun _ σ h => .nx σ h }
  | .seq a b => let A := dens a; let B := dens b
    { r := fun xc σ h => match A.r xc σ h with
      | .nx σ h => B.r xc σ h
      | y => y }
  | .expr e => let A := den Γ e
    { r := fun xc σ h => (A.v xc σ h).to σ fun _ h => .nx σ h }
  | .asg tg e => let T := den Γ tg; let A := den Γ e
    { r := fun xc σ h => (A.v xc σ h).to σ fun v h => (T.A v xc σ h).to σ fun σ h => .nx σ h }
  | .par is es => let A := den Γ es
    { r := fun xc σ h => (A.vs xc σ h).to σ fun vs h => match setAll σ is vs with
      | some σ => .nx σ h
      | none => .no }
  | .aug i o e => let A := den Γ e
    { r := fun xc σ h => match sget σ i with
      | some x => (A.v xc σ h).to σ fun y h => (binS o x y h).to σ fun z h => .nx (σ.set i (some z)) h
      | none => .no }
  | .augf a f o e => let A := den Γ a; let B := den Γ e
    { r := fun xc σ h => (A.v xc σ h).to σ fun x h => match fldV h x f with
      | some y => (match insAt h x with
        | some (_, C0, _) => (B.v xc σ h).to σ fun z h => (binS o y z h).to σ fun u h => (match insAt h x with
          | some (_, C1, _) => (match C1 == C0 with
            | true => (match setFld Γ.mt h x f u with
              | some h => .nx σ h
              | none => .no)
            | false => .no)
          | none => .no)
        | none => .no)
      | none => .no }
  | .augx a b o e => let A := den Γ a; let B := den Γ b; let C := den Γ e
    { r := fun xc σ h => (A.v xc σ h).to σ fun x h => (B.v xc σ h).to σ fun i h => match ixV h x i with
      | some y => (C.v xc σ h).to σ fun z h => (binS o y z h).to σ fun u h => (match setIx h x i u with
        | some h => .nx σ h
        | none => .no)
      | none => .no }
  | .ite c a b => let C := den Γ c; let A := dens a; let B := dens b
    { r := fun xc σ h => (C.v xc σ h).to σ fun x h => match x with
      | .bl true => A.r xc σ h
      | .bl false => B.r xc σ h
      | _ => .no }
  | .whl c b => let C := den Γ c; let B := dens b
    { r := fun xc σ h => whlF (C.v xc) (B.r xc) Γ.fuel σ h }
  | .for_ tg it b => let T := den Γ tg; let I := den Γ it; let B := dens b
    { r := fun xc σ h => wlkY (I.Q xc σ) σ h fun q g h => forF g (fun x σ h => T.A x xc σ h) (B.r xc) q σ h }
  | .ret e => let A := den Γ e
    { r := fun xc σ h => (A.v xc σ h).to σ fun v h => .rt v h }
  | .brk => { r := fun _ σ h => .bk σ h }
  | .cnt => { r := fun _ σ h => .ct σ h }
  | .del a b => let A := den Γ a; let B := den Γ b
    { r := fun xc σ h => (A.v xc σ h).to σ fun x h => (B.v xc σ h).to σ fun i h => match delIx h x i with
      | some h => .nx σ h
      | none => .no }
  | .raise C es => let A := den Γ es
    { r := fun xc σ h => (A.vs xc σ h).to σ fun vs h => match Γ.exi C vs with
      | some fs => .ex C fs σ h
      | none => .no }
  | .mat e cs => let A := den Γ e; let C := dens cs
    { r := fun xc σ h => (A.v xc σ h).to σ fun x h => C.mt x xc σ h }
  | .cas ps b r => let B := dens b; let N := dens r
    { mt := fun x xc σ h => match ps with
      | none => B.r xc σ h
      | some ps => (match x with
        | .str _ => (match ps.any (fun y => peq x y) with
          | true => B.r xc σ h
          | false => N.mt x xc σ h)
        | _ => .no) }
  | .try_ b hs => let B := dens b; let H := dens hs
    { r := fun xc σ h => match B.r xc σ h with
      | .ex c fs σ h => H.hd c fs xc σ h
      | y => y }
  | .cls C nm b r => let B := dens b; let N := dens r
    { hd := fun c fs xc σ h => match Γ.sub c C with
      | true => (B.r (some (c, fs)) σ h).map fun σ => unset σ nm
      | false => N.hd c fs xc σ h }
/-- a def's body, its arguments in the first slots -/
def runD (n : Nat) (b : S) (args : List PV) (h : AH) : R PV := match (dens Γ b).r none (args.map some ++ List.replicate (n - args.length) none) h with
  | .nx _ h => .ok .non h
  | .rt v h => .ok v h
  | .ex c fs _ h => .ex c fs h
  | _ => .no
end
end NI
end

section
set_option linter.all false
namespace NI
open PySem
/-- what is known of a text, all by numbers: its defs (a global's name; a class and its method) with their parameters and defaults; its classes, which of them are exceptions; its constants; the names of attributes and methods -/
structure Stx where
  fns : List ((Str × Option Str) × Nat)
  pars : List (Nat × List Str × List (Option PV))
  cls : List (Str × Nat × Bool)
  csts : List (Str × Nat)
  attrs : List (Str × Nat)
  exs : List (Str × Nat × Nat × Str) := []
  exts : List (Str × Nat) := []
def fnE (a : String) (b : Option String) (i : Nat) : (Str × Option Str) × Nat := ((Str.ofString a, b.map Str.ofString), i)
def parE (i : Nat) (ps : List String) (ds : List (Option PV)) : Nat × List Str × List (Option PV) := (i, ps.map Str.ofString, ds)
def clsE (a : String) (i : Nat) (e : Bool) : Str × Nat × Bool := (Str.ofString a, i, e)
def namE (a : String) (i : Nat) : Str × Nat := (Str.ofString a, i)
def ixS (x : Str) : List Str → Option Nat
  | [] => none
  | y :: r => if x == y then some 0 else (ixS x r).map (· + 1)
def atS {α : Type} (x : Str) : List (Str × α) → Option α
  | [] => none
  | (y, a) :: r => if x == y then some a else atS x r
def atF (x : Str) (m : Option Str) : List ((Str × Option Str) × Nat) → Option Nat
  | [] => none
  | ((y, k), i) :: r => if x == y && m == k then some i else atF x m r
def atN {α : Type} (g : Nat) : List (Nat × α) → Option α
  | [] => none
  | (i, a) :: r => if i == g then some a else atN g r
def Stx.fn (S : Stx) (x : Str) : Option Nat := atF x none S.fns
def Stx.par (S : Stx) (g : Nat) : Option (List Str × List (Option PV)) := atN g S.pars
def Stx.isMth (S : Stx) (m : Str) : Bool := S.fns.any fun p => p.1.2 == some m
def Stx.mths (S : Stx) (m : Str) : List Nat := (S.fns.filter fun p => p.1.2 == some m).map (·.2)
def Stx.kl (S : Stx) (x : Str) : Option Nat := (atS x S.cls).map (·.1)
/-- where one stands: the names by slot, the scope, the handler's name -/
structure Wh where
  N : List Str
  sc : Scope
  hn : Option Str := none
def relScope (scope sc : Scope) : Scope :=
  { scope with names := scope.names.map fun (n, k) => if (k == .free && sc.kind == .function && sc.names.lookup n == some .cell) then (n, .cell) else (n, k) }
def Wh.slot (W : Wh) (x : Str) : Option Nat := match W.sc.names.lookup x with
  | some .local => ixS x W.N
  | some .cell => ixS x W.N
  | some .free => ixS x W.N
  | _ => none
def Wh.gl (W : Wh) (x : Str) : Bool := W.sc.names.lookup x == some .globalImplicit
def txt (x : Str) : Txt := x.cps.toList
def cConst : Const → Option PV
  | .none => some .non
  | .bool b => some (.bl b)
  | .int i => some (.int i)
  | .str s => some (.str (txt s))
  | _ => none
def cBo : Operator → Option Bo
  | .Add => some .add
  | .Sub => some .sub
  | .Mult => some .mul
  | .FloorDiv => some .fdiv
  | .Mod => some .mod
  | .Pow => some .pow
  | _ => none
def cCo : CmpOp → Option Co
  | .Eq => some .eq
  | .NotEq => some .ne
  | .Lt => some .lt
  | .LtE => some .le
  | .Gt => some .gt
  | .GtE => some .ge
  | .Is => some .isa
  | .IsNot => some .isn
  | .In => some .inn
  | .NotIn => some .nin
/-- a list that comes fresh -/
def isL : PySem.Expr → Bool
  | .List _ _ => true
  | .ListComp _ _ _ _ => true
  | .Call (.Name f _) _ _ _ => f == ("list" : Str) || f == ("sorted" : Str)
  | .BinOp a .Add b _ => isL a && isL b
  | .BinOp a .Mult _ _ => isL a
  | _ => false
def isSlice : PySem.Expr → Bool
  | .Slice .. => true
  | _ => false
/-- the names that a comprehension's block has of its own, with their slots -/
def ownOf (N : List Str) (scope : Scope) : Option (List (Str × Nat)) := some ((scope.names.filter fun p => p.2 == .local || p.2 == .cell).filterMap fun p => (ixS p.1 N).map fun i => (p.1, i))
def mapE {α β : Type} (f : α → Option β) : List α → Option (List β)
  | [] => some []
  | x :: r => match f x, mapE f r with
    | some y, some ys => some (y :: ys)
    | _, _ => none
def consE : List E → E
  | [] => .nil
  | x :: r => .cons x (consE r)
/-- parameters from what is written: positional ones, keywords; defaults -/
def pmOf (ps : List Str) (ds : List (Option PV)) (n : Nat) (ks : List Str) : Option (List Pm) :=
  if ks.isEmpty && ps.length == n then some [] else
    mapE (fun i => match ps[i]? with
      | none => none
      | some x => if i < n then some (.at_ i) else match ixS x ks with
        | some j => some (.at_ (n + j))
        | none => ((ds[i]?).join).map .dfl) (List.range ps.length)
def cTy (S : Stx) : PySem.Expr → Option Ty
  | .Name x _ => if x == ("int" : Str) then some .int else if x == ("bool" : Str) then some .bool else if x == ("str" : Str) then some .str
    else if x == ("tuple" : Str) then some .tuple else if x == ("list" : Str) then some .list else (S.kl x).map .own
  | _ => none
def bfOf (f : Str) (n : Nat) : Option Bf :=
  if f == ("len" : Str) && n == 1 then some .len else if f == ("int" : Str) && n == 1 then some .int else if f == ("str" : Str) && n == 1 then some .str
  else if f == ("abs" : Str) && n == 1 then some .abs else if f == ("min" : Str) && n == 2 then some .min2 else if f == ("max" : Str) && n == 2 then some .max2 else none
def bqOf (f : Str) : Option Bf :=
  if f == ("tuple" : Str) then some .tuple else if f == ("sum" : Str) then some .sum else if f == ("any" : Str) then some .any else if f == ("all" : Str) then some .all else none
def bmOf (m : Str) (n : Nat) : Option Bm :=
  if m == ("append" : Str) && n == 1 then some .append else if m == ("pop" : Str) then (if n == 0 then some .pop else if n == 1 then some .popAt else if n == 2 then some .dpop2 else none)
  else if m == ("get" : Str) then (if n == 1 then some .dget else if n == 2 then some .dget2 else none) else if m == ("setdefault" : Str) && n == 2 then some .setdefault
  else if m == ("isalnum" : Str) && n == 0 then some .isalnum else if m == ("islower" : Str) && n == 0 then some .islower else if m == ("upper" : Str) && n == 0 then some .upper else if m == ("lower" : Str) && n == 0 then some .lower else none
section
variable (S : Stx)
/-- kinds of places in which an expression may stand: a value; a fresh list or a list's items; what is walked; a fresh dict or a dict's pairs; a target -/
inductive Pl where
  | v | l | q | d | t
  deriving DecidableEq
def cE : Nat → Pl → Wh → PySem.Expr → Option E
  | 0, _, _, _ => none
  | n + 1, .v, W, e => match e with
    | .Name x _ => (match W.slot x with
      | some i => some (.var i)
      | none => if W.gl x then (match atS x S.csts with
        | some c => some (.cst c)
        | none => (S.fn x).map fun g => .con (.glo g)) else none)
    | .Constant c _ _ => (cConst c).map .con
    | .Tuple es _ _ => (mapE (cA n W) es).map fun l => .tup (consE l)
    | .UnaryOp .USub a _ => (cE n .v W a).map .neg
    | .UnaryOp .Not a _ => (cE n .v W a).map .not
    | .BoolOp .And (a :: r) _ => cB n W true a r
    | .BoolOp .Or (a :: r) _ => cB n W false a r
    | .IfExp c a b _ => match cE n .v W c, cE n .v W a, cE n .v W b with
      | some c, some a, some b => some (.ite c a b)
      | _, _, _ => none
    | .Compare a [op] [b] _ => if isL a || isL b then (match cCo op, cE n .l W a, cE n .l W b with
        | some o, some a, some b => some (.cmpq o a b)
        | _, _, _ => none)
      else (match cCo op, cE n .v W a, cE n .v W b with
        | some o, some a, some b => some (.cmp o a b)
        | _, _, _ => none)
    | .Compare a [o1, o2] [b, c] _ => match cCo o1, cCo o2, cE n .v W a, cE n .v W b, cE n .v W c with
      | some o1, some o2, some a, some b, some c => some (.chn o1 o2 a b c)
      | _, _, _, _, _ => none
    | .Attribute (.Name x p) f _ => if W.hn == some x then (atS f S.attrs).map .exf else match cE n .v W (.Name x p), atS f S.attrs with
      | some a, some f => some (.fld a f)
      | _, _ => none
    | .Attribute a f _ => match cE n .v W a, atS f S.attrs with
      | some a, some f => some (.fld a f)
      | _, _ => none
    | .Subscript a (.Slice lo hi none _) _ => match cE n .v W a, cO n W lo, cO n W hi with
      | some a, some lo, some hi => some (.slc a lo hi)
      | _, _, _ => none
    | .Subscript a (.Slice none none (some (.UnaryOp .USub (.Constant (.int 1) _ _) _)) _) _ => (cE n .v W a).map .rev
    | .Subscript a b _ => if isSlice b then none else if isL a then (match cE n .l W a, cE n .v W b with
        | some (.new l), some b => some (.ixn l b)
        | _, _ => none)
      else (match cE n .v W a, cE n .v W b with
        | some a, some b => some (.ix a b)
        | _, _ => none)
    | .Call (.Name f p) as ks _ => if W.gl f then (match S.fn f with
        | some g => (match S.par g, mapE (cE n .v W) as, mapE (fun k => cE n .v W k.value) ks, mapE (fun k => k.arg) ks with
          | some (ps, ds), some as, some kvs, some kn => (pmOf ps ds as.length kn).map fun pm => .call g (consE (as ++ kvs)) pm
          | _, _, _, _ => none)
        | none => (match atS f S.cls with
          | some (C, isx) => (match isx with
            | true => (match mapE (cE n .v W) as, mapE (fun k => cE n .v W k.value) ks with
              | some as, some kvs => some (.mkx C (consE (as ++ kvs)))
              | _, _ => none)
            | false => (match atF f (some "__init__") S.fns with
              | some g => (match S.par g, mapE (cE n .v W) as, mapE (fun k => cE n .v W k.value) ks, mapE (fun k => k.arg) ks with
                | some (ps, ds), some as, some kvs, some kn => (pmOf (ps.drop 1) (ds.drop 1) as.length kn).map fun pm => .mk C (consE (as ++ kvs)) pm
                | _, _, _, _ => none)
              | none => none))
          | none => if !ks.isEmpty then none else if f == ("isinstance" : Str) then (match as with
              | [a, .Tuple ts _ _] => (match cE n .v W a, mapE (cTy S) ts with
                | some a, some ts => some (.isi a ts)
                | _, _ => none)
              | [.Name x p, t] => (match cTy S t with
                | some (.own C) => if W.hn == some x then some (.exis C) else (cE n .v W (.Name x p)).map fun a => .isi a [.own C]
                | some t => (cE n .v W (.Name x p)).map fun a => .isi a [t]
                | none => none)
              | [a, t] => (match cE n .v W a, cTy S t with
                | some a, some t => some (.isi a [t])
                | _, _ => none)
              | _ => none)
            else if f == ("len" : Str) && as.any isL then (match as with
              | [a] => (cE n .q W a).map fun q => .bq .len q
              | _ => none)
            else (match bqOf f, as with
              | some b, [a] => (cE n .q W a).map fun q => .bq b q
              | _, _ => if f == ("list" : Str) || f == ("sorted" : Str) then (cE n .l W e).bind fun
                  | .new l => some (.new l)
                  | _ => none
                else if f == ("dict" : Str) then (cE n .d W e).map fun d => .newd d
                else (match bfOf f as.length, mapE (cE n .v W) as with
                  | some b, some as => some (.bf b (consE as))
                  | _, _ => none))))
      else (match W.slot f, mapE (cE n .v W) as, ks with
        | some i, some as, [] => some (.callv (.var i) (consE as))
        | _, _, _ => none)
    | .Call (.Attribute o m _) as ks _ => if S.isMth m then (match cE n .v W o, atS m S.attrs, mapE (cE n .v W) as, mapE (fun k => cE n .v W k.value) ks, mapE (fun k => k.arg) ks, S.mths m with
        | some o, some mi, some as, some kvs, some kn, gs => (match mapE (fun g => (S.par g).bind fun pd => pmOf (pd.1.drop 1) (pd.2.drop 1) as.length kn) gs with
          | some (pm :: r) => some (.mth o mi (consE (as ++ kvs)) pm)
          | _ => none)
        | _, _, _, _, _, _ => none)
      else if !ks.isEmpty then none else if m == ("extend" : Str) then (match as with
        | [a] => (match cE n .v W o, cE n .q W a with
          | some o, some q => some (.ext o q)
          | _, _ => none)
        | _ => none)
      else if m == ("update" : Str) then (match as with
        | [a] => (match cE n .v W o, cE n .d W a with
          | some o, some d => some (.upd o d)
          | _, _ => none)
        | _ => none)
      else (match cE n .v W o, bmOf m as.length, mapE (cE n .v W) as with
        | some o, some b, some as => some (.bm o b (consE as))
        | _, _, _ => none)
    | .List _ _ => cE n .l W e
    | .ListComp _ _ _ _ => cE n .l W e
    | .BinOp a o b _ => if isL e then cE n .l W e else (match cBo o, cE n .v W a, cE n .v W b with
      | some o, some a, some b => some (.bin o a b)
      | _, _, _ => none)
    | .Dict _ _ _ => (cE n .d W e).map .newd
    | .DictComp _ _ _ _ _ => (cE n .d W e).map .newd
    | _ => none
  | n + 1, .l, W, e => match e with
    | .List es _ => (mapE (cA n W) es).map fun l => .new (.lst (consE l))
    | .ListComp elt [⟨tg, it, ifs, 0⟩] scope _ => (match ownOf W.N scope with
      | some own => (match cE n .q W it, cE n .v ⟨W.N, relScope scope W.sc, none⟩ elt, cE n .t ⟨W.N, relScope scope W.sc, none⟩ tg, mapE (cE n .v ⟨W.N, relScope scope W.sc, none⟩) ifs with
        | some it, some elt, some tg, some ifs => some (.new (.lc elt tg it (consE ifs) (own.map (·.2))))
        | _, _, _, _ => none)
      | none => none)
    | .Call (.Name f p) [a] [] pos => if W.gl f then (if f == ("list" : Str) then (cE n .q W a).map fun q => .new (.lq q)
        else if f == ("sorted" : Str) then (cE n .q W a).map fun q => .new (.sorted q) else (cE n .v W (.Call (.Name f p) [a] [] pos)).map .val) else none
    | .BinOp a .Add b pos => if isL a && isL b then (match cE n .l W a, cE n .l W b with
        | some a, some b => some (.new (.ladd a b))
        | _, _ => none) else (cE n .v W (.BinOp a .Add b pos)).map .val
    | .BinOp a .Mult b pos => if isL a then (match cE n .l W a, cE n .v W b with
        | some a, some b => some (.new (.lmul a b))
        | _, _ => none) else (cE n .v W (.BinOp a .Mult b pos)).map .val
    | e => (cE n .v W e).map .val
  | n + 1, .q, W, e => match e with
    | .Call (.Name f p) as [] pos => if W.gl f then (if f == ("range" : Str) then (match as with
          | [a] => (cE n .v W a).map .rng
          | [a, b] => (match cE n .v W a, cE n .v W b with
            | some a, some b => some (.rng2 a b)
            | _, _ => none)
          | _ => none)
        else if f == ("zip" : Str) then (match as with
          | [a, b] => (match cE n .v W a, cE n .v W b with
            | some a, some b => some (.zip a b)
            | _, _ => none)
          | _ => none)
        else if f == ("enumerate" : Str) then (match as with
          | [a] => (cE n .v W a).map .enu
          | _ => none)
        else if isL e then cE n .l W e else (cE n .v W e).map .val) else (cE n .v W e).map .val
    | .Call (.Attribute o m _) [] [] _ => if m == ("items" : Str) then (cE n .v W o).map .itm else (cE n .v W e).map .val
    | e => if isL e then cE n .l W e else (cE n .v W e).map .val
  | n + 1, .d, W, e => match e with
    | .Dict ks vs _ => (mapE (fun kv => match kv.1 with
        | some k => (match cE n .v W k, cE n .v W kv.2 with
          | some k, some v => some (.pair k v)
          | _, _ => none)
        | none => (cE n .d W kv.2).map .dstar) (ks.zip vs)).map fun l => .dsp (consE l)
    | .DictComp k v [⟨tg, it, ifs, 0⟩] scope _ => (match ownOf W.N scope with
      | some own => (match cE n .q W it, cE n .v ⟨W.N, relScope scope W.sc, none⟩ k, cE n .v ⟨W.N, relScope scope W.sc, none⟩ v, cE n .t ⟨W.N, relScope scope W.sc, none⟩ tg, mapE (cE n .v ⟨W.N, relScope scope W.sc, none⟩) ifs with
        | some it, some k, some v, some tg, some ifs => some (.dc k v tg it (consE ifs) (own.map (·.2)))
        | _, _, _, _, _ => none)
      | none => none)
    | .Call (.Name f _) [a] [] _ => if W.gl f && f == ("dict" : Str) then (cE n .q W a).map .dq else (cE n .v W e).map .dval
    | e => if isL e then (cE n .q W e).map .dq else (cE n .v W e).map .dval
  | n + 1, .t, W, e => match e with
    | .Name x _ => (match W.sc.names.lookup x with
      | some .local => (ixS x W.N).map .var
      | some .cell => (ixS x W.N).map .var
      | _ => none)
    | .Tuple es _ _ => (mapE (cE n .t W) es).map fun l => .tup (consE l)
    | .Attribute a f _ => match cE n .v W a, atS f S.attrs with
      | some a, some f => some (.fld a f)
      | _, _ => none
    | .Subscript a b _ => if isSlice b then none else match cE n .v W a, cE n .v W b with
      | some a, some b => some (.ix a b)
      | _, _ => none
    | _ => none
where
  /-- an argument, an item of a display: perhaps starred -/
  cA : Nat → Wh → PySem.Expr → Option E
    | 0, _, _ => none
    | n + 1, W, .Starred a _ => (cE n .v W a).map .star
    | n + 1, W, e => cE n .v W e
  cO : Nat → Wh → Option PySem.Expr → Option E
    | 0, _, _ => none
    | _ + 1, _, none => some (.con .non)
    | n + 1, W, some e => match cE n .v W e with
      | some (.con .non) => none
      | o => o
  cB : Nat → Wh → Bool → PySem.Expr → List PySem.Expr → Option E
    | 0, _, _, _, _ => none
    | n + 1, W, _, a, [] => cE n .v W a
    | n + 1, W, k, a, b :: r => match cE n .v W a, cB n W k b r with
      | some a, some b => some (if k then .and a b else .or a b)
      | _, _ => none
end
section
variable (S : Stx)
def foldedX : Nat → PySem.Expr → Bool
  | 0, _ => false
  | _ + 1, .Constant _ _ _ => true
  | n + 1, .Tuple es _ _ => es.all (foldedX n)
  | _, _ => false
/-- a tuple display into local names: stored without a tuple -/
def swapN (W : Wh) (ts vs : List PySem.Expr) : Option (List Nat) :=
  if !(ts.length == 2 || ts.length == 3) || vs.length != ts.length then none
  else if vs.any (fun | .Starred .. => true | _ => false) then none
  else match mapE (fun e => match e with
      | .Name x pos => if W.sc.names.lookup x == some .local && pos.line == (ts.head?.map (·.pos.line)).getD 0 then ixS x W.N else none
      | _ => none) ts with
    | some is => if is.eraseDups.length != is.length then none else if vs.all (foldedX 8) then none else some is
    | none => none
def litP : Pattern → Option PV
  | .MatchValue (.Constant (.str s) _ _) _ => some (.str (txt s))
  | _ => none
def cSs : Nat → Wh → List Stmt → Option NI.S
  | 0, _, _ => none
  | _ + 1, _, [] => some .skip
  | n + 1, W, [s] => cS n W s
  | n + 1, W, s :: r => match cS n W s, cSs n W r with
    | some a, some b => some (.seq a b)
    | _, _ => none
where
  cS : Nat → Wh → Stmt → Option NI.S
    | 0, _, _ => none
    | n + 1, W, s => match s with
      | .Pass _ => some .skip
      | .Break _ => some .brk
      | .Continue _ => some .cnt
      | .Return none _ => some (.ret (.con .non))
      | .Return (some e) _ => (cE S 60 .v W e).map .ret
      | .Expr (.Constant (.str _) _ _) _ => some .skip
      | .Expr e _ => (cE S 60 .v W e).map .expr
      | .Assign [.Tuple ts kt pt] (.Tuple vs kv pv) _ => (match swapN W ts vs with
        | some is => (mapE (cE S 60 .v W) vs).map fun l => .par is (consE l)
        | none => (match cE S 60 .t W (.Tuple ts kt pt), cE S 60 .v W (.Tuple vs kv pv) with
          | some t, some v => some (.asg t v)
          | _, _ => none))
      | .Assign [t] v _ => (match cE S 60 .t W t, cE S 60 .v W v with
        | some t, some v => some (.asg t v)
        | _, _ => none)
      | .AugAssign (.Name x _) o e _ => (match W.sc.names.lookup x, ixS x W.N, cBo o, cE S 60 .v W e with
        | some .local, some i, some o, some e => some (.aug i o e)
        | some .cell, some i, some o, some e => some (.aug i o e)
        | _, _, _, _ => none)
      | .AugAssign (.Attribute a f _) o e _ => (match cE S 60 .v W a, atS f S.attrs, cBo o, cE S 60 .v W e with
        | some a, some f, some o, some e => some (.augf a f o e)
        | _, _, _, _ => none)
      | .AugAssign (.Subscript a b _) o e _ => (match cE S 60 .v W a, cE S 60 .v W b, cBo o, cE S 60 .v W e with
        | some a, some b, some o, some e => some (.augx a b o e)
        | _, _, _, _ => none)
      | .If c a b _ => (match cE S 60 .v W c, cSs n W a, cSs n W b with
        | some c, some a, some b => some (.ite c a b)
        | _, _, _ => none)
      | .While c b [] _ => (match cE S 60 .v W c, cSs n W b with
        | some c, some b => some (.whl c b)
        | _, _ => none)
      | .For t i b [] _ => (match cE S 60 .t W t, cE S 60 .q W i, cSs n W b with
        | some t, some i, some b => some (.for_ t i b)
        | _, _, _ => none)
      | .Delete [.Subscript a b _] _ => (match cE S 60 .v W a, cE S 60 .v W b with
        | some a, some b => some (.del a b)
        | _, _ => none)
      | .Raise (some (.Call (.Name x _) as [] _)) none _ => if W.gl x then (match S.kl x, mapE (cE S 60 .v W) as with
        | some C, some as => some (.raise C (consE as))
        | _, _ => none) else none
      | .Try b hs [] [] _ => (match cSs n W b, cH n W hs with
        | some b, some hs => some (.try_ b hs)
        | _, _ => none)
      | .Match e cs _ => (match cE S 60 .v W e, cM n W cs with
        | some e, some cs => some (.mat e cs)
        | _, _ => none)
      | _ => none
  cH : Nat → Wh → List ExceptHandler → Option NI.S
    | 0, _, _ => none
    | _ + 1, _, [] => some .skip
    | n + 1, W, .ExceptHandler (some (.Name x _)) nm b _ :: r => (match S.kl x, cSs n { W with hn := nm } b, cH n W r with
      | some C, some b, some r => (match nm with
        | none => some (.cls C none b r)
        | some y => (ixS y W.N).map fun i => .cls C (some i) b r)
      | _, _, _ => none)
    | _, _, _ => none
  cM : Nat → Wh → List MatchCase → Option NI.S
    | 0, _, _ => none
    | _ + 1, _, [] => some .skip
    | n + 1, W, ⟨.MatchOr ps _, none, b⟩ :: r => (match mapE litP ps, cSs n W b, cM n W r with
      | some ps, some b, some r => some (.cas (some ps) b r)
      | _, _, _ => none)
    | n + 1, W, ⟨.MatchAs none none _, none, b⟩ :: r => (match cSs n W b, cM n W r with
      | some b, some r => some (.cas none b r)
      | _, _ => none)
    | n + 1, W, ⟨p, none, b⟩ :: r => (match litP p, cSs n W b, cM n W r with
      | some p, some b, some r => some (.cas (some [p]) b r)
      | _, _, _ => none)
    | _, _, _ => none
end
end NI
end

section
set_option Elab.async false
set_option autoImplicit false
set_option linter.all false
set_option maxRecDepth 100000
set_option maxHeartbeats 2000000
/-! The relation of the plain values and the plain heap to the hand layer's. -/
namespace NI
open PySem PySem.Spec PyProof.Rows L2
/-- where the text's things stand: the written part, the defs' and the classes' addresses, the names of attributes -/
structure Ln where
  P : Program
  w : World
  K : PySem.W.Frag
  ga : Nat → Option Addr
  ca : Nat → Option Addr
  an : Nat → Option Str
  xc : Nat → Bool
  an_inj : ∀ f g x, an f = some x → an g = some x → f = g
mutual
/-- a value stands for a plain value -/
inductive Rp (Λ : Ln) (ρ : List Addr) (H : Hp) : V → PV → Prop
  | non : Rp Λ ρ H .non .non
  | bl (b : Bool) : Rp Λ ρ H (.bl b) (.bl b)
  | int (i : Int) : Rp Λ ρ H (.int i) (.int i)
  | str (x : Str) (s : Txt) : x.cps.toList = s → PyData.strOk x = true → x.length ≤ sizeLine → Rp Λ ρ H (.str x) (.str s)
  | tup {a : Addr} {xs : List V} {ps : List PV} : SqT Λ.K H a xs → RpL Λ ρ H xs ps → Rp Λ ρ H (.ref a) (.tup ps)
  | obj {a : Addr} {n : Nat} : ρ[n]? = some a → Rp Λ ρ H (.ref a) (.obj n)
  | glo {a : Addr} {g : Nat} : Λ.ga g = some a → Rp Λ ρ H (.ref a) (.glo g)
inductive RpL (Λ : Ln) (ρ : List Addr) (H : Hp) : List V → List PV → Prop
  | nil : RpL Λ ρ H [] []
  | cons {v : V} {vs : List V} {p : PV} {ps : List PV} : Rp Λ ρ H v p → RpL Λ ρ H vs ps → RpL Λ ρ H (v :: vs) (p :: ps)
end
section
variable {Λ : Ln} {ρ ρ' : List Addr} {H H' : Hp}
mutual
theorem Rp.mono (ht : ∀ (a : Addr) (xs : List V), SqT Λ.K H a xs → SqT Λ.K H' a xs) (hr : ∀ (n : Nat) (a : Addr), ρ[n]? = some a → ρ'[n]? = some a) : ∀ (p : PV) (v : V), Rp Λ ρ H v p → Rp Λ ρ' H' v p
  | .non, _, h => by cases h; exact .non
  | .bl b, _, h => by cases h; exact .bl b
  | .int i, _, h => by cases h; exact .int i
  | .str s, _, h => by
    cases h with
    | str x _ h1 h2 h3 => exact .str x s h1 h2 h3
  | .tup ps, _, h => by
    cases h with
    | tup h1 h2 => exact .tup (ht _ _ h1) (RpL.mono ht hr ps _ h2)
  | .obj n, _, h => by
    cases h with
    | obj h1 => exact .obj (hr _ _ h1)
  | .glo g, _, h => by
    cases h with
    | glo h1 => exact .glo h1
theorem RpL.mono (ht : ∀ (a : Addr) (xs : List V), SqT Λ.K H a xs → SqT Λ.K H' a xs) (hr : ∀ (n : Nat) (a : Addr), ρ[n]? = some a → ρ'[n]? = some a) : ∀ (ps : List PV) (vs : List V), RpL Λ ρ H vs ps → RpL Λ ρ' H' vs ps
  | [], _, h => by cases h; exact .nil
  | p :: ps, _, h => by
    cases h with
    | cons h1 h2 => exact .cons (Rp.mono ht hr p _ h1) (RpL.mono ht hr ps _ h2)
end
theorem RpL.length : ∀ {vs : List V} {ps : List PV}, RpL Λ ρ H vs ps → vs.length = ps.length
  | _, _, .nil => rfl
  | _, _, .cons _ h => by rw [List.length_cons, List.length_cons, RpL.length h]
theorem RpL.append : ∀ {vs ws : List V} {ps qs : List PV}, RpL Λ ρ H vs ps → RpL Λ ρ H ws qs → RpL Λ ρ H (vs ++ ws) (ps ++ qs)
  | _, _, _, _, .nil, h => h
  | _, _, _, _, .cons h1 h2, h => .cons h1 (RpL.append h2 h)
theorem RpL.get : ∀ {vs : List V} {ps : List PV} {i : Nat} {p : PV}, RpL Λ ρ H vs ps → ps[i]? = some p → ∃ v, vs[i]? = some v ∧ Rp Λ ρ H v p
  | _, _, _, _, .nil, e => by simp at e
  | _, _, 0, _, .cons h1 _, e => by simp at e; subst e; exact ⟨_, rfl, h1⟩
  | _, _, i + 1, p, .cons _ h2, e => by
    obtain ⟨v, a, b⟩ := RpL.get (i := i) (p := p) h2 (by simpa using e)
    exact ⟨v, by simpa using a, b⟩
theorem RpL.getV : ∀ {vs : List V} {ps : List PV} {i : Nat} {v : V}, RpL Λ ρ H vs ps → vs[i]? = some v → ∃ p, ps[i]? = some p ∧ Rp Λ ρ H v p
  | _, _, _, _, .nil, e => by simp at e
  | _, _, 0, _, .cons h1 _, e => by simp at e; subst e; exact ⟨_, rfl, h1⟩
  | _, _, i + 1, v, .cons _ h2, e => by
    obtain ⟨p, a, b⟩ := RpL.getV (i := i) (v := v) h2 (by simpa using e)
    exact ⟨p, by simpa using a, b⟩
theorem RpL.set {v : V} {p : PV} (r : Rp Λ ρ H v p) : ∀ {vs : List V} {ps : List PV} (i : Nat), RpL Λ ρ H vs ps → RpL Λ ρ H (vs.set i v) (ps.set i p)
  | _, _, _, .nil => .nil
  | _, _, 0, .cons _ h => .cons r h
  | _, _, i + 1, .cons h1 h => .cons h1 (RpL.set r i h)
theorem RpL.take : ∀ {vs : List V} {ps : List PV} (n : Nat), RpL Λ ρ H vs ps → RpL Λ ρ H (vs.take n) (ps.take n)
  | _, _, 0, _ => .nil
  | _, _, _ + 1, .nil => .nil
  | _, _, n + 1, .cons h1 h => .cons h1 (RpL.take n h)
theorem RpL.drop : ∀ {vs : List V} {ps : List PV} (n : Nat), RpL Λ ρ H vs ps → RpL Λ ρ H (vs.drop n) (ps.drop n)
  | _, _, 0, h => h
  | _, _, _ + 1, .nil => .nil
  | _, _, n + 1, .cons _ h => RpL.drop n h
theorem RpL.eraseIdx : ∀ {vs : List V} {ps : List PV} (n : Nat), RpL Λ ρ H vs ps → RpL Λ ρ H (vs.eraseIdx n) (ps.eraseIdx n)
  | _, _, _, .nil => .nil
  | _, _, 0, .cons _ h => h
  | _, _, n + 1, .cons h1 h => .cons h1 (RpL.eraseIdx n h)
theorem RpL.reverse : ∀ {vs : List V} {ps : List PV}, RpL Λ ρ H vs ps → RpL Λ ρ H vs.reverse ps.reverse
  | _, _, .nil => .nil
  | _, _, .cons h1 h => by rw [List.reverse_cons, List.reverse_cons]; exact (RpL.reverse h).append (.cons h1 .nil)
theorem RpL.dropLast {vs : List V} {ps : List PV} (h : RpL Λ ρ H vs ps) : RpL Λ ρ H vs.dropLast ps.dropLast := by
  rw [List.dropLast_eq_take, List.dropLast_eq_take, h.length]; exact h.take _

/-! ### a step: the tracked objects that the plain heap does not hold stay; what comes into it was not tracked -/
structure Stp (ρ : List Addr) (H : Hp) (ρ' : List Addr) (H' : Hp) : Prop where
  pre : ρ <+: ρ'
  stay : ∀ a o, a ∉ ρ → H a = some o → H' a = some o
  new : ∀ a, a ∈ ρ' → a ∉ ρ → H a = none
  fz : ∀ a o u, H a = some (.frz o u) → H' a = some (.frz o u)
theorem Stp.refl : Stp ρ H ρ H := ⟨List.prefix_rfl, fun _ _ _ h => h, fun _ h1 h2 => absurd h1 h2, fun _ _ _ h => h⟩
theorem Stp.trans {ρ'' : List Addr} {H'' : Hp} (s : Stp ρ H ρ' H') (t : Stp ρ' H' ρ'' H'') : Stp ρ H ρ'' H'' where
  pre := s.pre.trans t.pre
  stay := fun a o h1 h2 => t.stay a o (fun z => by
    have := s.new a z h1
    rw [h2] at this; cases this) (s.stay a o h1 h2)
  new := fun a h1 h2 => by
    by_cases z : a ∈ ρ'
    · exact s.new a z h2
    · have := t.new a h1 z
      cases e : H a with
      | none => rfl
      | some o => rw [s.stay a o h2 e] at this; cases this
  fz := fun a o u h => t.fz a o u (s.fz a o u h)
theorem Stp.at_ (s : Stp ρ H ρ' H') {n : Nat} {a : Addr} (h : ρ[n]? = some a) : ρ'[n]? = some a := by
  obtain ⟨t, rfl⟩ := s.pre
  rw [List.getElem?_append_left (List.getElem?_eq_some_iff.mp h).1]; exact h
/-- no tuple stands among the plain heap's objects -/
def NoTup (ρ : List Addr) (H : Hp) : Prop := ∀ a ∈ ρ, ∀ xs, ¬ Rd H a (.tup xs)
theorem Stp.tup (s : Stp ρ H ρ' H') (nt : NoTup ρ H) {a : Addr} {xs : List V} (h : SqT Λ.K H a xs) : SqT Λ.K H' a xs := by
  rcases h with h | h
  · have na : a ∉ ρ := fun z => nt a z xs h
    rcases h with h | ⟨o, h⟩
    · exact .inl (.inl (s.stay a _ na h))
    · exact .inl (.inr ⟨o, s.stay a _ na h⟩)
  · exact .inr h
theorem Stp.rp (s : Stp ρ H ρ' H') (nt : NoTup ρ H) {v : V} {p : PV} (h : Rp Λ ρ H v p) : Rp Λ ρ' H' v p := Rp.mono (fun _ _ => s.tup nt) (fun _ _ => s.at_) p v h
theorem Stp.rpL (s : Stp ρ H ρ' H') (nt : NoTup ρ H) {v : List V} {p : List PV} (h : RpL Λ ρ H v p) : RpL Λ ρ' H' v p := RpL.mono (fun _ _ => s.tup nt) (fun _ _ => s.at_) p v h

/-! ### the objects -/
/-- an instance's attributes -/
def FR (Λ : Ln) (ρ : List Addr) (H : Hp) (fsV : List (Str × V)) (fs : List (Nat × PV)) : Prop :=
  fsV.length ≤ fs.length ∧ (∀ x v, fsV.lookup x = some v → ∃ f, Λ.an f = some x) ∧ ∀ f x, Λ.an f = some x → match fget fs f with
    | some p => ∃ v, fsV.lookup x = some v ∧ Rp Λ ρ H v p
    | none => fsV.lookup x = none
/-- a dict's entries: keys that are integers, texts -/
inductive KvS (Λ : Ln) (ρ : List Addr) (H : Hp) : List (Key × V) → List (PV × PV) → Prop
  | nil : KvS Λ ρ H [] []
  | int {i : Int} {v : V} {p : PV} {r : List (Key × V)} {q : List (PV × PV)} : Rp Λ ρ H v p → KvS Λ ρ H r q → KvS Λ ρ H ((.inl i, v) :: r) ((.int i, p) :: q)
  | str {x : Str} {s : Txt} {v : V} {p : PV} {r : List (Key × V)} {q : List (PV × PV)} : x.cps.toList = s → PyData.strOk x = true → x.length ≤ sizeLine → Rp Λ ρ H v p → KvS Λ ρ H r q → KvS Λ ρ H ((.inr x, v) :: r) ((.str s, p) :: q)
/-- a dict whose keys are tuples, by its own object: the keys, where they stand, the values -/
def TD (P : Program) (w : World) (a : Addr) (es : List (NestedKey × Addr × V)) (h : Heap) : Prop :=
  (a == sysModules) = false ∧ es.length ≤ sizeLine ∧ ∃ xs : List (NestedKey × Addr × Value), Paired (fun (p : NestedKey × Addr × V) (q : NestedKey × Addr × Value) => p.1 = q.1 ∧ p.2.1 = q.2.1 ∧ RelV p.2.2 q.2.2) es xs ∧
    ∃ o hs ep, h.get? a = some o ∧ o.ExactDict ∧ o.data = .dict hs ep ∧ hs.toList = xs.map (entryOfKey (nestedKind P w)) ∧ (xs.map (·.1)).Nodup
mutual
def nkey : PV → NestedKey
  | .non => .none
  | .int i => .num i
  | .str s => .text ⟨s.toArray⟩
  | .tup xs => .tup (nkeys xs)
  | _ => .none
def nkeys : List PV → List NestedKey
  | [] => []
  | x :: xs => nkey x :: nkeys xs
end
/-- .. its entries -/
inductive KvT (Λ : Ln) (ρ : List Addr) (H : Hp) : List (NestedKey × Addr × V) → List (PV × PV) → Prop
  | nil : KvT Λ ρ H [] []
  | cons {xs : List PV} {b : Addr} {v : V} {p : PV} {r : List (NestedKey × Addr × V)} {q : List (PV × PV)} : keyT 8 (.tup xs) = true → Rp Λ ρ H (.ref b) (.tup xs) → Rp Λ ρ H v p → KvT Λ ρ H r q → KvT Λ ρ H ((nkey (.tup xs), b, v) :: r) ((.tup xs, p) :: q)
/-- a dict -/
def DObj (Λ : Ln) (ρ : List Addr) (H : Hp) (a : Addr) (kvs : List (PV × PV)) (u : HO) : Prop :=
  (∃ es, u = .dK es ∧ KvS Λ ρ H es kvs) ∨ ∃ es, u = .ext (TD Λ.P Λ.w a es) ∧ KvT Λ ρ H es kvs ∧ kvs ≠ []
/-- an instance's class: plain, without the names of the attributes -/
def InsF (Λ : Ln) (cA : Addr) (fs : List (Nat × PV)) : Prop := Cls Λ.K cA ∧ ∀ f x, Λ.an f = some x → fget fs f ≠ none → NoAttr Λ.K cA x
def ObR (Λ : Ln) (ρ : List Addr) (H : Hp) (a : Addr) : AO → Prop
  | .lst ps => ∃ xs, H a = some (.lst xs) ∧ RpL Λ ρ H xs ps
  | .frz ps => ∃ xs o, H a = some (.frz o (.lst xs)) ∧ RpL Λ ρ H xs ps
  | .dct kvs => ∃ u, H a = some u ∧ DObj Λ ρ H a kvs u
  | .frd kvs => ∃ o u, H a = some (.frz o u) ∧ DObj Λ ρ H a kvs u
  | .ins C fs => ∃ cA dx fsV, Λ.ca C = some cA ∧ H a = some (.ins cA dx fsV) ∧ FR Λ ρ H fsV fs ∧ InsF Λ cA fs
  | .exc C fs => Λ.xc C = true ∧ ∃ cA, Λ.ca C = some cA ∧ ExcC Λ.K cA ∧ (∀ f x, Λ.an f = some x → fget fs f ≠ none → PySem.W.findIn Λ.K (.ref cA) x = some none) ∧ ((H a = some (ExO (.ref cA) a) ∧ fs = []) ∨ ∃ dd fsV, dd ∉ ρ ∧ H a = some (exo a cA (some dd)) ∧ H dd = some (exd dd fsV) ∧ FR Λ ρ H fsV fs)
structure RelH (Λ : Ln) (ρ : List Addr) (H : Hp) (ah : AH) : Prop where
  len : ρ.length = ah.length
  nd : ρ.Nodup
  nt : NoTup ρ H
  tr : ∀ a ∈ ρ, H a ≠ none
  ob : ∀ (n : Nat) (a : Addr) (o : AO), ρ[n]? = some a → ah[n]? = some o → ObR Λ ρ H a o
/-- the slots -/
structure RelS (Λ : Ln) (ρ : List Addr) (σV : L2.St) (H : Hp) (σ : Sg) : Prop where
  len : σV.length = σ.length
  at_ : ∀ (i : Nat) (p : PV), σ[i]? = some (some p) → ∃ v, σV[i]? = some (some v) ∧ Rp Λ ρ H v p
theorem RelS.mono {σV : L2.St} {σ : Sg} (r : RelS Λ ρ σV H σ) (s : Stp ρ H ρ' H') (nt : NoTup ρ H) : RelS Λ ρ' σV H' σ :=
  ⟨r.len, fun i p e => let ⟨v, a, b⟩ := r.at_ i p e; ⟨v, a, s.rp nt b⟩⟩
theorem RelS.set {σV : L2.St} {σ : Sg} (r : RelS Λ ρ σV H σ) {v : V} {p : PV} (h : Rp Λ ρ H v p) (i : Nat) : RelS Λ ρ (σV.set i (some v)) H (σ.set i (some p)) := by
  refine ⟨by rw [List.length_set, List.length_set, r.len], fun j q e => ?_⟩
  by_cases z : i = j
  · subst z
    by_cases hl : i < σ.length
    · rw [List.getElem?_set_self hl] at e
      cases e
      exact ⟨v, List.getElem?_set_self (by rw [r.len]; exact hl), h⟩
    · rw [List.getElem?_eq_none (by simpa using hl)] at e; cases e
  · rw [List.getElem?_set_ne z] at e ⊢
    exact r.at_ j q e
theorem RelS.unset {σV : L2.St} {σ : Sg} (r : RelS Λ ρ σV H σ) (i : Nat) : RelS Λ ρ (σV.set i none) H (σ.set i none) := by
  refine ⟨by rw [List.length_set, List.length_set, r.len], fun j q e => ?_⟩
  by_cases z : i = j
  · subst z
    by_cases hl : i < σ.length
    · rw [List.getElem?_set_self hl] at e; cases e
    · rw [List.getElem?_eq_none (by simpa using hl)] at e; cases e
  · rw [List.getElem?_set_ne z] at e ⊢
    exact r.at_ j q e
theorem RelS.wipe {σV : L2.St} {σ : Sg} (r : RelS Λ ρ σV H σ) : ∀ vs : List Nat, RelS Λ ρ (L2.wipe σV vs) H (NI.wipe σ vs)
  | [] => r
  | v :: vs => (RelS.wipe r vs).unset v
theorem RelS.sget {σV : L2.St} {σ : Sg} (r : RelS Λ ρ σV H σ) {i : Nat} {p : PV} (e : sget σ i = some p) : ∃ v, σV[i]? = some (some v) ∧ Rp Λ ρ H v p := by
  refine r.at_ i p ?_
  unfold NI.sget at e
  cases h : σ[i]? with
  | none => rw [h] at e; cases e
  | some o => rw [h] at e; exact congrArg some e

/-! ### what is wanted behind an expression -/
/-- an exception's own dict -/
def XR (Λ : Ln) (ρ : List Addr) (H : Hp) (d : Option Addr) (fs : List (Nat × PV)) : Prop := match d with
  | none => fs = []
  | some dd => dd ∉ ρ ∧ ∃ fsV, H dd = some (.xd fsV) ∧ FR Λ ρ H fsV fs
def Post {α β : Type} (Λ : Ln) (E : XK) (RR : List Addr → Hp → β → α → Prop) (ρ : List Addr) (H : Hp) (r : R α) (Q : β → Hp → Prop) : Prop := match r with
  | .ok a ah => ∀ ρ' H' b, Stp ρ H ρ' H' → RelH Λ ρ' H' ah → RR ρ' H' b a → Q b H'
  | .ex c fs ah => ∀ ρ' H' d cA, Stp ρ H ρ' H' → RelH Λ ρ' H' ah → XR Λ ρ' H' d fs → Λ.ca c = some cA → E (.ref cA) d H'
  | .no => False
theorem Post.step {α β : Type} {E : XK} {RR : List Addr → Hp → β → α → Prop} {r : R α} {Q : β → Hp → Prop} (h : Post Λ E RR ρ H r Q) (s : Stp ρ H ρ' H') : Post Λ E RR ρ' H' r Q := by
  cases r with
  | ok a ah => exact fun ρ2 H2 b s2 r2 rr => h ρ2 H2 b (s.trans s2) r2 rr
  | ex c fs ah => exact fun ρ2 H2 d cA s2 r2 x e => h ρ2 H2 d cA (s.trans s2) r2 x e
  | no => exact h.elim
theorem Post.imp {α β : Type} {E : XK} {RR : List Addr → Hp → β → α → Prop} {r : R α} {Q Q' : β → Hp → Prop} (h : Post Λ E RR ρ H r Q) (hq : ∀ b H', Q b H' → Q' b H') : Post Λ E RR ρ H r Q' := by
  cases r with
  | ok a ah => exact fun ρ2 H2 b s2 r2 rr => hq _ _ (h ρ2 H2 b s2 r2 rr)
  | ex c fs ah => exact h
  | no => exact h
theorem Post.bind {α β γ δ : Type} {E : XK} {R1 : List Addr → Hp → β → α → Prop} {R2 : List Addr → Hp → δ → γ → Prop} {x : R α} {f : α → AH → R γ} {Q : δ → Hp → Prop} (h : Post Λ E R2 ρ H (x.bind f) Q) :
    Post Λ E R1 ρ H x fun b H1 => ∃ ρ1 a ah1, Stp ρ H ρ1 H1 ∧ RelH Λ ρ1 H1 ah1 ∧ R1 ρ1 H1 b a ∧ x = .ok a ah1 ∧ Post Λ E R2 ρ1 H1 (f a ah1) Q := by
  cases x with
  | ok a ah => exact fun ρ1 H1 b s r rr => ⟨ρ1, a, ah, s, r, rr, rfl, Post.step h s⟩
  | ex c fs ah => exact h
  | no => exact h
theorem Post.ok {α β : Type} {E : XK} {RR : List Addr → Hp → β → α → Prop} {a : α} {ah : AH} {b : β} {Q : β → Hp → Prop} (h : Post Λ E RR ρ H (.ok a ah) Q) (s : Stp ρ H ρ' H') (r : RelH Λ ρ' H' ah) (rr : RR ρ' H' b a) : Q b H' := h ρ' H' b s r rr
theorem Post.ofO {α β : Type} {E : XK} {RR : List Addr → Hp → β → α → Prop} {o : Option α} {ah : AH} {Q : β → Hp → Prop} (h : Post Λ E RR ρ H (R.ofO ah o) Q) : ∃ a, o = some a ∧ Post Λ E RR ρ H (.ok a ah) Q := by
  cases o with
  | none => exact h.elim
  | some a => exact ⟨a, rfl, h⟩
/-- an expression's reading -/
def tV (Λ : Ln) (W : WX) (D : Sg → AH → R PV) : TE := fun σV H Q => ∃ ρ σ ah, RelH Λ ρ H ah ∧ RelS Λ ρ σV H σ ∧ Post Λ (fun c d H' => W c d σV H') (Rp Λ) ρ H (D σ ah) Q
def tVs (Λ : Ln) (W : WX) (D : Sg → AH → R (List PV)) : TA := fun σV H Q => ∃ ρ σ ah, RelH Λ ρ H ah ∧ RelS Λ ρ σV H σ ∧ Post Λ (fun c d H' => W c d σV H') (RpL Λ) ρ H (D σ ah) Q
theorem _root_.L2.PE.mono {X : Cx} {e : PySem.Expr} {t t' : TE} (h : PE X e t) (m : ∀ σ H Q, t' σ H Q → t σ H Q) : PE X e t' := ⟨fun pins s σ H Q I q => h.run pins s σ H Q I (m σ H Q q)⟩
theorem _root_.L2.PT.mono {X : Cx} {e : PySem.Expr} {t t' : TT} (h : PT X e t) (m : ∀ σ H Q, t' σ H Q → t σ H Q) : PT X e t' := ⟨fun pins s σ H Q I q => h.run pins s σ H Q I (m σ H Q q)⟩
theorem _root_.L2.PA.mono {X : Cx} {e : List PySem.Expr} {t t' : TA} (h : PA X e t) (m : ∀ σ H Q, t' σ H Q → t σ H Q) : PA X e t' := ⟨fun pos pins s σ H Q I q => h.run pos pins s σ H Q I (m σ H Q q)⟩
theorem _root_.L2.PS.mono {X : Cx} {e : Stmt} {t t' : TS} (h : PS X e t) (m : ∀ D σ H, t' D σ H → t D σ H) : PS X e t' := ⟨fun pins s σ H D I q => h.run pins s σ H D I (m D σ H q)⟩
theorem _root_.L2.PSs.mono {X : Cx} {e : List Stmt} {t t' : TS} (h : PSs X e t) (m : ∀ D σ H, t' D σ H → t D σ H) : PSs X e t' := ⟨fun pins s σ H D I q => h.run pins s σ H D I (m D σ H q)⟩
end
end NI
end

section
set_option Elab.async false
set_option autoImplicit false
set_option linter.all false
set_option maxRecDepth 100000
set_option maxHeartbeats 2000000
namespace NI
open PySem PySem.Spec PyProof.Rows L2
section
variable {Λ : Ln} {ρ ρ' : List Addr} {H H' : Hp} {ah : AH} {a b p : Addr} {ao : AO}
theorem Rd.congr {u : HO} (e : H' b = H b) : Rd H' b u ↔ Rd H b u := by unfold Rd; rw [e]
theorem SqL.congr {K : PySem.W.Frag} {xs : List V} (e : H' b = H b) (h : SqL K H b xs) : SqL K H' b xs := by
  rcases h with h | h
  · exact .inl ((Rd.congr e).mpr h)
  · exact .inr h
theorem SqT.congr {K : PySem.W.Frag} {xs : List V} (e : H' b = H b) (h : SqT K H b xs) : SqT K H' b xs := by
  rcases h with h | h
  · exact .inl ((Rd.congr e).mpr h)
  · exact .inr h
theorem FR.mono {fsV : List (Str × V)} {fs : List (Nat × PV)} (ht : ∀ (a : Addr) (xs : List V), SqT Λ.K H a xs → SqT Λ.K H' a xs) (hr : ∀ (n : Nat) (a : Addr), ρ[n]? = some a → ρ'[n]? = some a) (h : FR Λ ρ H fsV fs) : FR Λ ρ' H' fsV fs := by
  refine ⟨h.1, h.2.1, fun f x e => ?_⟩
  have q := h.2.2 f x e
  cases g : fget fs f with
  | none => rw [g] at q; exact q
  | some w =>
    rw [g] at q
    obtain ⟨v, e1, r⟩ := q
    exact ⟨v, e1, Rp.mono ht hr _ _ r⟩
theorem KvS.mono (ht : ∀ (a : Addr) (xs : List V), SqT Λ.K H a xs → SqT Λ.K H' a xs) (hr : ∀ (n : Nat) (a : Addr), ρ[n]? = some a → ρ'[n]? = some a) : ∀ {es : List (Key × V)} {kvs : List (PV × PV)}, KvS Λ ρ H es kvs → KvS Λ ρ' H' es kvs
  | _, _, .nil => .nil
  | _, _, .int r t => .int (Rp.mono ht hr _ _ r) (KvS.mono ht hr t)
  | _, _, .str e k l r t => .str e k l (Rp.mono ht hr _ _ r) (KvS.mono ht hr t)
theorem KvT.mono (ht : ∀ (a : Addr) (xs : List V), SqT Λ.K H a xs → SqT Λ.K H' a xs) (hr : ∀ (n : Nat) (a : Addr), ρ[n]? = some a → ρ'[n]? = some a) : ∀ {es : List (NestedKey × Addr × V)} {kvs : List (PV × PV)}, KvT Λ ρ H es kvs → KvT Λ ρ' H' es kvs
  | _, _, .nil => .nil
  | _, _, .cons k e r t => .cons k (Rp.mono ht hr _ _ e) (Rp.mono ht hr _ _ r) (KvT.mono ht hr t)
theorem DObj.mono {kvs : List (PV × PV)} {u : HO} (ht : ∀ (a : Addr) (xs : List V), SqT Λ.K H a xs → SqT Λ.K H' a xs) (hr : ∀ (n : Nat) (a : Addr), ρ[n]? = some a → ρ'[n]? = some a) (h : DObj Λ ρ H b kvs u) : DObj Λ ρ' H' b kvs u := by
  rcases h with ⟨es, e, q⟩ | ⟨es, e, q, n⟩
  · exact .inl ⟨es, e, q.mono ht hr⟩
  · exact .inr ⟨es, e, q.mono ht hr, n⟩
theorem ObR.stay (h : ObR Λ ρ H b ao) (e : H' b = H b) (ht : ∀ (a : Addr) (xs : List V), SqT Λ.K H a xs → SqT Λ.K H' a xs) (hr : ∀ (n : Nat) (a : Addr), ρ[n]? = some a → ρ'[n]? = some a) (hx : ∀ d fs, d ∉ ρ → H d = some (exd d fs) → d ∉ ρ' ∧ H' d = some (exd d fs)) : ObR Λ ρ' H' b ao := by
  cases ao with
  | lst ps =>
    obtain ⟨xs, h1, h2⟩ := h
    exact ⟨xs, e.trans h1, RpL.mono ht hr _ _ h2⟩
  | frz ps =>
    obtain ⟨xs, o, h1, h2⟩ := h
    exact ⟨xs, o, e.trans h1, RpL.mono ht hr _ _ h2⟩
  | dct kvs =>
    obtain ⟨u, h1, h2⟩ := h
    exact ⟨u, e.trans h1, h2.mono ht hr⟩
  | frd kvs =>
    obtain ⟨o, u, h1, h2⟩ := h
    exact ⟨o, u, e.trans h1, h2.mono ht hr⟩
  | ins C fs =>
    obtain ⟨cA, dx, fsV, h1, h2, h3, h4⟩ := h
    exact ⟨cA, dx, fsV, h1, e.trans h2, h3.mono ht hr, h4⟩
  | exc C fs =>
    obtain ⟨h0, cA, h1, g1, g2, h2⟩ := h
    refine ⟨h0, cA, h1, g1, g2, ?_⟩
    rcases h2 with ⟨h2, h3⟩ | ⟨dd, fsV, h2, h3, h4, h5⟩
    · exact .inl ⟨e.trans h2, h3⟩
    · obtain ⟨k1, k2⟩ := hx dd fsV h2 h4
      exact .inr ⟨dd, fsV, k1, e.trans h3, k2, h5.mono ht hr⟩
theorem RelH.notin (r : RelH Λ ρ H ah) (h : H p = none) : p ∉ ρ := fun z => r.tr p z h
theorem sqT_new {K : PySem.W.Frag} {o : HO} (h : H p = none) {b : Addr} {xs : List V} (q : SqT K H b xs) : SqT K (upd H p o) b xs := by
  rcases q with q | q
  · have nb : b ≠ p := fun z => by
      subst z
      rcases q with q | ⟨_, q⟩ <;> rw [h] at q <;> cases q
    exact .inl ((Rd.congr (upd_ne nb)).mpr q)
  · exact .inr q
theorem sqT_old {K : PySem.W.Frag} {o : HO} (nt : ∀ xs, ¬ Rd H p (.tup xs)) {b : Addr} {xs : List V} (q : SqT K H b xs) : SqT K (upd H p o) b xs := by
  rcases q with q | q
  · have nb : b ≠ p := fun z => by subst z; exact nt xs q
    exact .inl ((Rd.congr (upd_ne nb)).mpr q)
  · exact .inr q
/-- the heap turns outside of what the plain heap holds -/
theorem RelH.keep (r : RelH Λ ρ H ah) (e : ∀ b ∈ ρ, H' b = H b) (ht : ∀ (a : Addr) (xs : List V), SqT Λ.K H a xs → SqT Λ.K H' a xs) (hx : ∀ d fs, d ∉ ρ → H d = some (exd d fs) → H' d = some (exd d fs)) : RelH Λ ρ H' ah :=
  ⟨r.len, r.nd, fun a ha xs q => r.nt a ha xs ((Rd.congr (e a ha)).mp q), fun a ha => by rw [e a ha]; exact r.tr a ha, fun n a o h1 h2 => (r.ob n a o h1 h2).stay (e a (List.mem_of_getElem? h1)) ht (fun _ _ z => z) fun d fs n1 n2 => ⟨n1, hx d fs n1 n2⟩⟩
/-- a new object that the plain heap does not hold -/
theorem RelH.fresh (r : RelH Λ ρ H ah) (h : H p = none) (o : HO) : RelH Λ ρ (upd H p o) ah :=
  r.keep (fun b hb => upd_ne fun z => r.notin h (z ▸ hb)) (fun _ _ q => sqT_new h q) fun d fs _ n2 => by rw [upd_ne (ne_of_none n2 h)]; exact n2
theorem Stp.fresh (h : H p = none) (o : HO) : Stp ρ H ρ (upd H p o) :=
  ⟨List.prefix_rfl, fun a u _ e => by rw [upd_ne (ne_of_none e h)]; exact e, fun _ h1 h2 => absurd h1 h2, fun a o u e => by rw [upd_ne (ne_of_none e h)]; exact e⟩
/-- the plain heap takes an object in -/
theorem RelH.grow (r : RelH Λ ρ H ah) (na : a ∉ ρ) (e : ∀ b ∈ ρ, H' b = H b) (ht : ∀ (a : Addr) (xs : List V), SqT Λ.K H a xs → SqT Λ.K H' a xs) (hx : ∀ d fs, d ∉ ρ → H d = some (exd d fs) → d ≠ a ∧ H' d = some (exd d fs)) (nt : ∀ xs, ¬ Rd H' a (.tup xs)) (tr : H' a ≠ none) (ob : ObR Λ (ρ ++ [a]) H' a ao) :
    RelH Λ (ρ ++ [a]) H' (ah ++ [ao]) := by
  refine ⟨by simp [r.len], ?_, fun b hb xs q => ?_, fun b hb => ?_, fun n b o h1 h2 => ?_⟩
  · rw [List.nodup_append]
    exact ⟨r.nd, by simp, fun x hxm y hy => by simp at hy; subst hy; exact fun z => na (z ▸ hxm)⟩
  · rcases List.mem_append.mp hb with hb | hb
    · exact r.nt b hb xs ((Rd.congr (e b hb)).mp q)
    · simp at hb; subst hb; exact nt xs q
  · rcases List.mem_append.mp hb with hb | hb
    · rw [e b hb]; exact r.tr b hb
    · simp at hb; subst hb; exact tr
  · by_cases hn : n < ρ.length
    · rw [List.getElem?_append_left hn] at h1
      rw [List.getElem?_append_left (by rw [← r.len]; exact hn)] at h2
      exact (r.ob n b o h1 h2).stay (e b (List.mem_of_getElem? h1)) ht (fun m c z => by rw [List.getElem?_append_left (List.getElem?_eq_some_iff.mp z).1]; exact z) fun d fs n1 n2 => ⟨fun z => by
        rcases List.mem_append.mp z with z | z
        · exact n1 z
        · exact (hx d fs n1 n2).1 (List.mem_singleton.mp z), (hx d fs n1 n2).2⟩
    · have hn2 : n = ρ.length := by
        have := (List.getElem?_eq_some_iff.mp h1).1
        simp at this; omega
      subst hn2
      rw [List.getElem?_append_right (Nat.le_refl _)] at h1
      rw [r.len, List.getElem?_append_right (Nat.le_refl _)] at h2
      simp at h1 h2
      subst h1 h2
      exact ob
theorem app_last {α : Type} (l : List α) (x : α) : (l ++ [x])[l.length]? = some x := by simp
theorem Stp.grow (h0 : H a = none) {o : HO} : Stp ρ H (ρ ++ [a]) (upd H a o) :=
  ⟨List.prefix_append _ _, fun b u _ e => by rw [upd_ne (ne_of_none e h0)]; exact e, fun b h1 h2 => by
    rcases List.mem_append.mp h1 with h1 | h1
    · exact absurd h1 h2
    · simp at h1; subst h1; exact h0, fun b o u e => by rw [upd_ne (ne_of_none e h0)]; exact e⟩
/-- a new list, dict: tracked and taken in -/
theorem RelH.new (r : RelH Λ ρ H ah) (h : H p = none) {o : HO} (nt : ∀ xs, ¬ Rd (upd H p o) p (.tup xs)) (ob : ObR Λ (ρ ++ [p]) (upd H p o) p ao) : RelH Λ (ρ ++ [p]) (upd H p o) (ah ++ [ao]) :=
  r.grow (r.notin h) (fun b hb => upd_ne fun z => r.notin h (z ▸ hb)) (fun _ _ q => sqT_new h q) (fun d fs _ n2 => ⟨ne_of_none n2 h, by rw [upd_ne (ne_of_none n2 h)]; exact n2⟩) nt (by rw [upd_same]; exact fun z => nomatch z) ob
/-- an object that is tracked is taken in -/
theorem RelH.adopt (r : RelH Λ ρ H ah) (na : a ∉ ρ) (hne : ∀ fs, H a ≠ some (exd a fs)) (nt : ∀ xs, ¬ Rd H a (.tup xs)) (tr : H a ≠ none) (ob : ObR Λ (ρ ++ [a]) H a ao) : RelH Λ (ρ ++ [a]) H (ah ++ [ao]) :=
  r.grow na (fun _ _ => rfl) (fun _ _ q => q) (fun d fs _ n2 => ⟨fun z => hne fs (z ▸ n2), n2⟩) nt tr ob
/-- an object of the plain heap is written -/
theorem RelH.write (r : RelH Λ ρ H ah) {n : Nat} (hn : ρ[n]? = some a) {o : HO} (nt : ∀ xs, ¬ Rd (upd H a o) a (.tup xs)) (ob : ObR Λ ρ (upd H a o) a ao) : RelH Λ ρ (upd H a o) (ah.set n ao) := by
  have ha : a ∈ ρ := List.mem_of_getElem? hn
  refine ⟨by simp [r.len], r.nd, fun b hb xs q => ?_, fun b hb => ?_, fun m b o' h1 h2 => ?_⟩
  · by_cases z : b = a
    · subst z; exact nt xs q
    · exact r.nt b hb xs ((Rd.congr (upd_ne z)).mp q)
  · by_cases z : b = a
    · subst z; rw [upd_same]; exact fun z => nomatch z
    · rw [upd_ne z]; exact r.tr b hb
  · by_cases z : m = n
    · subst z
      rw [hn] at h1; cases h1
      have hl : m < ah.length := by rw [← r.len]; exact (List.getElem?_eq_some_iff.mp hn).1
      rw [List.getElem?_set_self hl] at h2
      cases h2
      exact ob
    · rw [List.getElem?_set_ne (Ne.symm z)] at h2
      have nb : b ≠ a := fun e => by
        subst e
        obtain ⟨l1, e1⟩ := List.getElem?_eq_some_iff.mp hn
        obtain ⟨l2, e2⟩ := List.getElem?_eq_some_iff.mp h1
        exact z ((List.getElem_inj r.nd).mp (e2.trans e1.symm))
      exact (r.ob m b o' h1 h2).stay (upd_ne nb) (fun _ _ q => sqT_old (r.nt a ha) q) (fun _ _ z => z) fun d fs n1 n2 => ⟨n1, by
        have nd : d ≠ a := fun z => by subst z; exact n1 ha
        rw [upd_ne nd]; exact n2⟩
theorem Stp.write {n : Nat} (hn : ρ[n]? = some a) (mu : Mut (H a)) {o : HO} : Stp ρ H ρ (upd H a o) :=
  ⟨List.prefix_rfl, fun b u nb e => by rw [upd_ne fun z => nb (by rw [z]; exact List.mem_of_getElem? hn)]; exact e, fun _ h1 h2 => absurd h1 h2, fun b q u e => by
    have nb : b ≠ a := fun z => by
      subst z; rw [e] at mu; exact mu
    rw [upd_ne nb]; exact e⟩
theorem nt_lst {xs : List V} : ∀ ys, ¬ Rd (upd H a (.lst xs)) a (.tup ys) := fun ys h => by
  rcases h with h | ⟨_, h⟩ <;> rw [upd_same] at h <;> cases h
theorem nt_dK {xs : List (Key × V)} : ∀ ys, ¬ Rd (upd H a (.dK xs)) a (.tup ys) := fun ys h => by
  rcases h with h | ⟨_, h⟩ <;> rw [upd_same] at h <;> cases h
theorem nt_ext {φ : Heap → Prop} : ∀ ys, ¬ Rd (upd H a (.ext φ)) a (.tup ys) := fun ys h => by
  rcases h with h | ⟨_, h⟩ <;> rw [upd_same] at h <;> cases h
theorem nt_ins {C dx : Addr} {xs : List (Str × V)} : ∀ ys, ¬ Rd (upd H a (.ins C dx xs)) a (.tup ys) := fun ys h => by
  rcases h with h | ⟨_, h⟩ <;> rw [upd_same] at h <;> cases h
theorem nt_of {o : HO} (e : H a = some o) (h1 : ∀ xs, o ≠ .tup xs) (h2 : ∀ ob xs, o ≠ .frz ob (.tup xs)) : ∀ ys, ¬ Rd H a (.tup ys) := fun ys h => by
  rcases h with h | ⟨ob, h⟩ <;> rw [e] at h
  · exact h1 ys (Option.some.inj h)
  · exact h2 ob ys (Option.some.inj h)
end
end NI
end

section
set_option Elab.async false
set_option autoImplicit false
set_option linter.all false
set_option maxRecDepth 100000
set_option maxHeartbeats 2000000
/-! Operations by values. -/
namespace NI
open PySem PySem.Spec PyProof.Rows L2
section
variable {Λ : Ln} {X : Cx}
/-- an operation's reading by plain values -/
def rV2 (Λ : Ln) (f : PV → PV → AH → R PV) : R2 := fun x y H Q => ∃ (E : XK) (ρ : List Addr) (p q : PV) (ah : AH), RelH Λ ρ H ah ∧ Rp Λ ρ H x p ∧ Rp Λ ρ H y q ∧ Post Λ E (Rp Λ) ρ H (f p q ah) Q
theorem fits_le {n : Nat} (h : fits n = true) : n ≤ sizeLine := by
  have h1 : n ≤ maxSize := of_decide_eq_true h
  have e : maxSize = sizeLine := rfl
  omega
theorem ba {a b : Bool} (h : (a && b) = true) : a = true ∧ b = true := Bool.and_eq_true_iff.mp h
theorem int64_ok {k : Int} (h : int64 k = true) : -(2 ^ 63) ≤ k ∧ k < 2 ^ 63 := by
  obtain ⟨h1, h2⟩ := ba h
  have := of_decide_eq_true h1
  have := of_decide_eq_true h2
  omega
theorem iteR {α : Type} {c : Bool} {x : R α} {β : Type} {E : XK} {RR : List Addr → Hp → β → α → Prop} {ρ : List Addr} {H : Hp} {Q : β → Hp → Prop} (h : Post Λ E RR ρ H (if c = true then x else .no) Q) : c = true ∧ Post Λ E RR ρ H x Q := by
  cases c with
  | true => exact ⟨rfl, h⟩
  | false => exact h.elim
theorem lsOnly_at {h : AH} {n : Nat} {xs : List PV} (e : lsOnly h n = some xs) : h[n]? = some (.lst xs) := by
  unfold lsOnly at e
  cases q : h[n]? with
  | none => rw [q] at e; cases e
  | some o =>
    rw [q] at e
    cases o with
    | lst ys => cases e; rfl
    | _ => cases e
theorem repL_eq {α : Type} (xs : List α) : ∀ n, repL xs n = (List.replicate n xs).flatten
  | 0 => rfl
  | n + 1 => by rw [repL, repL_eq xs n, List.replicate_succ, List.flatten_cons]
theorem RpL.rep {ρ : List Addr} {H : Hp} {vs : List V} {ps : List PV} (h : RpL Λ ρ H vs ps) : ∀ n, RpL Λ ρ H (List.replicate n vs).flatten (repL ps n)
  | 0 => .nil
  | n + 1 => by rw [List.replicate_succ, List.flatten_cons, repL]; exact h.append (RpL.rep h n)
theorem RpL.none_iff {ρ : List Addr} {H : Hp} {vs : List V} {ps : List PV} (h : RpL Λ ρ H vs ps) : vs = [] ↔ ps = [] := by
  cases h <;> simp
/-- strings -/
theorem strOk_app {x y : Str} (h1 : PyData.strOk x = true) (h2 : PyData.strOk y = true) : PyData.strOk (x ++ y) = true := by
  show (x.cps ++ y.cps).all _ = true
  rw [Array.all_append]
  exact Bool.and_eq_true_iff.mpr ⟨h1, h2⟩
theorem len_txt (x : Str) : x.cps.toList.length = x.length := by simp [Str.length]
theorem app_txt (x y : Str) : (x ++ y).cps.toList = x.cps.toList ++ y.cps.toList := by
  show (x.cps ++ y.cps).toList = _
  simp
theorem len_app (x y : Str) : (x ++ y).length = x.length + y.length := by
  rw [← len_txt, app_txt, List.length_append, len_txt, len_txt]
theorem bin_ok {op : Operator} {o : Bo} (hk : X.K = Λ.K) (ho : (op = .Add ∧ o = .add) ∨ (op = .Sub ∧ o = .sub) ∨ (op = .Mult ∧ o = .mul) ∨ (op = .FloorDiv ∧ o = .fdiv) ∨ (op = .Mod ∧ o = .mod) ∨ (op = .Pow ∧ o = .pow)) : OpR X (binaryOp op) (rV2 Λ (binV o)) := by
  intro pins s σ H x y v u Q I rx ry h
  obtain ⟨E, ρ, p, q, ah, r, rp, rq, post⟩ := h
  have s0 : Stp ρ H ρ H := Stp.refl
  cases p with
  | int i =>
    cases q with
    | int j =>
      cases rp
      cases rq
      obtain ⟨z, e, post⟩ := Post.ofO post
      have fin : ∀ k : Int, binI o i j = some k → Q (.int k) H := fun k ek => by
        rw [ek] at e
        cases e
        exact post ρ H _ s0 r (.int k)
      rcases ho with ⟨rfl, rfl⟩ | ⟨rfl, rfl⟩ | ⟨rfl, rfl⟩ | ⟨rfl, rfl⟩ | ⟨rfl, rfl⟩ | ⟨rfl, rfl⟩
      · exact op_add pins s σ H _ _ v u Q I rx ry ⟨i, j, rfl, rfl, fin _ rfl⟩
      · exact op_sub pins s σ H _ _ v u Q I rx ry ⟨i, j, rfl, rfl, fin _ rfl⟩
      · have e2 : (if (smallI i || smallI j) = true then some (i * j) else none).map PV.int = some z := e
        cases hs : (smallI i || smallI j) with
        | false => rw [hs] at e2; cases e2
        | true =>
          refine op_mul pins s σ H _ _ v u Q I rx ry ⟨i, j, rfl, rfl, ?_, fin _ (by show (if (smallI i || smallI j) = true then some (i * j) else none) = _; rw [hs]; rfl)⟩
          rcases Bool.or_eq_true_iff.mp hs with h | h
          · obtain ⟨h1, h2⟩ := ba h
            have := of_decide_eq_true h1
            have := of_decide_eq_true h2
            exact .inl (by omega)
          · obtain ⟨h1, h2⟩ := ba h
            have := of_decide_eq_true h1
            have := of_decide_eq_true h2
            exact .inr (by omega)
      · have e2 : (if (decide (0 < j) && decide (j.natAbs < hugeDiv)) = true then some (i / j) else none).map PV.int = some z := e
        cases hs : (decide (0 < j) && decide (j.natAbs < hugeDiv)) with
        | false => rw [hs] at e2; cases e2
        | true =>
          obtain ⟨h1, h2⟩ := ba hs
          exact op_fdivW pins s σ H _ _ v u Q I rx ry ⟨i, j, rfl, rfl, wide_div (b := 9000) (of_decide_eq_true h1) (of_decide_eq_true h2) (by decide) (Nat.le_refl _), fin _ (by show (if (decide (0 < j) && decide (j.natAbs < hugeDiv)) = true then some (i / j) else none) = _; rw [hs]; rfl)⟩
      · have e2 : (if 0 < j then some (i % j) else none).map PV.int = some z := e
        by_cases hs : 0 < j
        · exact op_mod pins s σ H _ _ v u Q I rx ry ⟨i, j, rfl, rfl, hs, fin _ (if_pos hs)⟩
        · rw [if_neg hs] at e2; cases e2
      · have e2 : (if powOk i j = true then some (i ^ j.toNat) else none).map PV.int = some z := e
        cases hs : powOk i j with
        | false => rw [hs] at e2; cases e2
        | true =>
          obtain ⟨h1, h3⟩ := ba hs
          obtain ⟨h1, h2⟩ := ba h1
          refine op_pow pins s σ H _ _ v u Q I rx ry ⟨i, j, rfl, rfl, ⟨of_decide_eq_true h1, of_decide_eq_true h2, ?_⟩, fin _ (by show (if powOk i j = true then some (i ^ j.toNat) else none) = _; rw [hs]; rfl)⟩
          have := of_decide_eq_true h3
          omega
    | _ => exact post.elim
  | str a =>
    cases q with
    | str b =>
      rcases ho with ⟨rfl, rfl⟩ | ⟨_, rfl⟩ | ⟨_, rfl⟩ | ⟨_, rfl⟩ | ⟨_, rfl⟩ | ⟨_, rfl⟩ <;> first | exact post.elim | skip
      cases rp with
      | str x _ e1 k1 l1 =>
        cases rq with
        | str y _ e2 k2 l2 =>
          obtain ⟨hf, post⟩ := iteR post
          have hl : x.length + y.length ≤ sizeLine := by
            have := fits_le hf
            rw [← e1, ← e2, len_txt, len_txt] at this
            exact this
          exact op_add_str pins s σ H _ _ v u Q I rx ry ⟨x, y, rfl, rfl, hl, post ρ H _ s0 r (.str _ _ (by rw [app_txt, e1, e2]) (strOk_app k1 k2) (by rw [len_app]; exact hl))⟩
    | _ => cases o <;> exact post.elim
  | tup a =>
    cases q with
    | tup b =>
      rcases ho with ⟨rfl, rfl⟩ | ⟨_, rfl⟩ | ⟨_, rfl⟩ | ⟨_, rfl⟩ | ⟨_, rfl⟩ | ⟨_, rfl⟩ <;> first | exact post.elim | skip
      cases rp with
      | @tup pa xs _ h1 r1 =>
        cases rq with
        | @tup pb ys _ h2 r2 =>
          obtain ⟨hf, post⟩ := iteR post
          refine op_catA pins s σ H _ _ v u Q I rx ry ⟨pa, pb, xs, ys, rfl, rfl, by rw [hk]; exact h1, by rw [hk]; exact h2, by rw [r1.length, r2.length]; exact fits_le hf, fun e => ?_, fun _ e => ?_, fun _ _ t ht => ?_⟩
          · have ea : a = [] := r1.none_iff.mp e
            exact post ρ H _ s0 r (.tup h2 (by rw [ea]; exact r2))
          · have eb : b = [] := r2.none_iff.mp e
            exact post ρ H _ s0 r (.tup h1 (by rw [eb, List.append_nil]; exact r1))
          · have s1 : Stp ρ H ρ (upd H t (.tup (xs ++ ys))) := Stp.fresh ht _
            exact post ρ _ _ s1 (r.fresh ht _) (.tup (SqT.of upd_same) (s1.rpL r.nt (r1.append r2)))
    | int k =>
      rcases ho with ⟨_, rfl⟩ | ⟨_, rfl⟩ | ⟨rfl, rfl⟩ | ⟨_, rfl⟩ | ⟨_, rfl⟩ | ⟨_, rfl⟩ <;> first | exact post.elim | skip
      cases rp with
      | @tup pa xs _ h1 r1 =>
        cases rq
        obtain ⟨hf, post⟩ := iteR post
        obtain ⟨hf, f4⟩ := ba hf
        obtain ⟨hf, f3⟩ := ba hf
        obtain ⟨f1, f2⟩ := ba hf
        have f1 := of_decide_eq_true f1
        have f2 := of_decide_eq_true f2
        have el := r1.length
        refine op_repT pins s σ H _ _ v u Q I rx ry ⟨pa, k, xs, rfl, rfl, by rw [hk]; exact h1, fun e => ?_, of_decide_eq_true f3, of_decide_eq_true f4, by omega, fun t ht => ?_⟩
        · rw [e] at el
          simp at el
          omega
        · have s1 : Stp ρ H ρ (upd H t (.tup (List.replicate k.toNat xs).flatten)) := Stp.fresh ht _
          exact post ρ _ _ s1 (r.fresh ht _) (.tup (SqT.of upd_same) (s1.rpL r.nt (r1.rep _)))
    | _ => cases o <;> exact post.elim
  | obj n =>
    cases q with
    | obj m =>
      rcases ho with ⟨rfl, rfl⟩ | ⟨_, rfl⟩ | ⟨_, rfl⟩ | ⟨_, rfl⟩ | ⟨_, rfl⟩ | ⟨_, rfl⟩ <;> first | exact post.elim | skip
      cases rp with
      | @obj pa _ e1 =>
        cases rq with
        | @obj pb _ e2 =>
          have post2 : Post Λ E (Rp Λ) ρ H (match lsOnly ah n, lsOnly ah m with
            | some a, some b => if fits (a.length + b.length) then .ok (.obj ah.length) (ah ++ [.lst (a ++ b)]) else .no
            | _, _ => .no) Q := post
          cases q1 : lsOnly ah n with
          | none => rw [q1] at post2; exact post2.elim
          | some a =>
            cases q2 : lsOnly ah m with
            | none => rw [q1, q2] at post2; exact post2.elim
            | some b =>
              rw [q1, q2] at post2
              obtain ⟨hf, post2⟩ := iteR post2
              obtain ⟨xs, h1, r1⟩ := r.ob n pa _ e1 (lsOnly_at q1)
              obtain ⟨ys, h2, r2⟩ := r.ob m pb _ e2 (lsOnly_at q2)
              refine op_cat pins s σ H _ _ v u Q I rx ry ⟨pa, pb, xs, ys, rfl, rfl, h1, h2, by rw [r1.length, r2.length]; exact fits_le hf, fun t ht => ?_⟩
              have s1 : Stp ρ H (ρ ++ [t]) (upd H t (.lst (xs ++ ys))) := Stp.grow ht
              refine post2 _ _ _ s1 (r.new ht nt_lst ⟨_, upd_same, s1.rpL r.nt (r1.append r2)⟩) (.obj ?_)
              rw [← r.len]; exact app_last _ _
    | int k =>
      rcases ho with ⟨_, rfl⟩ | ⟨_, rfl⟩ | ⟨rfl, rfl⟩ | ⟨_, rfl⟩ | ⟨_, rfl⟩ | ⟨_, rfl⟩ <;> first | exact post.elim | skip
      cases rp with
      | @obj pa _ e1 =>
        cases rq
        have post2 : Post Λ E (Rp Λ) ρ H (match lsOnly ah n with
          | some a => if (fits (a.length * k.toNat) && int64 k) = true then .ok (.obj ah.length) (ah ++ [.lst (repL a k.toNat)]) else .no
          | _ => .no) Q := post
        cases q1 : lsOnly ah n with
        | none => rw [q1] at post2; exact post2.elim
        | some a =>
          rw [q1] at post2
          obtain ⟨hf, post2⟩ := iteR post2
          obtain ⟨hf, h64⟩ := ba hf
          obtain ⟨k1, k2⟩ := int64_ok h64
          obtain ⟨xs, h1, r1⟩ := r.ob n pa _ e1 (lsOnly_at q1)
          refine op_rep pins s σ H _ _ v u Q I rx ry ⟨pa, k, xs, rfl, rfl, h1, k1, k2, by rw [r1.length]; exact fits_le hf, fun t ht => ?_⟩
          have s1 : Stp ρ H (ρ ++ [t]) (upd H t (.lst (List.replicate k.toNat xs).flatten)) := Stp.grow ht
          refine post2 _ _ _ s1 (r.new ht nt_lst ⟨_, upd_same, s1.rpL r.nt (r1.rep _)⟩) (.obj ?_)
          rw [← r.len]; exact app_last _ _
    | _ => cases o <;> exact post.elim
  | _ => exact post.elim
end
end NI
end

section
set_option Elab.async false
set_option autoImplicit false
set_option linter.all false
set_option maxRecDepth 100000
set_option maxHeartbeats 2000000
/-! Comparisons by values. -/
namespace NI
open PySem PySem.Spec PyProof.Rows L2
mutual
def toD : PV → PyData
  | .non => .none
  | .bl b => .bool b
  | .int i => .int i
  | .str s => .str ⟨s.toArray⟩
  | .tup xs => .tuple (toDs xs)
  | .obj _ => .none
  | .glo _ => .none
def toDs : List PV → List PyData
  | [] => []
  | x :: xs => toD x :: toDs xs
end
theorem str_of {x : Str} {s : Txt} (h : x.cps.toList = s) : x = ⟨s.toArray⟩ := by
  cases x with
  | mk a => subst h; simp
theorem str_beq (s t : Txt) : ((⟨s.toArray⟩ : Str) == ⟨t.toArray⟩) = (s == t) := by
  rw [Bool.eq_iff_iff]
  simp
section
variable {Λ : Ln} {ρ : List Addr} {H : Hp}
mutual
theorem dp_of : ∀ (n : Nat) (p : PV) (v : V), isData n p = true → Rp Λ ρ H v p → Dp Λ.K H v (toD p) ∧ (toD p).canLay0 = true ∧ (toD p).depth ≤ n
  | n, .non, _, _, r => by cases r; exact ⟨.non, by simp [toD, PyData.canLay0], by simp [toD, PyData.depth]⟩
  | n, .bl b, _, _, r => by cases r; exact ⟨.bl b, by simp [toD, PyData.canLay0], by simp [toD, PyData.depth]⟩
  | n, .int i, _, _, r => by cases r; exact ⟨.int i, by simp [toD, PyData.canLay0], by simp [toD, PyData.depth]⟩
  | n, .str s, _, _, r => by
    cases r with
    | str x _ e k l =>
      have ex := str_of e
      subst ex
      exact ⟨.str _, by simpa [toD, PyData.canLay0] using k, by simp [toD, PyData.depth]⟩
  | 0, .tup xs, _, h, _ => by simp [isData] at h
  | n + 1, .tup xs, _, h, r => by
    cases r with
    | tup h1 h2 =>
      obtain ⟨d1, d2, d3⟩ := dp_ofL n xs _ (by simpa [isData] using h) h2
      refine ⟨.tup h1 d1, by simpa [toD, PyData.canLay0] using d2, ?_⟩
      simp only [toD, PyData.depth]
      omega
  | n, .obj _, _, h, _ => by cases n <;> simp [isData] at h
  | n, .glo _, _, h, _ => by cases n <;> simp [isData] at h
theorem dp_ofL : ∀ (n : Nat) (ps : List PV) (vs : List V), areData n ps = true → RpL Λ ρ H vs ps → DpAll Λ.K H vs (toDs ps) ∧ PyData.canLayAll0 (toDs ps) = true ∧ PyData.depthAll (toDs ps) ≤ n
  | n, [], _, _, r => by cases r; exact ⟨.nil, by simp [toDs, PyData.canLayAll0], by simp [toDs, PyData.depthAll]⟩
  | n, p :: ps, _, h, r => by
    cases r with
    | cons r1 r2 =>
      have hb := ba (show (isData n p && areData n ps) = true from by simpa [areData] using h)
      obtain ⟨a1, a2, a3⟩ := dp_of n p _ hb.1 r1
      obtain ⟨b1, b2, b3⟩ := dp_ofL n ps _ hb.2 r2
      refine ⟨.cons a1 b1, by simp [toDs, PyData.canLayAll0, a2, b2], ?_⟩
      simp only [toDs, PyData.depthAll]
      omega
end
mutual
theorem eqv_of : ∀ (p : PV) (n m : Nat) (q : PV), isData n p = true → isData m q = true → PyData.eqv (toD p) (toD q) = peq p q
  | .tup xs, n, m, q, hp, hq => by
    cases q with
    | tup ys =>
      cases n with
      | zero => simp [isData] at hp
      | succ n =>
        cases m with
        | zero => simp [isData] at hq
        | succ m =>
          simp only [toD, PyData.eqv, peq]
          exact eqv_ofL xs n m ys (by simpa [isData] using hp) (by simpa [isData] using hq)
    | obj _ => cases m <;> simp [isData] at hq
    | glo _ => cases m <;> simp [isData] at hq
    | _ => simp [toD, PyData.eqv, peq]
  | .obj _, n, m, q, hp, hq => by cases n <;> simp [isData] at hp
  | .glo _, n, m, q, hp, hq => by cases n <;> simp [isData] at hp
  | .str s, n, m, q, hp, hq => by
    cases q with
    | obj _ => cases m <;> simp [isData] at hq
    | glo _ => cases m <;> simp [isData] at hq
    | str t => simp only [toD, PyData.eqv, peq]; exact str_beq s t
    | _ => simp [toD, PyData.eqv, peq]
  | .non, n, m, q, hp, hq => by
    cases q with
    | obj _ => cases m <;> simp [isData] at hq
    | glo _ => cases m <;> simp [isData] at hq
    | _ => simp [toD, PyData.eqv, peq]
  | .bl b, n, m, q, hp, hq => by
    cases q with
    | obj _ => cases m <;> simp [isData] at hq
    | glo _ => cases m <;> simp [isData] at hq
    | _ => simp [toD, PyData.eqv, peq, b2i]
  | .int i, n, m, q, hp, hq => by
    cases q with
    | obj _ => cases m <;> simp [isData] at hq
    | glo _ => cases m <;> simp [isData] at hq
    | _ => simp [toD, PyData.eqv, peq, b2i]
theorem eqv_ofL : ∀ (ps : List PV) (n m : Nat) (qs : List PV), areData n ps = true → areData m qs = true → PyData.eqvAll (toDs ps) (toDs qs) = peqL ps qs
  | [], n, m, qs, _, _ => by cases qs <;> simp [toDs, PyData.eqvAll, peqL]
  | p :: ps, n, m, qs, hp, hq => by
    cases qs with
    | nil => simp [toDs, PyData.eqvAll, peqL]
    | cons q qs =>
      have h1 := ba (show (isData n p && areData n ps) = true from by simpa [areData] using hp)
      have h2 := ba (show (isData m q && areData m qs) = true from by simpa [areData] using hq)
      simp only [toDs, PyData.eqvAll, peqL]
      rw [eqv_of p n m q h1.1 h2.1, eqv_ofL ps n m qs h1.2 h2.2]
end
end
end NI
end

section
set_option Elab.async false
set_option autoImplicit false
set_option linter.all false
set_option maxRecDepth 100000
set_option maxHeartbeats 2000000
/-! Comparisons by values, continued. -/
namespace NI
open PySem PySem.Spec PyProof.Rows L2
theorem ltT_eq : ∀ x y : Txt, ltT x y = decide (x < y)
  | [], [] => by simp [ltT]
  | [], y :: ys => by simp [ltT]
  | x :: xs, [] => by simp [ltT]
  | x :: xs, y :: ys => by
    simp only [ltT, ltT_eq xs ys, List.cons_lt_cons_iff]
    by_cases h : x < y
    · simp [h]
    · by_cases g : y < x
      · simp [h, g]; omega
      · have : x = y := by omega
        subst this; simp
mutual
theorem alike_of : ∀ (p q : PV), alike p q = true → PySem.W.alike (toD p) (toD q) = true
  | .int _, q, h => by cases q <;> simp [alike] at h; simp [toD, PySem.W.alike]
  | .str _, q, h => by cases q <;> simp [alike] at h; simp [toD, PySem.W.alike]
  | .tup xs, q, h => by
    cases q with
    | tup ys =>
      simp only [toD, PySem.W.alike]
      exact alike_ofL xs ys (by simpa [alike] using h)
    | _ => simp [alike] at h
  | .non, q, h => by simp [alike] at h
  | .bl _, q, h => by simp [alike] at h
  | .obj _, q, h => by simp [alike] at h
  | .glo _, q, h => by simp [alike] at h
theorem alike_ofL : ∀ (ps qs : List PV), alikeL ps qs = true → PySem.W.alikeAll (toDs ps) (toDs qs) = true
  | [], qs, _ => by simp [toDs, PySem.W.alikeAll]
  | p :: ps, [], _ => by simp [toDs, PySem.W.alikeAll]
  | p :: ps, q :: qs, h => by
    have hb := ba (show (alike p q && alikeL ps qs) = true from by simpa [alikeL] using h)
    simp only [toDs, PySem.W.alikeAll]
    rw [alike_of p q hb.1, alike_ofL ps qs hb.2]; rfl
end
mutual
theorem lt_of : ∀ (p q : PV) (n m : Nat), isData n p = true → isData m q = true → alike p q = true → PySem.W.dataLt (toD p) (toD q) = plt p q
  | .int i, q, _, _, _, _, h => by cases q <;> simp [alike] at h; simp [toD, plt, PySem.W.dataLt_int]
  | .str s, q, _, _, _, _, h => by cases q <;> simp [alike] at h; simp [toD, plt, PySem.W.dataLt_str, ltT_eq]
  | .tup xs, q, n, m, dp, dq, h => by
    cases q with
    | tup ys =>
      cases n with
      | zero => simp [isData] at dp
      | succ n =>
        cases m with
        | zero => simp [isData] at dq
        | succ m =>
          simp only [toD, plt, PySem.W.dataLt_tuple]
          exact lt_ofL xs ys n m (by simpa [isData] using dp) (by simpa [isData] using dq) (by simpa [alike] using h)
    | _ => simp [alike] at h
  | .non, q, _, _, _, _, h => by simp [alike] at h
  | .bl _, q, _, _, _, _, h => by simp [alike] at h
  | .obj _, q, _, _, _, _, h => by simp [alike] at h
  | .glo _, q, _, _, _, _, h => by simp [alike] at h
theorem lt_ofL : ∀ (ps qs : List PV) (n m : Nat), areData n ps = true → areData m qs = true → alikeL ps qs = true →
    PyProof.Rows.lexLt itemOrd (PySem.W.keyToksAll (toDs ps)) (PySem.W.keyToksAll (toDs qs)) = pltL ps qs
  | [], [], _, _, _, _, _ => by simp [toDs, pltL, PySem.W.keyToksAll]; decide
  | [], q :: qs, _, _, _, _, _ => by
    simp only [toDs, pltL, PySem.W.keyToksAll]
    exact (PySem.W.lex_atom (by decide) _ _).trans (by decide)
  | p :: ps, [], _, _, _, _, _ => by
    simp only [toDs, pltL, PySem.W.keyToksAll]
    exact (PySem.W.lex_atom (by decide) _ _).trans (by decide)
  | p :: ps, q :: qs, n, m, dp, dq, h => by
    have hb := ba (show (alike p q && alikeL ps qs) = true from by simpa [alikeL] using h)
    have h1 := ba (show (isData n p && areData n ps) = true from by simpa [areData] using dp)
    have h2 := ba (show (isData m q && areData m qs) = true from by simpa [areData] using dq)
    have e := eqv_of p n m q h1.1 h2.1
    simp only [toDs, pltL]
    cases k : peq p q with
    | true =>
      rw [PySem.W.dataLt_all_yes (alike_of p q hb.1) (e.trans k), lt_ofL ps qs n m h1.2 h2.2 hb.2]
      simp
    | false =>
      rw [PySem.W.dataLt_all_no (alike_of p q hb.1) (e.trans k), lt_of p q n m h1.1 h2.1 hb.1]
      simp
end
theorem alike_not_none {p q : PV} (h : alike p q = true) : toD p ≠ .none := by
  cases p <;> cases q <;> simp [alike] at h <;> simp [toD]
section
variable {Λ : Ln} {X : Cx}
theorem shaped_of {d : PyData} (h1 : d.canLay0 = true) (h2 : d.depth ≤ 64) : SeqAt.shaped d = true := by
  unfold SeqAt.shaped
  rw [h1]; simpa using h2
theorem op_ltD (hu : X.A.units + 64 < cLine) : OpR X (compareOp .Lt) (fun x y H Q => ∃ d e, Dp X.K H x d ∧ Dp X.K H y e ∧ SeqAt.shaped d = true ∧ SeqAt.shaped e = true ∧ PySem.W.alike d e = true ∧ d ≠ .none ∧ Q (.bl (PySem.W.dataLt d e)) H) := by
  intro pins s σ H x y v u Q I rx ry h
  obtain ⟨d, e, hd, he, sd, se, ha, hn, q⟩ := h
  obtain ⟨as, r1⟩ := Dp.reads I d x v hd rx
  obtain ⟨bs, r2⟩ := Dp.reads I e y u he ry
  have dd : d.depth ≤ 64 := of_decide_eq_true (ba sd).2
  exact PySem.W.rcLt_alike d e X.A s v u as bs r1 r2 ha hn (by omega) _ _ _ _ ⟨.bl _, H, I, rfl, q⟩
theorem ofB {E : XK} {ρ : List Addr} {H : Hp} {ah : AH} {o : Option Bool} {Q : V → Hp → Prop} (h : Post Λ E (Rp Λ) ρ H (R.ofO ah (o.map PV.bl)) Q) (r : RelH Λ ρ H ah) : ∃ b, o = some b ∧ Q (.bl b) H := by
  cases o with
  | none => exact h.elim
  | some b => exact ⟨b, rfl, h ρ H _ Stp.refl r (.bl b)⟩
/-- a list of the plain heap -/
theorem RelH.lst_at {ρ : List Addr} {H : Hp} {ah : AH} (r : RelH Λ ρ H ah) {n : Nat} {a : Addr} {ps : List PV} (e : ρ[n]? = some a) (h : lstAt ah n = some ps) : ∃ xs, SqL Λ.K H a xs ∧ RpL Λ ρ H xs ps := by
  unfold lstAt at h
  cases q : ah[n]? with
  | none => rw [q] at h; cases h
  | some o =>
    rw [q] at h
    have ob := r.ob n a o e q
    cases o with
    | lst xs =>
      cases h
      obtain ⟨ys, h1, h2⟩ := ob
      exact ⟨ys, SqL.of h1, h2⟩
    | frz xs =>
      cases h
      obtain ⟨ys, o, h1, h2⟩ := ob
      exact ⟨ys, .inl (.inr ⟨o, h1⟩), h2⟩
    | _ => cases h
/-- what == asks -/
def EqD (Λ : Ln) (H : Hp) (x y : V) (b : Bool) : Prop := ∃ d e, Dp Λ.K H x d ∧ Dp Λ.K H y e ∧ SeqAt.shaped d = true ∧ SeqAt.shaped e = true ∧ PyData.eqv d e = b
theorem eqD_of {ρ : List Addr} {H : Hp} {ah : AH} (r : RelH Λ ρ H ah) {x y : V} {p q : PV} (rp : Rp Λ ρ H x p) (rq : Rp Λ ρ H y q) {b : Bool} (h : eqV ah p q = some b) : EqD Λ H x y b := by
  unfold eqV at h
  cases hd : (isData dataMax p && isData dataMax q) with
  | true =>
    rw [hd] at h
    cases h
    obtain ⟨h1, h2⟩ := ba hd
    obtain ⟨a1, a2, a3⟩ := dp_of _ p x h1 rp
    obtain ⟨b1, b2, b3⟩ := dp_of _ q y h2 rq
    exact ⟨_, _, a1, b1, shaped_of a2 a3, shaped_of b2 b3, eqv_of p _ _ q h1 h2⟩
  | false =>
    rw [hd] at h
    cases p with
    | obj n =>
      cases q with
      | obj m =>
        have h2 : (match lstAt ah n, lstAt ah m with
          | some a, some b => if (areData 32 a && areData 32 b) = true then some (peqL a b) else none
          | _, _ => none) = some b := h
        cases q1 : lstAt ah n with
        | none => rw [q1] at h2; cases h2
        | some ps =>
          cases q2 : lstAt ah m with
          | none => rw [q1, q2] at h2; cases h2
          | some qs =>
            rw [q1, q2] at h2
            cases hk : (areData 32 ps && areData 32 qs) with
            | false => simp only [hk] at h2; cases h2
            | true =>
              simp only [hk] at h2
              cases h2
              obtain ⟨k1, k2⟩ := ba hk
              cases rp with
              | obj e1 =>
                cases rq with
                | obj e2 =>
                  obtain ⟨xs, l1, r1⟩ := r.lst_at e1 q1
                  obtain ⟨ys, l2, r2⟩ := r.lst_at e2 q2
                  obtain ⟨a1, a2, a3⟩ := dp_ofL _ ps xs k1 r1
                  obtain ⟨b1, b2, b3⟩ := dp_ofL _ qs ys k2 r2
                  refine ⟨.list (toDs ps), .list (toDs qs), .lst l1 a1, .lst l2 b1, shaped_of (by simpa [PyData.canLay0] using a2) (by simp only [PyData.depth]; omega), shaped_of (by simpa [PyData.canLay0] using b2) (by simp only [PyData.depth]; omega), ?_⟩
                  simp only [PyData.eqv]
                  exact eqv_ofL ps _ _ qs k1 k2
      | _ => cases h
    | _ => cases h
theorem flat_of {ρ : List Addr} {H : Hp} {x : V} {p : PV} (r : Rp Λ ρ H x p) (h : isFlat p = true) : flatV x = true := by
  cases r <;> first | rfl | (simp [isFlat] at h)
theorem flats_of {ρ : List Addr} {H : Hp} : ∀ {xs : List V} {ps : List PV}, RpL Λ ρ H xs ps → ps.all isFlat = true → xs.all flatV = true
  | _, _, .nil, _ => rfl
  | _, _, .cons r t, h => by
    rw [List.all_cons, Bool.and_eq_true] at h ⊢
    exact ⟨flat_of r h.1, flats_of t h.2⟩
theorem str_beq2 {x y : Str} {s t : Txt} (e1 : x.cps.toList = s) (e2 : y.cps.toList = t) : (x == y) = (s == t) := by
  rw [str_of e1, str_of e2]; exact str_beq s t
theorem flat_eq {ρ : List Addr} {H : Hp} {x y : V} {p q : PV} (rp : Rp Λ ρ H x p) (rq : Rp Λ ρ H y q) (h : isFlat p = true) (k : isFlat q = true) : L2.eqV x y = peq p q := by
  cases rp <;> cases rq <;> first | rfl | (simp [isFlat] at h; done) | (simp [isFlat] at k; done) | skip
  rename_i _ _ e1 _ _ _ _ e2 _ _
  exact str_beq2 e1 e2
theorem flat_in {ρ : List Addr} {H : Hp} {x : V} {p : PV} (rp : Rp Λ ρ H x p) (h : isFlat p = true) : ∀ {xs : List V} {ps : List PV}, RpL Λ ρ H xs ps → ps.all isFlat = true → L2.inV x xs = pin p ps
  | _, _, .nil, _ => rfl
  | _, _, .cons r t, k => by
    rw [List.all_cons, Bool.and_eq_true] at k
    have ih := flat_in rp h t k.2
    unfold L2.inV pin at ih ⊢
    rw [List.any_cons, List.any_cons, flat_eq r rp k.1 h, ih]
theorem pin_of {p : PV} {n : Nat} (h : isData n p = true) : ∀ (ps : List PV) (m : Nat), areData m ps = true → (toDs ps).any (fun z => PyData.eqv z (toD p)) = pin p ps
  | [], _, _ => rfl
  | q :: ps, m, k => by
    have h1 := ba (show (isData m q && areData m ps) = true from by simpa [areData] using k)
    have ih := pin_of h ps m h1.2
    unfold pin at ih ⊢
    rw [toDs, List.any_cons, List.any_cons, eqv_of q m n p h1.1 h, ih]
/-! ### dicts: keys that are integers, texts -/
def keyOf : PV → Option Key
  | .int i => some (.inl i)
  | .str s => some (.inr ⟨s.toArray⟩)
  | _ => none
theorem key_rp {ρ : List Addr} {H : Hp} {x : V} {p : PV} (r : Rp Λ ρ H x p) (h : keyS p = true) : ∃ k, keyOf p = some k ∧ x = kV k := by
  cases r <;> first | (simp [keyS] at h; done) | skip
  · exact ⟨_, rfl, rfl⟩
  · rename_i e _ _
    exact ⟨_, rfl, by rw [str_of e]; rfl⟩
def RpO (Λ : Ln) (ρ : List Addr) (H : Hp) : Option V → Option PV → Prop
  | none, none => True
  | some v, some p => Rp Λ ρ H v p
  | _, _ => False
theorem KvS.get {ρ : List Addr} {H : Hp} {q : PV} {k : Key} (hk : keyOf q = some k) : ∀ {es : List (Key × V)} {kvs : List (PV × PV)}, KvS Λ ρ H es kvs → RpO Λ ρ H (valV es k) (dget kvs q)
  | _, _, .nil => by simp [valV, dget, RpO]
  | _, _, .int (i := i) (v := v) (p := p) (r := r) (q := t) rv tl => by
    have ih := KvS.get hk tl
    have e : (Sum.inl i = k) ↔ peq (.int i) q = true := by
      cases q <;> simp [keyOf] at hk <;> subst hk <;> simp [peq]
    by_cases c : (Sum.inl i : Key) = k
    · rw [valV_pos (p := (Sum.inl i, v)) c]
      simp only [dget, e.mp c, if_true]
      exact rv
    · rw [valV_neg (p := (Sum.inl i, v)) c]
      have : peq (.int i) q = false := by
        cases z : peq (.int i) q with
        | false => rfl
        | true => exact absurd (e.mpr z) c
      simp only [dget, this]
      exact ih
  | _, _, .str (x := x) (s := s) (v := v) (p := p) (r := r) (q := t) e1 k1 l1 rv tl => by
    have ih := KvS.get hk tl
    have e : (Sum.inr x = k) ↔ peq (.str s) q = true := by
      rw [str_of e1]
      cases q <;> simp [keyOf] at hk <;> subst hk <;> simp [peq]
    by_cases c : (Sum.inr x : Key) = k
    · rw [valV_pos (p := (Sum.inr x, v)) c]
      simp only [dget, e.mp c, if_true]
      exact rv
    · rw [valV_neg (p := (Sum.inr x, v)) c]
      have : peq (.str s) q = false := by
        cases z : peq (.str s) q with
        | false => rfl
        | true => exact absurd (e.mpr z) c
      simp only [dget, this]
      exact ih
theorem RpO.some_eq {ρ : List Addr} {H : Hp} {a : Option V} {b : Option PV} (h : RpO Λ ρ H a b) : a.isSome = b.isSome := by
  cases a <;> cases b <;> first | rfl | exact h.elim
theorem KvS.keyS {ρ : List Addr} {H : Hp} : ∀ {es : List (Key × V)} {kvs : List (PV × PV)}, KvS Λ ρ H es kvs → kvs.all (fun e => NI.keyS e.1) = true
  | _, _, .nil => rfl
  | _, _, .int _ t => by rw [List.all_cons, KvS.keyS t]; rfl
  | _, _, .str _ _ _ _ t => by rw [List.all_cons, KvS.keyS t]; rfl
/-! ### dicts whose keys are tuples -/
section
variable {pins : List (Addr × Obj)} {σ : L2.St} {H : Hp} {s : Shared} {ρ : List Addr}
mutual
theorem nested_of (I : Inv X pins σ H s) (hk : X.K = Λ.K) : ∀ (n : Nat) (p : PV) (v : V) (u : Value), keyT n p = true → Rp Λ ρ H v p → RelV v u → NestedIs s.heap (nkey p) u ∧ (nkey p).depth ≤ n
  | n, .non, _, _, _, r, rv => by cases r; cases rv; exact ⟨.none, by simp [nkey, NestedKey.depth]⟩
  | n, .int i, _, _, _, r, rv => by cases r; obtain ⟨t, rfl⟩ := rv; exact ⟨.int i t, by simp [nkey, NestedKey.depth]⟩
  | n, .str z, _, _, _, r, rv => by
    cases r with
    | str x _ e _ _ =>
      obtain ⟨t, rfl⟩ := rv
      rw [str_of e]
      exact ⟨.text _ t, by simp [nkey, NestedKey.depth]⟩
  | 0, .tup xs, _, _, h, _, _ => by simp [keyT] at h
  | n + 1, .tup xs, _, _, h, r, rv => by
    cases r with
    | tup h1 h2 =>
      cases rv
      obtain ⟨its, r1, ⟨o, e, c, k, d⟩, _⟩ := I.tuple (by rw [hk]; exact h1)
      obtain ⟨q1, q2⟩ := nested_ofL I hk n xs _ its (by simpa [keyT] using h) h2 r1
      refine ⟨?_, by simp only [nkey, NestedKey.depth]; omega⟩
      simp only [nkey]
      exact .tup e c d (by simpa using q1)
  | n, .bl _, _, _, h, _, _ => by cases n <;> simp [keyT] at h
  | n, .obj _, _, _, h, _, _ => by cases n <;> simp [keyT] at h
  | n, .glo _, _, _, h, _, _ => by cases n <;> simp [keyT] at h
theorem nested_ofL (I : Inv X pins σ H s) (hk : X.K = Λ.K) : ∀ (n : Nat) (ps : List PV) (vs : List V) (us : List Value), keysT n ps = true → RpL Λ ρ H vs ps → Vals vs us → NestedAll s.heap (nkeys ps) us ∧ NestedKey.depthAll (nkeys ps) ≤ n
  | n, [], _, _, _, r, rv => by cases r; cases rv; exact ⟨.nil, by simp [nkeys, NestedKey.depthAll]⟩
  | n, p :: ps, _, _, h, r, rv => by
    have hb := ba (show (keyT n p && keysT n ps) = true from by simpa [keysT] using h)
    cases r with
    | cons r1 r2 =>
      cases rv with
      | cons v1 v2 =>
        obtain ⟨a1, a2⟩ := nested_of I hk n p _ _ hb.1 r1 v1
        obtain ⟨b1, b2⟩ := nested_ofL I hk n ps _ _ hb.2 r2 v2
        refine ⟨?_, by simp only [nkeys, NestedKey.depthAll]; omega⟩
        simp only [nkeys]
        exact .cons a1 b1
end
end
mutual
theorem nkey_eq : ∀ (n m : Nat) (p q : PV), keyT n p = true → keyT m q = true → (nkey p = nkey q ↔ peq p q = true)
  | n, m, .tup xs, q, h, k => by
    cases q with
    | tup ys =>
      cases n with
      | zero => simp [keyT] at h
      | succ n =>
        cases m with
        | zero => simp [keyT] at k
        | succ m =>
          simp only [nkey, peq, NestedKey.tup.injEq]
          exact nkey_eqL n m xs ys (by simpa [keyT] using h) (by simpa [keyT] using k)
    | bl _ => cases m <;> simp [keyT] at k
    | obj _ => cases m <;> simp [keyT] at k
    | glo _ => cases m <;> simp [keyT] at k
    | _ => simp [nkey, peq]
  | n, m, .non, q, h, k => by
    cases q with
    | bl _ => cases m <;> simp [keyT] at k
    | obj _ => cases m <;> simp [keyT] at k
    | glo _ => cases m <;> simp [keyT] at k
    | _ => simp [nkey, peq]
  | n, m, .int _, q, h, k => by
    cases q with
    | bl _ => cases m <;> simp [keyT] at k
    | obj _ => cases m <;> simp [keyT] at k
    | glo _ => cases m <;> simp [keyT] at k
    | _ => simp [nkey, peq]
  | n, m, .str _, q, h, k => by
    cases q with
    | bl _ => cases m <;> simp [keyT] at k
    | obj _ => cases m <;> simp [keyT] at k
    | glo _ => cases m <;> simp [keyT] at k
    | _ => simp [nkey, peq]
  | n, m, .bl _, q, h, _ => by cases n <;> simp [keyT] at h
  | n, m, .obj _, q, h, _ => by cases n <;> simp [keyT] at h
  | n, m, .glo _, q, h, _ => by cases n <;> simp [keyT] at h
theorem nkey_eqL : ∀ (n m : Nat) (ps qs : List PV), keysT n ps = true → keysT m qs = true → (nkeys ps = nkeys qs ↔ peqL ps qs = true)
  | n, m, [], qs, _, _ => by cases qs <;> simp [nkeys, peqL]
  | n, m, p :: ps, qs, h, k => by
    cases qs with
    | nil => simp [nkeys, peqL]
    | cons q qs =>
      have h1 := ba (show (keyT n p && keysT n ps) = true from by simpa [keysT] using h)
      have h2 := ba (show (keyT m q && keysT m qs) = true from by simpa [keysT] using k)
      simp only [nkeys, peqL, List.cons.injEq, Bool.and_eq_true]
      rw [nkey_eq n m p q h1.1 h2.1, nkey_eqL n m ps qs h1.2 h2.2]
end
/-- the values of a keyed dict, by plain keys -/
inductive KvV (Λ : Ln) (ρ : List Addr) (H : Hp) : List (NestedKey × Value) → List (PV × PV) → Prop
  | nil : KvV Λ ρ H [] []
  | cons {xs : List PV} {v : V} {u : Value} {p : PV} {r : List (NestedKey × Value)} {q : List (PV × PV)} : keyT 8 (.tup xs) = true → RelV v u → Rp Λ ρ H v p → KvV Λ ρ H r q → KvV Λ ρ H ((nkey (.tup xs), u) :: r) ((.tup xs, p) :: q)
theorem KvV.get {ρ : List Addr} {H : Hp} {k : PV} (hk : keyT 8 k = true) : ∀ {es : List (NestedKey × Value)} {kvs : List (PV × PV)}, KvV Λ ρ H es kvs → ∀ o, dget kvs k = o → match o with
    | none => valueAt es (nkey k) = none
    | some q => ∃ v u, valueAt es (nkey k) = some u ∧ RelV v u ∧ Rp Λ ρ H v q
  | _, _, .nil, o, e => by simp [dget] at e; subst e; simp [valueAt]
  | _, _, .cons (xs := xs) (v := v) (u := u) (p := p) (r := r) (q := t) h1 rv rp tl, o, e => by
    have c := nkey_eq 8 8 (.tup xs) k h1 hk
    cases z : peq (.tup xs) k with
    | true =>
      simp only [dget, z, if_true] at e
      subst e
      exact ⟨v, u, by simp [valueAt, c.mpr z], rv, rp⟩
    | false =>
      simp only [dget, z] at e
      have ih := KvV.get hk tl o e
      have nc : ¬ nkey (.tup xs) = nkey k := fun y => by rw [c.mp y] at z; cases z
      have ev : valueAt ((nkey (.tup xs), u) :: r) (nkey k) = valueAt r (nkey k) := by simp [valueAt, nc]
      rw [ev]; exact ih
section
variable {pins : List (Addr × Obj)} {σ : L2.St} {H : Hp} {s : Shared} {ρ : List Addr} {a : Addr}
theorem kvv_of (I : Inv X pins σ H s) (hk : X.K = Λ.K) : ∀ {es : List (NestedKey × Addr × V)} {kvs : List (PV × PV)} {xs : List (NestedKey × Addr × Value)}, KvT Λ ρ H es kvs →
    Paired (fun (p : NestedKey × Addr × V) (q : NestedKey × Addr × Value) => p.1 = q.1 ∧ p.2.1 = q.2.1 ∧ RelV p.2.2 q.2.2) es xs → KvV Λ ρ H (pairsH xs) kvs ∧ ∀ x ∈ xs, (nestedKind X.prog X.w).is s.heap x.1 x.2.1
  | _, _, _, .nil, pr => by cases pr; exact ⟨.nil, fun x hx => by cases hx⟩
  | _, _, _, .cons (xs := ks) k e r t, pr => by
    cases pr with
    | @cons _ y _ _ q pr =>
      obtain ⟨a1, a2⟩ := kvv_of I hk t pr
      obtain ⟨y1, y2, y3⟩ := y
      obtain ⟨q1, q2, q3⟩ := q
      dsimp only at q1 q2 q3
      subst q1 q2
      refine ⟨.cons k q3 r a1, fun x hx => ?_⟩
      rcases List.mem_cons.mp hx with rfl | hx
      · exact nested_of I hk 8 _ _ _ k e (show RelV (.ref _) (.ref _) from rfl)
      · exact a2 x hx
theorem td_keyed (I : Inv X pins σ H s) (hk : X.K = Λ.K) (hP : X.prog = Λ.P) (hw : X.w = Λ.w) {es : List (NestedKey × Addr × V)} {kvs : List (PV × PV)} (td : TD Λ.P Λ.w a es s.heap) (kt : KvT Λ ρ H es kvs) :
    (a == sysModules) = false ∧ ∃ xs, Heap.DictOfH (nestedKind X.prog X.w) s.heap a xs ∧ KvV Λ ρ H (pairsH xs) kvs ∧ xs.length ≤ sizeLine ∧ Paired (fun (p : NestedKey × Addr × V) (q : NestedKey × Addr × Value) => p.1 = q.1 ∧ p.2.1 = q.2.1 ∧ RelV p.2.2 q.2.2) es xs := by
  obtain ⟨h1, h2, xs, pr, o, hs, ep, e1, e2, e3, e4, e5⟩ := td
  obtain ⟨a1, a2⟩ := kvv_of I hk kt pr
  rw [← hP, ← hw] at e4
  exact ⟨h1, xs, ⟨o, hs, ep, e1, e2, e3, e4, a2, e5⟩, a1, by rw [← Paired.length pr]; exact h2, pr⟩
end
/-- what in asks -/
inductive InD (Λ : Ln) (ρ : List Addr) (H : Hp) (x y : V) (b : Bool) : Prop
  | flat (p : Addr) (xs : List V) : y = .ref p → (SqL Λ.K H p xs ∨ SqT Λ.K H p xs) → flatV x = true → xs.all flatV = true → L2.inV x xs = b → InD Λ ρ H x y b
  | sign (c : Nat) (z : Str) : x = .str ⟨#[c]⟩ → y = .str z → decide (c ∈ z.cps.toList) = b → InD Λ ρ H x y b
  | deep (d : PyData) (ds : List PyData) : Dp Λ.K H x d → Dp Λ.K H y (.list ds) → SeqAt.shaped d = true → SeqAt.shaped (.list ds) = true → ds.any (fun z => PyData.eqv z d) = b → InD Λ ρ H x y b
  | dct (a : Addr) (kvs : List (PV × PV)) (p : PV) (u : HO) : y = .ref a → Rd H a u → DObj Λ ρ H a kvs u → Rp Λ ρ H x p → keyFits p kvs = true → (dget kvs p).isSome = b → InD Λ ρ H x y b
theorem inD_of {ρ : List Addr} {H : Hp} {ah : AH} (r : RelH Λ ρ H ah) {x y : V} {p q : PV} (rp : Rp Λ ρ H x p) (rq : Rp Λ ρ H y q) {b : Bool} (h : NI.inV ah p q = some b) : InD Λ ρ H x y b := by
  cases q with
  | tup ys =>
    cases rq with
    | tup h1 h2 =>
      have h3 : (if (isFlat p && ys.all isFlat) = true then some (pin p ys) else none) = some b := h
      cases k : (isFlat p && ys.all isFlat) with
      | false => rw [k] at h3; cases h3
      | true =>
        rw [k] at h3
        cases h3
        obtain ⟨k1, k2⟩ := ba k
        exact .flat _ _ rfl (.inr h1) (flat_of rp k1) (flats_of h2 k2) (flat_in rp k1 h2 k2)
  | str t =>
    cases p with
    | str s =>
      match s, h with
      | [c], h =>
        cases h
        cases rp with
        | str x _ e1 _ _ =>
          cases rq with
          | str y _ e2 _ _ => exact .sign c y (by rw [str_of e1]) rfl (by rw [e2]; simp)
    | _ => cases h
  | obj n =>
    cases rq with
    | @obj a _ e1 =>
      have h2 : (match ah[n]? with
        | some (.lst ys) => if (isData 32 p && areData 32 ys) = true then some (pin p ys) else none
        | some (.dct kvs) => if keyFits p kvs = true then some ((dget kvs p).isSome) else none
        | some (.frd kvs) => if keyFits p kvs = true then some ((dget kvs p).isSome) else none
        | _ => none) = some b := h
      cases q1 : ah[n]? with
      | none => rw [q1] at h2; cases h2
      | some o =>
        rw [q1] at h2
        have ob := r.ob n a o e1 q1
        cases o with
        | lst ys =>
          cases k : (isData 32 p && areData 32 ys) with
          | false => simp only [k] at h2; cases h2
          | true =>
            simp only [k] at h2
            cases h2
            obtain ⟨k1, k2⟩ := ba k
            obtain ⟨xs, l1, r1⟩ := ob
            obtain ⟨a1, a2, a3⟩ := dp_of _ p x k1 rp
            obtain ⟨b1, b2, b3⟩ := dp_ofL _ ys xs k2 r1
            exact .deep _ _ a1 (.lst (SqL.of l1) b1) (shaped_of a2 (by omega)) (shaped_of (by simpa [PyData.canLay0] using b2) (by simp only [PyData.depth]; omega)) (pin_of k1 ys _ k2)
        | dct kvs =>
          obtain ⟨u, l1, r1⟩ := ob
          cases k : keyFits p kvs with
          | false => simp only [k] at h2; cases h2
          | true =>
            simp only [k] at h2
            cases h2
            exact .dct a kvs p u rfl (.inl l1) r1 rp k rfl
        | frd kvs =>
          obtain ⟨o, u, l1, r1⟩ := ob
          cases k : keyFits p kvs with
          | false => simp only [k] at h2; cases h2
          | true =>
            simp only [k] at h2
            cases h2
            exact .dct a kvs p u rfl (.inr ⟨o, l1⟩) r1 rp k rfl
        | _ => cases h2
  | _ => cases h

/-- what a dict's key asks, found: at a dict of this kind -/
theorem keyFits_or {p : PV} {kvs : List (PV × PV)} (k : keyFits p kvs = true) : (NI.keyS p = true ∧ kvs.all (fun e => NI.keyS e.1) = true) ∨ (isTup p = true ∧ keyT 8 p = true ∧ kvs.all (fun e => isTup e.1) = true) := by
  unfold keyFits at k
  rcases Bool.or_eq_true_iff.mp k with k | k
  · exact .inl (ba k)
  · obtain ⟨k1, k3⟩ := ba k
    obtain ⟨k1, k2⟩ := ba k1
    exact .inr ⟨k1, k2, k3⟩
theorem KvT.tups {ρ : List Addr} {H : Hp} : ∀ {es : List (NestedKey × Addr × V)} {kvs : List (PV × PV)}, KvT Λ ρ H es kvs → kvs.all (fun e => isTup e.1) = true
  | _, _, .nil => rfl
  | _, _, .cons _ _ _ t => by rw [List.all_cons, KvT.tups t]; rfl
theorem tup_rp {ρ : List Addr} {H : Hp} {x : V} {p : PV} (r : Rp Λ ρ H x p) (h : isTup p = true) : ∃ b, x = .ref b := by
  cases r <;> first | (simp [isTup] at h; done) | exact ⟨_, rfl⟩
section
variable {pins : List (Addr × Obj)} {σ : L2.St} {H : Hp} {s : Shared} {ρ : List Addr} {a : Addr} {y : V} {u : Value} {p : PV} {kvs : List (PV × PV)} {o : HO}
/-- the kinds of dicts as they are read with a key that fits: by values; by tuples -/
theorem dict_cases (fx : X.K = Λ.K ∧ X.prog = Λ.P ∧ X.w = Λ.w) (I : Inv X pins σ H s) (rd : Rd H a o) (d : DObj Λ ρ H a kvs o) (ry : RelV y u) (rp : Rp Λ ρ H y p) (k : keyFits p kvs = true) {C : Prop}
    (h1 : ∀ es kk, Rd H a (.dK es) → y = kV kk → RpO Λ ρ H (valV es kk) (dget kvs p) → C)
    (h2 : ∀ b xs, u = .ref b → (nestedKind X.prog X.w).is s.heap (nkey p) b → (a == sysModules) = false → Heap.DictOfH (nestedKind X.prog X.w) s.heap a xs → KvV Λ ρ H (pairsH xs) kvs → keyT 8 p = true → C) : C := by
  obtain ⟨hk, hP, hw⟩ := fx
  rcases d with ⟨es, rfl, kv⟩ | ⟨es, rfl, kv, ne⟩
  · rcases keyFits_or k with ⟨k1, _⟩ | ⟨k1, k2, k3⟩
    · obtain ⟨kk, e, rfl⟩ := key_rp rp k1
      exact h1 es kk rd rfl (KvS.get e kv)
    · -- an empty one
      cases kv with
      | nil =>
        obtain ⟨b, rfl⟩ := tup_rp rp k1
        cases ry
        obtain ⟨z, hd, vs, rel, dd⟩ := dk_rd I.hok rd
        cases rel
        obtain ⟨oo, es, ep, e1, e2, e3, _, e4, _⟩ := dd
        refine h2 b [] rfl (nested_of I hk 8 p _ _ k2 rp (show RelV (.ref _) (.ref _) from rfl)) hd ⟨oo, es, ep, e1, e2, e3, ?_, (fun x hx => nomatch hx), List.nodup_nil⟩ .nil k2
        cases hl : es.toList with
        | nil => rfl
        | cons e r => rw [hl] at e4; cases e4
      | int _ _ => simp [isTup] at k3
      | str _ _ _ _ _ => simp [isTup] at k3
  · rcases keyFits_or k with ⟨k1, k3⟩ | ⟨k1, k2, k3⟩
    · cases kv with
      | nil => exact absurd rfl ne
      | cons _ _ _ _ => simp [NI.keyS] at k3
    · obtain ⟨b, rfl⟩ := tup_rp rp k1
      cases ry
      have td : TD Λ.P Λ.w a es s.heap := by
        have x := rd.ok I.hok
        exact x.1
      obtain ⟨hd, xs, d1, d2, _, _⟩ := td_keyed I hk hP hw td kv
      exact h2 b xs rfl (nested_of I hk 8 p _ _ k2 rp (show RelV (.ref _) (.ref _) from rfl)) hd d1 d2 k2
theorem KvV.some {es : List (NestedKey × Value)} (kv : KvV Λ ρ H es kvs) (k2 : keyT 8 p = true) : (valueAt es (nkey p)).isSome = (dget kvs p).isSome := by
  have q := kv.get k2 _ rfl
  cases e : dget kvs p with
  | none => rw [e] at q; rw [q]; rfl
  | some z => rw [e] at q; obtain ⟨v, w, h1, _⟩ := q; rw [h1]; rfl
theorem dict_in {Q : Value → Shared → Prop} {E : Value → Shared → Prop} (fx : X.K = Λ.K ∧ X.prog = Λ.P ∧ X.w = Λ.w) (hu : X.A.units + 16 < cLine) (I : Inv X pins σ H s) (rd : Rd H a o) (d : DObj Λ ρ H a kvs o) (ry : RelV y u) (rp : Rp Λ ρ H y p) (k : keyFits p kvs = true)
    (h : ∀ s', Inv X pins σ H s' → Q (.bool (dget kvs p).isSome) s') : wpAny (model X.prog X.w) X.A (compareOp .In u (.ref a)) Q E s := by
  refine dict_cases fx I rd d ry rp k (fun es kk e ey l => ?_) fun b xs eu isb hd dd kv k2 => ?_
  · subst ey
    refine d_in (by omega) I (.inl ⟨es, kk, e, rfl, rfl⟩) ry fun s' I' => ?_
    rw [l.some_eq]; exact h s' I'
  · subst eu
    refine in_keyed (by show X.A.in1.units + 8 < cLine; simp only [Around.in1_units]; omega) isb hd ⟨xs, dd, rfl⟩ ?_
    rw [kv.some k2]
    exact h _ (I.tok _)
theorem dict_notIn {Q : Value → Shared → Prop} {E : Value → Shared → Prop} (fx : X.K = Λ.K ∧ X.prog = Λ.P ∧ X.w = Λ.w) (hu : X.A.units + 16 < cLine) (I : Inv X pins σ H s) (rd : Rd H a o) (d : DObj Λ ρ H a kvs o) (ry : RelV y u) (rp : Rp Λ ρ H y p) (k : keyFits p kvs = true)
    (h : ∀ s', Inv X pins σ H s' → Q (.bool (!(dget kvs p).isSome)) s') : wpAny (model X.prog X.w) X.A (compareOp .NotIn u (.ref a)) Q E s := by
  refine dict_cases fx I rd d ry rp k (fun es kk e ey l => ?_) fun b xs eu isb hd dd kv k2 => ?_
  · subst ey
    refine d_notIn (by omega) I (.inl ⟨es, kk, e, rfl, rfl⟩) ry fun s' I' => ?_
    rw [l.some_eq]; exact h s' I'
  · subst eu
    refine notIn_keyed (by show X.A.in1.units + 8 < cLine; simp only [Around.in1_units]; omega) isb hd ⟨xs, dd, rfl⟩ ?_
    rw [kv.some k2]
    exact h _ (I.tok _)
theorem dict_get {Q : Value → Shared → Prop} {E : Value → Shared → Prop} {q : PV} (fx : X.K = Λ.K ∧ X.prog = Λ.P ∧ X.w = Λ.w) (hu : X.A.units + 16 < cLine) (I : Inv X pins σ H s) (rd : Rd H a o) (d : DObj Λ ρ H a kvs o) (ry : RelV y u) (rp : Rp Λ ρ H y p) (k : keyFits p kvs = true)
    (g : dget kvs p = some q) (h : ∀ v w s', Inv X pins σ H s' → RelV v w → Rp Λ ρ H v q → Q w s') : wpAny (model X.prog X.w) X.A (getItem (.ref a) u) Q E s := by
  refine dict_cases fx I rd d ry rp k (fun es kk e ey l => ?_) fun b xs eu isb hd dd kv k2 => ?_
  · subst ey
    rw [g] at l
    cases e2 : valV es kk with
    | none => rw [e2] at l; exact l.elim
    | some v =>
      rw [e2] at l
      exact d_getItem (by omega) I (.inl ⟨es, kk, e, rfl, e2.symm⟩) ry fun w s' I' r => h v w s' I' r l
  · subst eu
    have q2 := kv.get k2 _ g
    obtain ⟨v, w, h1, h2, h3⟩ := q2
    exact getItem_keyed (by show X.A.in1.units + 8 < cLine; simp only [Around.in1_units]; omega) isb ⟨xs, dd, rfl⟩ h1 (h v w _ (I.tok _) h2 h3)
end
/-- the layer's line stands on the text's -/
structure Fx (Λ : Ln) (X : Cx) : Prop where
  k : X.K = Λ.K
  p : X.prog = Λ.P
  w : X.w = Λ.w
  u : X.A.units + 100 < cLine
theorem Fx.t {Λ : Ln} {X : Cx} (f : Fx Λ X) : X.K = Λ.K ∧ X.prog = Λ.P ∧ X.w = Λ.w := ⟨f.k, f.p, f.w⟩
theorem op_in (fx : Fx Λ X) : OpR X (compareOp .In) (fun x y H Q => ∃ ρ b, NI.InD Λ ρ H x y b ∧ Q (.bl b) H) := by
  intro pins s σ H x y v u Q I rx ry h
  obtain ⟨ρ, b, hb, q⟩ := h
  have hu := fx.u
  cases hb with
  | flat p xs h1 h2 h3 h4 h5 => exact op_in_seq pins s σ H x y v u Q I rx ry ⟨p, xs, h1, by rw [fx.k]; exact h2, h3, h4, by rw [← h5] at q; exact q⟩
  | sign c z h1 h2 h3 => exact op_in_sign pins s σ H x y v u Q I rx ry ⟨c, z, h1, h2, by rw [← h3] at q; exact q⟩
  | deep d ds h1 h2 h3 h4 h5 => exact op_inD (by omega) pins s σ H x y v u Q I rx ry ⟨d, ds, by rw [fx.k]; exact h1, by rw [fx.k]; exact h2, h3, h4, by rw [← h5] at q; exact q⟩
  | dct a kvs p o h1 h2 h3 h4 h5 h6 =>
    subst h1
    cases ry
    exact dict_in fx.t (by omega) I h2 h3 rx h4 h5 fun s' I' => ⟨.bl b, H, I', by rw [h6]; rfl, q⟩
theorem op_nin (fx : Fx Λ X) : OpR X (compareOp .NotIn) (fun x y H Q => ∃ ρ b, NI.InD Λ ρ H x y b ∧ Q (.bl (!b)) H) := by
  intro pins s σ H x y v u Q I rx ry h
  obtain ⟨ρ, b, hb, q⟩ := h
  have hu := fx.u
  cases hb with
  | flat p xs h1 h2 h3 h4 h5 => exact op_notIn_seq pins s σ H x y v u Q I rx ry ⟨p, xs, h1, by rw [fx.k]; exact h2, h3, h4, by rw [← h5] at q; exact q⟩
  | sign c z h1 h2 h3 => exact op_notIn_sign pins s σ H x y v u Q I rx ry ⟨c, z, h1, h2, by rw [← h3] at q; exact q⟩
  | deep d ds h1 h2 h3 h4 h5 => exact op_notInD (by omega) pins s σ H x y v u Q I rx ry ⟨d, ds, by rw [fx.k]; exact h1, by rw [fx.k]; exact h2, h3, h4, by rw [← h5] at q; exact q⟩
  | dct a kvs p o h1 h2 h3 h4 h5 h6 =>
    subst h1
    cases ry
    exact dict_notIn fx.t (by omega) I h2 h3 rx h4 h5 fun s' I' => ⟨.bl (!b), H, I', by rw [h6]; rfl, q⟩
/-! ### all comparisons -/
def cmpR (o : Co) (x y : PV) (h : AH) : R PV := R.ofO h ((cmpV o h x y).map PV.bl)
theorem cmp_ok {op : CmpOp} {o : Co} (fx : Fx Λ X) (ho : cCo op = some o) : OpR X (compareOp op) (rV2 Λ (cmpR o)) := by
  intro pins s σ H x y v u Q I rx ry h
  obtain ⟨E, ρ, p, q, ah, r, rp, rq, post⟩ := h
  have hu := fx.u
  obtain ⟨b, eb, pq⟩ := ofB (Q := Q) post r
  clear post
  cases op <;> cases ho
  · obtain ⟨d, e, h1, h2, h3, h4, h5⟩ := eqD_of r rp rq eb
    exact op_eqD (by omega) pins s σ H x y v u Q I rx ry ⟨d, e, by rw [fx.k]; exact h1, by rw [fx.k]; exact h2, h3, h4, by rw [h5]; exact pq⟩
  · obtain ⟨c, ec, rfl⟩ := Option.map_eq_some_iff.mp (show (eqV ah p q).map (!·) = some b from eb)
    obtain ⟨d, e, h1, h2, h3, h4, h5⟩ := eqD_of r rp rq ec
    exact op_neD (by omega) pins s σ H x y v u Q I rx ry ⟨d, e, by rw [fx.k]; exact h1, by rw [fx.k]; exact h2, h3, h4, by rw [h5]; exact pq⟩
  · have e2 : (if (isData dataMax p && isData dataMax q && alike p q) = true then some (plt p q) else none) = some b := eb
    cases k : (isData dataMax p && isData dataMax q && alike p q) with
    | false => rw [k] at e2; cases e2
    | true =>
      rw [k] at e2
      cases e2
      obtain ⟨k, k3⟩ := ba k
      obtain ⟨k1, k2⟩ := ba k
      obtain ⟨a1, a2, a3⟩ := dp_of _ p x k1 rp
      obtain ⟨b1, b2, b3⟩ := dp_of _ q y k2 rq
      exact op_ltD (by omega) pins s σ H x y v u Q I rx ry ⟨_, _, by rw [fx.k]; exact a1, by rw [fx.k]; exact b1, shaped_of a2 a3, shaped_of b2 b3, alike_of p q k3, alike_not_none k3, by rw [lt_of p q _ _ k1 k2 k3]; exact pq⟩
  · cases p <;> cases q <;> first | (exact nomatch (show (none : Option Bool) = some b from eb)) | skip
    cases rp; cases rq; cases eb
    exact op_le pins s σ H _ _ v u Q I rx ry ⟨_, _, rfl, rfl, pq⟩
  · cases p <;> cases q <;> first | (exact nomatch (show (none : Option Bool) = some b from eb)) | skip
    cases rp; cases rq; cases eb
    exact op_gt pins s σ H _ _ v u Q I rx ry ⟨_, _, rfl, rfl, pq⟩
  · cases p <;> cases q <;> first | (exact nomatch (show (none : Option Bool) = some b from eb)) | skip
    cases rp; cases rq; cases eb
    exact op_ge pins s σ H _ _ v u Q I rx ry ⟨_, _, rfl, rfl, pq⟩
  · cases q <;> first | (exact nomatch (show (none : Option Bool) = some b from eb)) | skip
    cases rq
    cases rp <;> cases eb <;> exact op_isN pins s σ H _ _ v u Q I rx ry ⟨rfl, pq⟩
  · cases q <;> first | (exact nomatch (show (none : Option Bool) = some b from eb)) | skip
    cases rq
    cases rp <;> cases eb <;> exact op_notN pins s σ H _ _ v u Q I rx ry ⟨rfl, pq⟩
  · exact op_in fx pins s σ H x y v u Q I rx ry ⟨ρ, b, inD_of r rp rq eb, pq⟩
  · obtain ⟨c, ec, rfl⟩ := Option.map_eq_some_iff.mp (show (NI.inV ah p q).map (!·) = some b from eb)
    exact op_nin fx pins s σ H x y v u Q I rx ry ⟨ρ, c, inD_of r rp rq ec, pq⟩
end
end NI
end

section
set_option Elab.async false
set_option autoImplicit false
set_option linter.all false
set_option maxRecDepth 100000
set_option maxHeartbeats 2000000
/-! Expressions, node by node. -/
namespace NI
open PySem PySem.Spec PyProof.Rows L2
section
variable {Λ : Ln} {X : Cx} {W : WX} {a b c e : PySem.Expr} {dA dB dC : Sg → AH → R PV} {pos : Pos}
/-- an expression as a value and as a test -/
structure PV' (Λ : Ln) (X : Cx) (W : WX) (e : PySem.Expr) (d : Sg → AH → R PV) : Prop where
  v : PE X e (tV Λ W d)
  t : PT X e (tB (tV Λ W d))
theorem pv_plain (h : PE X e (tV Λ W dA)) (he : ∀ whole, isTrue e X.env whole = (do let v ← whole; standAt e.pos; holding [v] (truthy v))) : PV' Λ X W e dA := ⟨h, pt_val h he⟩
theorem tV.bind {σV : L2.St} {H : Hp} {Q : VK} {f : PV → Sg → AH → R PV} (h : tV Λ W (fun σ h => (dA σ h).bind fun x h => f x σ h) σV H Q) :
    tV Λ W dA σV H fun x H1 => ∃ ρ p σ ah, RelH Λ ρ H1 ah ∧ RelS Λ ρ σV H1 σ ∧ Rp Λ ρ H1 x p ∧ Post Λ (fun c d H' => W c d σV H') (Rp Λ) ρ H1 (f p σ ah) Q := by
  obtain ⟨ρ, σ, ah, r, rs, post⟩ := h
  exact ⟨ρ, σ, ah, r, rs, post.bind.imp fun x H1 ⟨ρ1, p, ah1, s1, r1, rp, _, q⟩ => ⟨ρ1, p, σ, ah1, r1, rs.mono s1 r.nt, rp, q⟩⟩
theorem tV.mk {σV : L2.St} {H : Hp} {Q : VK} {ρ : List Addr} {σ : Sg} {ah : AH} (r : RelH Λ ρ H ah) (rs : RelS Λ ρ σV H σ) (p : Post Λ (fun c d H' => W c d σV H') (Rp Λ) ρ H (dA σ ah) Q) : tV Λ W dA σV H Q := ⟨ρ, σ, ah, r, rs, p⟩
/-- two values, an operation -/
theorem tV.two {σV : L2.St} {H : Hp} {Q : VK} {f : PV → PV → AH → R PV} (h : tV Λ W (fun σ h => (dA σ h).bind fun x h => (dB σ h).bind fun y h => f x y h) σV H Q) : tOp (rV2 Λ f) (tV Λ W dA) (tV Λ W dB) σV H Q := by
  obtain ⟨ρ, σ, ah, r, rs, post⟩ := h
  exact ⟨ρ, σ, ah, r, rs, post.bind.imp fun x H1 ⟨ρ1, p, ah1, s1, r1, rp, _, q⟩ => ⟨ρ1, σ, ah1, r1, rs.mono s1 r.nt, q.bind.imp fun y H2 ⟨ρ2, p2, ah2, s2, r2, rp2, _, q2⟩ => ⟨_, ρ2, p, p2, ah2, r2, s2.rp r1.nt rp, rp2, q2⟩⟩⟩
theorem cBo_or {op : Operator} {o : Bo} (h : cBo op = some o) : (op = .Add ∧ o = .add) ∨ (op = .Sub ∧ o = .sub) ∨ (op = .Mult ∧ o = .mul) ∨ (op = .FloorDiv ∧ o = .fdiv) ∨ (op = .Mod ∧ o = .mod) ∨ (op = .Pow ∧ o = .pow) := by
  cases op <;> simp [cBo] at h <;> subst h <;> simp
theorem n_bin {op : Operator} {o : Bo} (hk : X.K = Λ.K) (ho : cBo op = some o) (ha : PE X a (tV Λ W dA)) (hb : PE X b (tV Λ W dB)) :
    PE X (.BinOp a op b pos) (tV Λ W fun σ h => (dA σ h).bind fun x h => (dB σ h).bind fun y h => binV o x y h) :=
  (pe_op (bin_ok hk (cBo_or ho)) ha hb).mono fun _ _ _ h => h.two
theorem n_cmp {op : CmpOp} {o : Co} (fx : Fx Λ X) (ho : cCo op = some o) (ha : PE X a (tV Λ W dA)) (hb : PE X b (tV Λ W dB)) (hm : behindInMarks op b = false) :
    PV' Λ X W (.Compare a [op] [b] pos) (fun σ h => (dA σ h).bind fun x h => (dB σ h).bind fun y h => cmpR o x y h) :=
  ⟨(pe_cmpR (cmp_ok fx ho) ha hb hm).mono fun _ _ _ h => h.two, (pt_cmpR (cmp_ok fx ho) ha hb hm).mono fun σ H Q h => tV.two (show tV Λ W _ σ H _ from h)⟩
def chnD (o1 o2 : Co) (dA dB dC : Sg → AH → R PV) : Sg → AH → R PV := fun σ h => (dA σ h).bind fun x h => (dB σ h).bind fun y h => match cmpV o1 h x y with
  | some true => (dC σ h).bind fun z h => R.ofO h ((cmpV o2 h y z).map PV.bl)
  | some false => .ok (.bl false) h
  | none => .no
theorem tV.chn {o1 o2 : Co} {σV : L2.St} {H : Hp} {Q : VK} (h : tV Λ W (chnD o1 o2 dA dB dC) σV H Q) : tChain (rV2 Λ (cmpR o1)) (rV2 Λ (cmpR o2)) (tV Λ W dA) (tV Λ W dB) (tV Λ W dC) σV H Q := by
  obtain ⟨ρ, σ, ah, r, rs, post⟩ := h
  refine ⟨ρ, σ, ah, r, rs, (Post.bind post).imp fun x H1 ⟨ρ1, p, ah1, s1, r1, rp, _, q⟩ => ⟨ρ1, σ, ah1, r1, rs.mono s1 r.nt, q.bind.imp fun y H2 ⟨ρ2, p2, ah2, s2, r2, rp2, _, q2⟩ => ?_⟩⟩
  have rs2 := (rs.mono s1 r.nt).mono s2 r1.nt
  refine ⟨(fun _ _ _ => False), ρ2, p, p2, ah2, r2, s2.rp r1.nt rp, rp2, ?_⟩
  cases e : cmpV o1 ah2 p p2 with
  | none => simp only [e] at q2; exact q2.elim
  | some k =>
    simp only [e] at q2
    unfold cmpR
    rw [e]
    cases k with
    | false => exact fun ρ3 H3 v s3 r3 rp3 => ⟨false, by cases rp3; rfl, q2 ρ3 H3 _ s3 r3 (.bl false)⟩
    | true =>
      intro ρ3 H3 v s3 r3 rp3
      refine ⟨true, by cases rp3; rfl, ?_⟩
      exact ⟨ρ3, σ, ah2, r3, rs2.mono s3 r2.nt, (q2.step s3).bind.imp fun z H4 ⟨ρ4, p4, ah4, s4, r4, rp4, _, q4⟩ => ⟨_, ρ4, p2, p4, ah4, r4, s4.rp r3.nt (s3.rp r2.nt rp2), rp4, q4⟩⟩
theorem n_chn {op op' : CmpOp} {o1 o2 : Co} (fx : Fx Λ X) (h1 : cCo op = some o1) (h2 : cCo op' = some o2) (ha : PE X a (tV Λ W dA)) (hb : PE X b (tV Λ W dB)) (hc : PE X c (tV Λ W dC)) (hm : lastMarks [op, op'] [b, c] = false) :
    PV' Λ X W (.Compare a [op, op'] [b, c] pos) (chnD o1 o2 dA dB dC) :=
  ⟨(pe_chain (cmp_ok fx h1) (cmp_ok fx h2) ha hb hc hm).mono fun _ _ _ h => h.chn, (pt_chain (cmp_ok fx h1) (cmp_ok fx h2) ha hb hc hm).mono fun σ H Q h => tV.chn (show tV Λ W _ σ H _ from h)⟩
/-! ### truths -/
def notD (dA : Sg → AH → R PV) : Sg → AH → R PV := fun σ h => (dA σ h).bind fun x h => match x with
  | .bl b => .ok (.bl (!b)) h
  | _ => .no
def andD (dA dB : Sg → AH → R PV) : Sg → AH → R PV := fun σ h => (dA σ h).bind fun x h => match x with
  | .bl true => dB σ h
  | .bl false => .ok (.bl false) h
  | _ => .no
def orD (dA dB : Sg → AH → R PV) : Sg → AH → R PV := fun σ h => (dA σ h).bind fun x h => match x with
  | .bl true => .ok (.bl true) h
  | .bl false => dB σ h
  | _ => .no
def iteD (dC dA dB : Sg → AH → R PV) : Sg → AH → R PV := fun σ h => (dC σ h).bind fun x h => match x with
  | .bl true => dA σ h
  | .bl false => dB σ h
  | _ => .no
theorem tV.imp {σV : L2.St} {H : Hp} {Q Q' : VK} (h : tV Λ W dA σV H Q) (i : ∀ v H', Q v H' → Q' v H') : tV Λ W dA σV H Q' := by
  obtain ⟨ρ, σ, ah, r, rs, post⟩ := h
  exact ⟨ρ, σ, ah, r, rs, post.imp i⟩
/-- a truth decides -/
theorem tV.tru {σV : L2.St} {H : Hp} {Q : VK} {f : Bool → Sg → AH → R PV} (h : tV Λ W (fun σ h => (dA σ h).bind fun x h => match x with
    | .bl b => f b σ h
    | _ => .no) σV H Q) : tV Λ W dA σV H fun x H1 => ∃ k, x = .bl k ∧ tV Λ W (f k) σV H1 Q := by
  refine (tV.bind h).imp fun x H1 ⟨ρ, p, σ, ah, r, rs, rp, post⟩ => ?_
  cases p with
  | bl k => cases rp; exact ⟨k, rfl, ρ, σ, ah, r, rs, post⟩
  | _ => exact post.elim
theorem notD_eq (dA : Sg → AH → R PV) : notD dA = fun σ h => (dA σ h).bind fun x h => match x with
    | .bl b => (fun b (_ : Sg) h => R.ok (.bl (!b)) h) b σ h
    | _ => .no := rfl
def bR (dT dF : Sg → AH → R PV) : Bool → Sg → AH → R PV := fun b => match b with
  | true => dT
  | false => dF
theorem sel_eq (dA dT dF : Sg → AH → R PV) : (fun σ h => (dA σ h).bind fun x h => match x with
    | .bl true => dT σ h
    | .bl false => dF σ h
    | _ => .no) = fun σ h => (dA σ h).bind fun x h => match x with
    | .bl b => bR dT dF b σ h
    | _ => .no := by
  funext σ h
  congr 1
  funext x h
  cases x with
  | bl b => cases b <;> rfl
  | _ => rfl
theorem tV.sel {σV : L2.St} {H : Hp} {Q : VK} (h : tV Λ W (fun σ h => (dC σ h).bind fun x h => match x with
    | .bl true => dA σ h
    | .bl false => dB σ h
    | _ => .no) σV H Q) : tV Λ W dC σV H fun x H1 => ∃ k, x = .bl k ∧ if k = true then tV Λ W dA σV H1 Q else tV Λ W dB σV H1 Q := by
  rw [sel_eq] at h
  exact (tV.tru h).imp fun x H1 ⟨k, e, q⟩ => ⟨k, e, by cases k <;> exact q⟩
theorem tV.okQ {σV : L2.St} {H : Hp} {Q : VK} {p : PV} {v : V} (h : tV Λ W (fun _ h => .ok p h) σV H Q) (rv : ∀ ρ, Rp Λ ρ H v p) : Q v H := by
  obtain ⟨ρ, σ, ah, r, rs, post⟩ := h
  exact post ρ H v Stp.refl r (rv ρ)
theorem n_not (ha : PV' Λ X W a dA) : PV' Λ X W (.UnaryOp .Not a pos) (notD dA) := by
  refine ⟨(pe_not ha.v).mono fun σ H Q h => ?_, (pt_not ha.t).mono fun σ H Q h => ?_⟩
  · rw [notD_eq] at h
    exact (tV.tru h).imp fun x H1 ⟨k, e, q⟩ => ⟨k, e, tV.okQ q fun _ => .bl _⟩
  · have h : tV Λ W (notD dA) σ H _ := h
    rw [notD_eq] at h
    refine (tV.tru h).imp fun x H1 ⟨k, e, q⟩ => ⟨k, e, ?_⟩
    obtain ⟨c, e2, q2⟩ := tV.okQ q (fun _ => Rp.bl (!k))
    cases e2
    exact q2
theorem n_ite (hc : PV' Λ X W c dC) (ha : PV' Λ X W a dA) (hb : PV' Λ X W b dB) : PV' Λ X W (.IfExp c a b pos) (iteD dC dA dB) := by
  refine ⟨(pe_ifExp hc.t ha.v hb.v).mono fun σ H Q h => tV.sel h, ⟨fun pins s σ H Q I h => ?_⟩⟩
  have h : tV Λ W (iteD dC dA dB) σ H fun x H1 => ∃ k, x = .bl k ∧ Q k H1 := h
  have e : ∀ whole, isTrue (.IfExp c a b pos) X.env whole = (do if ← isTrue c X.env (eval c X.env) then isTrue a X.env (eval a X.env) else isTrue b X.env (eval b X.env)) := fun _ => rfl
  rw [e]
  refine wpAny_bind (thn (hc.t.run pins s σ H (fun k H1 => if k = true then tV Λ W dA σ H1 fun x H1 => ∃ k, x = .bl k ∧ Q k H1 else tV Λ W dB σ H1 fun x H1 => ∃ k, x = .bl k ∧ Q k H1) I (tV.sel h)) fun d s1 ⟨H1, I1, q1⟩ => ?_)
  cases d with
  | true => exact ha.t.run pins s1 σ H1 _ I1 q1
  | false => exact hb.t.run pins s1 σ H1 _ I1 q1
/-- a row of and, or -/
structure PB (Λ : Ln) (X : Cx) (W : WX) (op : BoolOp) (es : List PySem.Expr) (d : Sg → AH → R PV) : Prop where
  v : ∀ pos, PE X (.BoolOp op es pos) (tV Λ W d)
  t : ∀ pos, PW X (.BoolOp op es pos) (tB (tV Λ W d))
theorem PB.pv {op : BoolOp} {es : List PySem.Expr} (h : PB Λ X W op es dA) : PV' Λ X W (.BoolOp op es pos) dA := ⟨h.v _, (h.t _).pt⟩
theorem pb_and1 (ha : PV' Λ X W a dA) : PB Λ X W .And [a] dA := ⟨fun _ => pe_one ha.v, fun _ => pw_and1 ha.t⟩
theorem pb_or1 (ha : PV' Λ X W a dA) : PB Λ X W .Or [a] dA := ⟨fun _ => pe_one ha.v, fun _ => pw_or1 ha.t⟩
theorem _root_.L2.PW.mono {X : Cx} {e : PySem.Expr} {t t' : TT} (h : PW X e t) (m : ∀ σ H Q, t' σ H Q → t σ H Q) : PW X e t' := ⟨fun wh pins s σ H Q I q => h.run wh pins s σ H Q I (m σ H Q q)⟩
theorem n_and {r : List PySem.Expr} (ha : PV' Λ X W a dA) (hb : PB Λ X W .And (b :: r) dB) : PB Λ X W .And (a :: b :: r) (andD dA dB) := by
  refine ⟨fun pos => (pe_and ha.v (hb.v pos)).mono fun σ H Q h => ?_, fun pos => (pw_and ha.t (hb.t pos)).mono fun σ H Q h => ?_⟩
  · refine (tV.sel h).imp fun x H1 ⟨k, e, q⟩ => ⟨k, e, ?_⟩
    cases k with
    | true => exact q
    | false => exact tV.okQ q fun _ => .bl _
  · have h : tV Λ W (andD dA dB) σ H _ := h
    refine (tV.sel h).imp fun x H1 ⟨k, e, q⟩ => ⟨k, e, ?_⟩
    cases k with
    | true => exact q
    | false =>
      obtain ⟨c, e2, q2⟩ := tV.okQ q (fun _ => Rp.bl false)
      cases e2
      exact q2
theorem n_or {r : List PySem.Expr} (ha : PV' Λ X W a dA) (hb : PB Λ X W .Or (b :: r) dB) : PB Λ X W .Or (a :: b :: r) (orD dA dB) := by
  refine ⟨fun pos => (pe_or ha.v (hb.v pos)).mono fun σ H Q h => ?_, fun pos => (pw_or ha.t (hb.t pos)).mono fun σ H Q h => ?_⟩
  · refine (tV.sel h).imp fun x H1 ⟨k, e, q⟩ => ⟨k, e, ?_⟩
    cases k with
    | false => exact q
    | true => exact tV.okQ q fun _ => .bl _
  · have h : tV Λ W (orD dA dB) σ H _ := h
    refine (tV.sel h).imp fun x H1 ⟨k, e, q⟩ => ⟨k, e, ?_⟩
    cases k with
    | false => exact q
    | true =>
      obtain ⟨c, e2, q2⟩ := tV.okQ q (fun _ => Rp.bl true)
      cases e2
      exact q2
/-! ### atoms -/
theorem n_var {i : Nat} {x : Str} (hN : X.N[i]? = some x) (hv : Vis X.env.scope x) (hd : (x == ("__debug__" : Str)) = false) (hcd : (x == ("__classdict__" : Str)) = false) : PV' Λ X W (.Name x pos) (fun σ h => R.ofO h (sget σ i)) :=
  pv_plain ((pe_var hN hv hd hcd).mono fun σ H Q ⟨ρ, sg, ah, r, rs, post⟩ => by
    obtain ⟨p, e, post⟩ := Post.ofO post
    obtain ⟨v, ev, rv⟩ := rs.sget e
    exact ⟨v, ev, post ρ H v Stp.refl r rv⟩) fun _ => rfl
theorem n_con {k : Const} {j : Bool} {p : PV} (h : cConst k = some p) (hs : ∀ x, k = .str x → PyData.strOk x = true ∧ x.length ≤ sizeLine) {jj} : PV' Λ X W (.Constant k jj pos) (fun _ h => .ok p h) := by
  refine pv_plain ?_ fun _ => rfl
  cases k with
  | none => cases h; exact pe_non.mono fun σ H Q h => tV.okQ h fun _ => .non
  | bool b => cases h; exact pe_bl.mono fun σ H Q h => tV.okQ h fun _ => .bl b
  | int i => cases h; exact pe_int.mono fun σ H Q h => tV.okQ h fun _ => .int i
  | str x =>
    cases h
    obtain ⟨h1, h2⟩ := hs x rfl
    exact pe_str.mono fun σ H Q h => tV.okQ h fun _ => .str x _ rfl h1 h2
  | _ => cases h
/-- a global that stands for a value -/
theorem n_glob {x : Str} {v : V} {u : Value} {p : PV} (hg : Gl X x) (hm : X.mg x = some u) (r : RelV v u) (hp : ∀ ρ H, Rp Λ ρ H v p) (hd : (x == ("__debug__" : Str)) = false) : PV' Λ X W (.Name x pos) (fun _ h => .ok p h) :=
  pv_plain ((pe_glob hg hm r hd).mono fun σ H Q h => tV.okQ h fun _ => hp _ _) fun _ => rfl
theorem n_neg (ha : PE X a (tV Λ W dA)) : PV' Λ X W (.UnaryOp .USub a pos) (fun σ h => (dA σ h).bind fun x h => match x with
    | .int i => .ok (.int (-i)) h
    | _ => .no) :=
  pv_plain ((pe_un un_neg ha).mono fun σ H Q h => (tV.bind h).imp fun x H1 ⟨ρ, p, σ, ah, r, rs, rp, post⟩ => by
    cases p with
    | int i => cases rp; exact ⟨i, rfl, post ρ H1 _ Stp.refl r (.int _)⟩
    | _ => exact post.elim) fun _ => rfl
end
end NI
end

section
set_option Elab.async false
set_option autoImplicit false
set_option linter.all false
set_option maxRecDepth 100000
set_option maxHeartbeats 2000000
/-! Rows of arguments, subscripts, slices, fields, displays. -/
namespace NI
open PySem PySem.Spec PyProof.Rows L2
section
variable {Λ : Ln} {X : Cx} {W : WX} {a b c e : PySem.Expr} {es : List PySem.Expr} {dA dB dC : Sg → AH → R PV} {dL : Sg → AH → R (List PV)} {pos : Pos}
def isStar : PySem.Expr → Bool
  | .Starred _ _ => true
  | _ => false
theorem starEach_no {env : Env} (h : isStar e = false) : starEach (e :: es) env = (false, eval e env) :: starEach es env := by
  cases e <;> first | rfl | (simp [isStar] at h)
theorem a_nil : PA X [] (tVs Λ W fun _ h => .ok [] h) := pa_nil.mono fun σ H Q ⟨ρ, sg, ah, r, rs, post⟩ => post ρ H [] Stp.refl r .nil
def consD (dA : Sg → AH → R PV) (dL : Sg → AH → R (List PV)) : Sg → AH → R (List PV) := fun σ h => (dA σ h).bind fun x h => (dL σ h).bind fun vs h => .ok (x :: vs) h
theorem a_cons (ha : PE X e (tV Λ W dA)) (hr : PA X es (tVs Λ W dL)) (hs : isStar e = false) : PA X (e :: es) (tVs Λ W (consD dA dL)) :=
  (pa_cons ha hr (starEach_no hs)).mono fun σV H Q ⟨ρ, σ, ah, r, rs, post⟩ =>
    ⟨ρ, σ, ah, r, rs, (Post.bind post).imp fun x H1 ⟨ρ1, p, ah1, s1, r1, rp, _, q⟩ => ⟨ρ1, σ, ah1, r1, rs.mono s1 r.nt, (Post.bind q).imp fun xs H2 ⟨ρ2, ps, ah2, s2, r2, rps, _, q2⟩ => q2 ρ2 H2 (x :: xs) Stp.refl r2 (.cons (s2.rp r1.nt rp) rps)⟩⟩
def starD (dA : Sg → AH → R PV) (dL : Sg → AH → R (List PV)) : Sg → AH → R (List PV) := fun σ h => ((dA σ h).bind fun x h => match x with
      | .tup xs => .ok xs h
      | _ => .no).bind fun xs h => (dL σ h).bind fun vs h => .ok (xs ++ vs) h
theorem R.bind_assoc {α β γ : Type} (x : R α) (f : α → AH → R β) (g : β → AH → R γ) : (x.bind f).bind g = x.bind fun a h => (f a h).bind g := by cases x <;> rfl
theorem a_star {p : Pos} (hk : X.K = Λ.K) (ha : PE X e (tV Λ W dA)) (hr : PA X es (tVs Λ W dL)) : PA X (.Starred e p :: es) (tVs Λ W (starD dA dL)) :=
  (StX.pa_star ha hr rfl).mono fun σV H Q ⟨ρ, σ, ah, r, rs, post⟩ => by
    unfold starD at post
    rw [R.bind_assoc] at post
    refine ⟨ρ, σ, ah, r, rs, (Post.bind post).imp fun x H1 ⟨ρ1, q, ah1, s1, r1, rp, _, q1⟩ => ?_⟩
    cases q with
    | tup ys =>
      cases rp with
      | tup h1 h2 =>
        have q1 : Post Λ (fun c d H' => W c d σV H') (RpL Λ) ρ1 H1 ((dL σ ah1).bind fun vs h => .ok (ys ++ vs) h) Q := q1
        refine ⟨_, _, rfl, .inl (by rw [hk]; exact h1), ρ1, σ, ah1, r1, rs.mono s1 r.nt, (Post.bind (R1 := RpL Λ) q1).imp fun xs H2 ⟨ρ2, ps, ah2, s2, r2, rps, _, q2⟩ => q2 ρ2 H2 _ Stp.refl r2 ((s2.rpL r1.nt h2).append rps)⟩
    | _ => exact q1.elim
def tupD (dL : Sg → AH → R (List PV)) : Sg → AH → R PV := fun σ h => (dL σ h).bind fun vs h => if fits vs.length then .ok (.tup vs) h else .no
theorem n_tup {k : Nat} (h : PA X es (tVs Λ W dL)) : PV' Λ X W (.Tuple es k pos) (tupD dL) :=
  pv_plain ((pe_tup h).mono fun σV H Q ⟨ρ, σ, ah, r, rs, post⟩ => ⟨ρ, σ, ah, r, rs, (Post.bind post).imp fun xs H1 ⟨ρ1, ps, ah1, s1, r1, rps, _, q⟩ => by
    obtain ⟨hf, q⟩ := iteR q
    refine ⟨by rw [rps.length]; exact fits_le hf, fun p hp => ?_⟩
    have s2 : Stp ρ1 H1 ρ1 (upd H1 p (.tup xs)) := Stp.fresh hp _
    exact q ρ1 _ _ s2 (r1.fresh hp _) (.tup (SqT.of upd_same) (s2.rpL r1.nt rps))⟩) fun _ => rfl
/-! ### subscripts -/
theorem ixOf_eq (i : Int) (n : Nat) : ixOf i n = ixN n i := rfl
theorem atI_rp {ρ : List Addr} {H : Hp} {xs : List V} {ps : List PV} {i : Int} {p : PV} (r : RpL Λ ρ H xs ps) (e : ((ixOf i ps.length).bind fun k => ps[k]?) = some p) : ∃ v, atI xs i = some v ∧ Rp Λ ρ H v p := by
  obtain ⟨k, e1, e2⟩ := Option.bind_eq_some_iff.mp e
  obtain ⟨v, e3, rv⟩ := r.get e2
  refine ⟨v, ?_, rv⟩
  unfold atI
  rw [r.length, ← ixOf_eq, e1]
  exact e3
def rIxDic (Λ : Ln) : R2 := fun x y H Q => ∃ ρ a o kvs p q, x = .ref a ∧ Rd H a o ∧ DObj Λ ρ H a kvs o ∧ Rp Λ ρ H y p ∧ keyFits p kvs = true ∧ dget kvs p = some q ∧ ∀ v, Rp Λ ρ H v q → Q v H
theorem subTail_of {prog : Program} {w : World} {A : Around} {E : Value → Shared → Prop} {s₂ : Shared} {value slice : PySem.Expr} {T id : String} {o i : Value} {Q : Value → Shared → Prop}
    (hl : typeLookup (.type T) "__getitem__" = pure (some (.builtin id))) (hs : subscripted slice false o i = operate [o, i] (getItem o i)) (hT : s₂.TypeIs o T) (h₂ : wpAny (model prog w) A (getItem o i) Q E s₂) :
    wpAny (model prog w) A (subscriptTail value slice o i) Q E s₂ := by
  unfold subscriptTail
  refine wpAny_bind ?_
  rw [getitemInPython_of_ne hT.not_modules]
  refine wpAny_bind (wpAny_specialOf hT hl ?_)
  have fin : wpAny (model prog w) A (subscripted slice false o i) (fun r s₃ => wpAny (model prog w) A (letTemporaryGo value o r >>= fun _ => pure r) Q E s₃) E s₂ := by
    rw [hs]
    exact wpAny_operating (wpAny_mono h₂ (fun r s₃ h₃ => wpAny_bind (wpAny_letTemporaryGo (wpAny_pure h₃))) fun _ _ x => x)
  first
    | exact wpAny_pure (wpAny_bind fin)
    | exact wpAny_bind (wpAny_pure (wpAny_bind fin))
    | exact wpAny_bind fin
theorem dobj_typeIs {pins : List (Addr × Obj)} {σ : L2.St} {H : Hp} {s : Shared} {ρ : List Addr} {a : Addr} {kvs : List (PV × PV)} {o : HO} (I : Inv X pins σ H s) (rd : Rd H a o) (d : DObj Λ ρ H a kvs o) : s.TypeIs (.ref a) "dict" := by
  rcases d with ⟨es, rfl, _⟩ | ⟨es, rfl, _⟩
  · obtain ⟨_, _, vs, _, dd⟩ := dk_rd I.hok rd
    exact dd.typeIs
  · obtain ⟨_, _, xs, _, o, hs, ep, e1, e2, _⟩ := (rd.ok I.hok : ObjOk X.prog X.w H s.heap a (.ext _)).1
    exact ⟨o, e1, e2.1⟩
theorem ix_dic (fx : Fx Λ X) : IxR X (rIxDic Λ) := by
  intro value slice pins s σ H x y v u Q I rx ry h hs
  obtain ⟨ρ, a, o, kvs, p, q, rfl, rd, d, rp, k, g, hq⟩ := h
  cases rx
  have hu := fx.u
  exact subTail_of PySem.F.slot_dict_getitem.lookup hs (dobj_typeIs I rd d) (dict_get fx.t (by omega) I rd d ry rp k g fun v w s' I' rv rq => ⟨v, H, I', rv, hq v rq⟩)
theorem ix_all (fx : Fx Λ X) : IxR X (rV2 Λ fun x y h => R.ofO h (ixV h x y)) := by
  intro value slice pins s σ H x y v u Q I rx ry h hs
  obtain ⟨E, ρ, p, q, ah, r, rp, rq, post⟩ := h
  obtain ⟨z, ez, post⟩ := Post.ofO post
  have fin : ∀ v, Rp Λ ρ H v z → Q v H := fun v rv => post ρ H v Stp.refl r rv
  cases p with
  | tup xs =>
    cases q with
    | int i =>
      cases rp with
      | tup h1 h2 =>
        cases rq
        obtain ⟨w, ew, rw'⟩ := atI_rp h2 ez
        exact ix_tup value slice pins s σ H _ _ v u Q I rx ry ⟨_, _, i, w, rfl, rfl, by rw [fx.k]; exact h1, ew, fin w rw'⟩ hs
    | _ => cases ez
  | str t =>
    cases q with
    | int i =>
      cases rp with
      | str x _ e1 k1 l1 =>
        cases rq
        obtain ⟨k, e2, e3⟩ := Option.bind_eq_some_iff.mp (show ((ixOf i t.length).bind fun k => (t[k]?).map fun c => PV.str [c]) = some z from ez)
        obtain ⟨c, e4, rfl⟩ := Option.map_eq_some_iff.mp e3
        have ea : atI x.cps.toList i = some c := by
          unfold atI
          rw [e1, ← ixOf_eq, e2]; exact e4
        have hc : PyData.strOk ⟨#[c]⟩ = true := by
          have : x.cps.all _ = true := k1
          rw [← Array.all_toList, e1] at this
          have h2 := List.all_eq_true.mp this c (List.mem_of_getElem? e4)
          show (#[c] : Array Nat).all _ = true
          simpa using h2
        refine ix_str value slice pins s σ H _ _ v u Q I rx ry ⟨x, i, c, rfl, rfl, l1, ea, fin _ (.str _ _ rfl hc ?_)⟩ hs
        show 1 ≤ sizeLine
        decide
    | _ => cases ez
  | obj n =>
    cases rp with
    | @obj pa _ e1 =>
      have e2 : (match ah[n]? with
        | some (.lst xs) => (match (generalizing := false) q with
          | .int i => (ixOf i xs.length).bind fun k => xs[k]?
          | _ => none)
        | some (.frz xs) => (match (generalizing := false) q with
          | .int i => (ixOf i xs.length).bind fun k => xs[k]?
          | _ => none)
        | some (.dct kvs) => if keyFits q kvs = true then dget kvs q else none
        | some (.frd kvs) => if keyFits q kvs = true then dget kvs q else none
        | _ => none) = some z := ez
      cases q1 : ah[n]? with
      | none => rw [q1] at e2; cases e2
      | some o =>
        rw [q1] at e2
        have ob := r.ob n pa o e1 q1
        cases o with
        | lst xs =>
          cases q with
          | int i =>
            cases rq
            obtain ⟨ys, l1, r1⟩ := ob
            obtain ⟨w, ew, rw'⟩ := atI_rp r1 e2
            exact ix_list value slice pins s σ H _ _ v u Q I rx ry ⟨_, _, i, w, rfl, rfl, SqL.of l1, ew, fin w rw'⟩ hs
          | _ => cases e2
        | frz xs =>
          cases q with
          | int i =>
            cases rq
            obtain ⟨ys, o, l1, r1⟩ := ob
            obtain ⟨w, ew, rw'⟩ := atI_rp r1 e2
            exact ix_list value slice pins s σ H _ _ v u Q I rx ry ⟨_, _, i, w, rfl, rfl, .inl (.inr ⟨o, l1⟩), ew, fin w rw'⟩ hs
          | _ => cases e2
        | dct kvs =>
          obtain ⟨o, l1, d⟩ := ob
          cases k : keyFits q kvs with
          | false => simp only [k] at e2; cases e2
          | true =>
            simp only [k] at e2
            exact ix_dic fx value slice pins s σ H _ _ v u Q I rx ry ⟨ρ, pa, o, kvs, q, z, rfl, .inl l1, d, rq, k, e2, fin⟩ hs
        | frd kvs =>
          obtain ⟨oo, o, l1, d⟩ := ob
          cases k : keyFits q kvs with
          | false => simp only [k] at e2; cases e2
          | true =>
            simp only [k] at e2
            exact ix_dic fx value slice pins s σ H _ _ v u Q I rx ry ⟨ρ, pa, o, kvs, q, z, rfl, .inr ⟨oo, l1⟩, d, rq, k, e2, fin⟩ hs
        | _ => cases e2
  | _ => cases ez
theorem n_ix (fx : Fx Λ X) (ha : PE X a (tV Λ W dA)) (hb : PE X b (tV Λ W dB)) (hs : PlainIx b) : PV' Λ X W (.Subscript a b pos) (fun σ h => (dA σ h).bind fun x h => (dB σ h).bind fun y h => R.ofO h (ixV h x y)) :=
  pv_plain ((pe_ix (ix_all fx) ha hb hs).mono fun σ H Q h => h.two) fun _ => rfl
/-! ### slices -/
def tO (Λ : Ln) (W : WX) (D : Sg → AH → R (Option Int)) : TO := fun σV H Q => ∃ ρ σ ah, RelH Λ ρ H ah ∧ RelS Λ ρ σV H σ ∧ Post Λ (fun c d H' => W c d σV H') (fun _ _ o o' => o = o') ρ H (D σ ah) Q
theorem _root_.L2.PO.mono {X : Cx} {e : Option PySem.Expr} {t t' : TO} (h : PO X e t) (m : ∀ σ H Q, t' σ H Q → t σ H Q) : PO X e t' := ⟨fun pins s σ H Q I q => h.run pins s σ H Q I (m σ H Q q)⟩
theorem o_none : PO X none (tO Λ W fun _ h => .ok none h) := po_none.mono fun σ H Q ⟨ρ, sg, ah, r, rs, post⟩ => post ρ H none Stp.refl r rfl
theorem o_some (ha : PE X a (tV Λ W dA)) : PO X (some a) (tO Λ W fun σ h => (dA σ h).bind fun x h => (match x with
    | .int i => .ok (some i) h
    | _ => .no)) :=
  (po_some ha).mono fun σV H Q ⟨ρ, σ, ah, r, rs, post⟩ => ⟨ρ, σ, ah, r, rs, (Post.bind post).imp fun x H1 ⟨ρ1, p, ah1, s1, r1, rp, _, q⟩ => by
    cases p with
    | int i => cases rp; exact ⟨i, rfl, q ρ1 H1 _ Stp.refl r1 rfl⟩
    | _ => exact q.elim⟩
def rSlA' (Λ : Ln) : V → Option Int → Option Int → Hp → VK → Prop := fun x lo hi H Q => ∃ E ρ p ah, RelH Λ ρ H ah ∧ Rp Λ ρ H x p ∧ Post Λ E (Rp Λ) ρ H (slcV p lo hi ah) Q
theorem sIx_eq (n d : Nat) (o : Option Int) : NI.sIx n d o = HT.sIx n d o := by cases o <;> rfl
theorem cut_rp {ρ : List Addr} {H : Hp} {xs : List V} {ps : List PV} (r : RpL Λ ρ H xs ps) (lo hi : Option Int) : RpL Λ ρ H (cutV xs lo hi) (cutL ps lo hi) := by
  unfold cutV cutL
  rw [sIx_eq, sIx_eq, ← r.length]
  exact (r.drop _).take _
theorem strOk_sub {s t : Txt} {x : Str} (e : x.cps.toList = s) (k : PyData.strOk x = true) (h : ∀ c ∈ t, c ∈ s) : PyData.strOk ⟨t.toArray⟩ = true := by
  have h1 : x.cps.all _ = true := k
  rw [← Array.all_toList, e] at h1
  show (t.toArray).all _ = true
  rw [← Array.all_toList]
  exact List.all_eq_true.mpr fun c hc => List.all_eq_true.mp h1 c (h c (by simpa using hc))
theorem sl_all (hk : X.K = Λ.K) : SlR X (rSlA' Λ) := by
  intro pins s σ H x v vl vu lo hi sl Q I rx hs pl pu h
  obtain ⟨E, ρ, p, ah, r, rp, post⟩ := h
  cases p with
  | tup ps =>
    cases rp with
    | @tup pa xs _ h1 h2 =>
      have cr := cut_rp h2 lo hi
      refine sl_tupA pins s σ H _ v vl vu lo hi sl Q I rx hs pl pu ⟨pa, xs, rfl, by rw [hk]; exact h1, fun hw => ?_, fun _ t ht => ?_⟩
      · have e : cutV xs lo hi = xs := by
          unfold cutV
          rw [hw.1, hw.2, Nat.sub_zero, List.drop_zero, List.take_length]
        rw [e] at cr
        exact post ρ H _ Stp.refl r (.tup h1 cr)
      · have s1 : Stp ρ H ρ (upd H t (.tup (cutV xs lo hi))) := Stp.fresh ht _
        exact post ρ _ _ s1 (r.fresh ht _) (.tup (SqT.of upd_same) (s1.rpL r.nt cr))
  | str t =>
    cases rp with
    | str z _ e1 k1 l1 =>
      refine sl_str pins s σ H _ v vl vu lo hi sl Q I rx hs pl pu ⟨z, rfl, l1, post ρ H _ Stp.refl r ?_⟩
      have et : (cutS z lo hi).cps.toList = cutL t lo hi := by
        unfold cutS cutL
        rw [sIx_eq, sIx_eq, ← e1, len_txt]
      refine .str _ _ et ?_ (Nat.le_trans (cutS_length z lo hi) l1)
      rw [str_of et]
      exact strOk_sub e1 k1 fun c hc => List.mem_of_mem_drop (List.mem_of_mem_take hc)
  | obj n =>
    cases rp with
    | @obj pa _ e1 =>
      have post2 : Post Λ E (Rp Λ) ρ H (match lstAt ah n with
        | some xs => .ok (.obj ah.length) (ah ++ [.lst (cutL xs lo hi)])
        | none => .no) Q := post
      cases q1 : lstAt ah n with
      | none => rw [q1] at post2; exact post2.elim
      | some ps =>
        rw [q1] at post2
        obtain ⟨xs, h1, r1⟩ := r.lst_at e1 q1
        refine sl_list pins s σ H _ v vl vu lo hi sl Q I rx hs pl pu ⟨pa, xs, rfl, by rw [hk]; exact h1, fun t ht => ?_⟩
        have s1 : Stp ρ H (ρ ++ [t]) (upd H t (.lst (cutV xs lo hi))) := Stp.grow ht
        refine post2 _ _ _ s1 (r.new ht nt_lst ⟨_, upd_same, s1.rpL r.nt (cut_rp r1 lo hi)⟩) (.obj ?_)
        rw [← r.len]; exact app_last _ _
  | _ => exact post.elim
theorem n_slc {lo hi : Option PySem.Expr} {dO dP : Sg → AH → R (Option Int)} {p2 : Pos} (hk : X.K = Λ.K) (ha : PE X a (tV Λ W dA)) (hl : PO X lo (tO Λ W dO)) (hu : PO X hi (tO Λ W dP)) :
    PV' Λ X W (.Subscript a (.Slice lo hi none p2) pos) (fun σ h => (dA σ h).bind fun x h => (dO σ h).bind fun i h => (dP σ h).bind fun j h => slcV x i j h) :=
  pv_plain ((pe_slice (sl_all hk) ha hl hu).mono fun σV H Q ⟨ρ, σ, ah, r, rs, post⟩ =>
    ⟨ρ, σ, ah, r, rs, (Post.bind post).imp fun x H1 ⟨ρ1, p, ah1, s1, r1, rp, _, q⟩ => ⟨ρ1, σ, ah1, r1, rs.mono s1 r.nt, (Post.bind q).imp fun i H2 ⟨ρ2, i', ah2, s2, r2, ei, _, q2⟩ => ⟨ρ2, σ, ah2, r2, (rs.mono s1 r.nt).mono s2 r1.nt, (Post.bind q2).imp fun j H3 ⟨ρ3, j', ah3, s3, r3, ej, _, q3⟩ => by
      subst ei ej
      exact ⟨_, ρ3, p, ah3, r3, s3.rp r2.nt (s2.rp r1.nt rp), q3⟩⟩⟩⟩) fun _ => rfl
end
end NI
end

section
set_option Elab.async false
set_option autoImplicit false
set_option linter.all false
set_option maxRecDepth 100000
set_option maxHeartbeats 2000000
/-! Lists that come fresh. -/
namespace NI
open PySem PySem.Spec PyProof.Rows L2
/-- a fresh list: tracked, not in the plain heap, not there at H0 -/
def RLf (Λ : Ln) (H0 : Hp) (ρ : List Addr) (H : Hp) (v : V) (ps : List PV) : Prop := ∃ a xs, v = .ref a ∧ H0 a = none ∧ H a = some (.lst xs) ∧ a ∉ ρ ∧ RpL Λ ρ H xs ps
/-- a list -/
def RLs (Λ : Ln) (ρ : List Addr) (H : Hp) (v : V) (ps : List PV) : Prop := ∃ a xs, v = .ref a ∧ H a = some (.lst xs) ∧ RpL Λ ρ H xs ps
/-- a reading in general -/
def tG {α β : Type} (Λ : Ln) (W : WX) (RR : List Addr → Hp → β → α → Prop) (D : Sg → AH → R α) : L2.St → Hp → (β → Hp → Prop) → Prop := fun σV H Q => ∃ ρ σ ah, RelH Λ ρ H ah ∧ RelS Λ ρ σV H σ ∧ Post Λ (fun c d H' => W c d σV H') RR ρ H (D σ ah) Q
/-- a reading as a fresh list -/
def tF (Λ : Ln) (W : WX) (D : Sg → AH → R (List PV)) : TE := fun σV H Q => ∃ ρ σ ah, RelH Λ ρ H ah ∧ RelS Λ ρ σV H σ ∧ Post Λ (fun c d H' => W c d σV H') (RLf Λ H) ρ H (D σ ah) Q
section
variable {Λ : Ln} {X : Cx} {W : WX} {a b c e : PySem.Expr} {es : List PySem.Expr} {dA dB dC : Sg → AH → R PV} {dL dM : Sg → AH → R (List PV)} {pos : Pos} {ρ ρ' : List Addr} {H H' H0 : Hp}
theorem Stp.wasnone (s : Stp ρ H ρ' H') {ah : AH} (r : RelH Λ ρ' H' ah) {p : Addr} (h : H' p = none) : H p = none := by
  cases e : H p with
  | none => rfl
  | some o =>
    by_cases z : p ∈ ρ
    · obtain ⟨t, rfl⟩ := s.pre
      exact absurd h (r.tr p (List.mem_append_left _ z))
    · rw [s.stay p o z e] at h; cases h
theorem Post.stepL {E : XK} {r : R (List PV)} {ah : AH} {Q : V → Hp → Prop} (h : Post Λ E (RLf Λ H) ρ H r Q) (s : Stp ρ H ρ' H') (rh : RelH Λ ρ' H' ah) : Post Λ E (RLf Λ H') ρ' H' r Q := by
  cases r with
  | ok a ah1 => exact fun ρ2 H2 b s2 r2 ⟨p, xs, e, h0, h1, na, rr⟩ => h ρ2 H2 b (s.trans s2) r2 ⟨p, xs, e, s.wasnone rh h0, h1, na, rr⟩
  | ex c fs ah => exact fun ρ2 H2 d cA s2 r2 x e => h ρ2 H2 d cA (s.trans s2) r2 x e
  | no => exact h.elim
theorem Post.bindL {α β : Type} {E : XK} {R1 : List Addr → Hp → β → α → Prop} {x : R α} {f : α → AH → R (List PV)} {Q : V → Hp → Prop} (h : Post Λ E (RLf Λ H) ρ H (x.bind f) Q) :
    Post Λ E R1 ρ H x fun b H1 => ∃ ρ1 a ah1, Stp ρ H ρ1 H1 ∧ RelH Λ ρ1 H1 ah1 ∧ R1 ρ1 H1 b a ∧ x = .ok a ah1 ∧ Post Λ E (RLf Λ H1) ρ1 H1 (f a ah1) Q := by
  cases x with
  | ok a ah => exact fun ρ1 H1 b s r rr => ⟨ρ1, a, ah, s, r, rr, rfl, Post.stepL h s r⟩
  | ex c fs ah => exact h
  | no => exact h
theorem Post.weak {α β : Type} {E : XK} {R1 R2 : List Addr → Hp → β → α → Prop} {x : R α} {Q : β → Hp → Prop} (i : ∀ ρ H v p, R1 ρ H v p → R2 ρ H v p) (h : Post Λ E R2 ρ H x Q) : Post Λ E R1 ρ H x Q := by
  cases x with
  | ok p ah1 => exact fun ρ1 H1 v s r1 rv => h ρ1 H1 v s r1 (i _ _ _ _ rv)
  | ex c fs ah1 => exact h
  | no => exact h
theorem RLf.s {v : V} {ps : List PV} (h : RLf Λ H0 ρ H v ps) : RLs Λ ρ H v ps := let ⟨a, xs, e, _, h1, _, h2⟩ := h; ⟨a, xs, e, h1, h2⟩
theorem pe_weak (h : PE X e (tF Λ W dL)) : PE X e (tG Λ W (RLs Λ) dL) := h.mono fun _ _ _ ⟨ρ, σ, ah, r, rs, q⟩ => ⟨ρ, σ, ah, r, rs, q.weak fun _ _ _ _ r => r.s⟩
theorem RLf.mono {v : V} {ps : List PV} {ah : AH} (h : RLf Λ H0 ρ H v ps) (s : Stp ρ H ρ' H') (r : RelH Λ ρ H ah) : RLf Λ H0 ρ' H' v ps := by
  obtain ⟨a, xs, e, h0, h1, na, h2⟩ := h
  refine ⟨a, xs, e, h0, s.stay a _ na h1, fun z => ?_, s.rpL r.nt h2⟩
  have := s.new a z na
  rw [h1] at this; cases this
/-- a fresh list taken into the plain heap -/
def newD (dL : Sg → AH → R (List PV)) : Sg → AH → R PV := fun σ h => (dL σ h).bind fun xs h => .ok (.obj h.length) (h ++ [.lst xs])
theorem Stp.adopt {p : Addr} (s : Stp ρ H ρ' H') (h0 : H p = none) : Stp ρ H (ρ' ++ [p]) H' :=
  ⟨s.pre.trans (List.prefix_append _ _), s.stay, fun b h1 h2 => by
    rcases List.mem_append.mp h1 with h1 | h1
    · exact s.new b h1 h2
    · simp at h1; subst h1; exact h0, s.fz⟩
theorem at_app {p : Addr} {n : Nat} {q : Addr} (h : ρ[n]? = some q) : (ρ ++ [p])[n]? = some q := by
  rw [List.getElem?_append_left (List.getElem?_eq_some_iff.mp h).1]; exact h
theorem Post.new {E : XK} {x : R (List PV)} {Q : V → Hp → Prop} (h : Post Λ E (Rp Λ) ρ H (x.bind fun xs h => .ok (.obj h.length) (h ++ [.lst xs])) Q) : Post Λ E (RLf Λ H) ρ H x Q := by
  cases x with
  | ok ps ah =>
    intro ρ1 H1 v s r ⟨a, xs, e, h0, h1, na, h2⟩
    subst e
    refine h (ρ1 ++ [a]) H1 _ (s.adopt h0) (r.adopt na (fun fs z => by
      rw [h1] at z
      have z2 : HO.lst xs = HO.ext _ := Option.some.inj z
      cases z2) (nt_of h1 (fun _ z => nomatch z) fun _ _ z => nomatch z) (by rw [h1]; exact fun z => nomatch z) ⟨xs, h1, RpL.mono (fun _ _ q => q) (fun _ _ z => at_app z) _ _ h2⟩) (.obj ?_)
    rw [← r.len]; exact app_last _ _
  | ex c fs ah => exact h
  | no => exact h
theorem n_new (h : PE X e (tF Λ W dL)) (he : ∀ whole, isTrue e X.env whole = (do let v ← whole; standAt e.pos; holding [v] (truthy v))) : PV' Λ X W e (newD dL) :=
  pv_plain (h.mono fun σV H Q ⟨ρ, σ, ah, r, rs, q⟩ => ⟨ρ, σ, ah, r, rs, Post.new q⟩) he
theorem iteRL {c : Bool} {x : R (List PV)} {E : XK} {Q : V → Hp → Prop} (h : Post Λ E (RLf Λ H0) ρ H (if c = true then x else .no) Q) : c = true ∧ Post Λ E (RLf Λ H0) ρ H x Q := by
  cases c with
  | true => exact ⟨rfl, h⟩
  | false => exact h.elim
/-- a display -/
def lstD (dL : Sg → AH → R (List PV)) : Sg → AH → R (List PV) := fun σ h => (dL σ h).bind fun vs h => if fits vs.length then .ok vs h else .no
theorem RelH.fresh_notin {ah : AH} (r : RelH Λ ρ H ah) {p : Addr} (h : H p = none) : p ∉ ρ := r.notin h
theorem l_lst (h : PA X es (tVs Λ W dL)) : PE X (.List es pos) (tF Λ W (lstD dL)) :=
  (pe_lst h).mono fun σV H Q ⟨ρ, σ, ah, r, rs, post⟩ => ⟨ρ, σ, ah, r, rs, (Post.bindL post).imp fun xs H1 ⟨ρ1, ps, ah1, s1, r1, rps, _, q⟩ => by
    obtain ⟨hf, q⟩ := iteRL q
    refine ⟨by rw [rps.length]; exact fits_le hf, fun p hp => ?_⟩
    have s2 : Stp ρ1 H1 ρ1 (upd H1 p (.lst xs)) := Stp.fresh hp _
    exact q ρ1 _ _ s2 (r1.fresh hp _) ⟨p, xs, rfl, hp, upd_same, r1.notin hp, s2.rpL r1.nt rps⟩⟩
def laddD (dL dM : Sg → AH → R (List PV)) : Sg → AH → R (List PV) := fun σ h => (dL σ h).bind fun x h => (dM σ h).bind fun y h => if fits (x.length + y.length) then .ok (x ++ y) h else .no
theorem l_add (ha : PE X a (tF Λ W dL)) (hb : PE X b (tF Λ W dM)) : PE X (.BinOp a .Add b pos) (tF Λ W (laddD dL dM)) :=
  (pe_op op_cat ha hb).mono fun σV H Q ⟨ρ, σ, ah, r, rs, post⟩ => ⟨ρ, σ, ah, r, rs, (Post.bindL post).imp fun x H1 ⟨ρ1, ps, ah1, s1, r1, rx, _, q⟩ => ⟨ρ1, σ, ah1, r1, rs.mono s1 r.nt, (Post.bindL q).imp fun y H2 ⟨ρ2, qs, ah2, s2, r2, ry, _, q2⟩ => by
    obtain ⟨hf, q2⟩ := iteRL q2
    obtain ⟨pa, xs, ex, _, hx, nx, qx⟩ := rx.mono s2 r1
    obtain ⟨pb, ys, ey, _, hy, ny, qy⟩ := ry
    subst ex ey
    refine ⟨pa, pb, xs, ys, rfl, rfl, hx, hy, by rw [qx.length, qy.length]; exact fits_le hf, fun t ht => ?_⟩
    have s3 : Stp ρ2 H2 ρ2 (upd H2 t (.lst (xs ++ ys))) := Stp.fresh ht _
    exact q2 ρ2 _ _ s3 (r2.fresh ht _) ⟨t, _, rfl, ht, upd_same, r2.notin ht, s3.rpL r2.nt (qx.append qy)⟩⟩⟩
def lmulD (dL : Sg → AH → R (List PV)) (dB : Sg → AH → R PV) : Sg → AH → R (List PV) := fun σ h => (dL σ h).bind fun x h => (dB σ h).bind fun y h => match y with
      | .int k => if fits (x.length * k.toNat) && int64 k then .ok (repL x k.toNat) h else .no
      | _ => .no
theorem l_mul (ha : PE X a (tF Λ W dL)) (hb : PE X b (tV Λ W dB)) : PE X (.BinOp a .Mult b pos) (tF Λ W (lmulD dL dB)) :=
  (pe_op op_rep ha hb).mono fun σV H Q ⟨ρ, σ, ah, r, rs, post⟩ => ⟨ρ, σ, ah, r, rs, (Post.bindL post).imp fun x H1 ⟨ρ1, ps, ah1, s1, r1, rx, _, q⟩ => ⟨ρ1, σ, ah1, r1, rs.mono s1 r.nt, (Post.bindL q).imp fun y H2 ⟨ρ2, p2, ah2, s2, r2, ry, _, q2⟩ => by
    cases p2 with
    | int k =>
      cases ry
      obtain ⟨hf, q2⟩ := iteRL q2
      obtain ⟨hf, h64⟩ := ba hf
      obtain ⟨k1, k2⟩ := int64_ok h64
      obtain ⟨pa, xs, ex, _, hx, nx, qx⟩ := rx.mono s2 r1
      subst ex
      refine ⟨pa, k, xs, rfl, rfl, hx, k1, k2, by rw [qx.length]; exact fits_le hf, fun t ht => ?_⟩
      have s3 : Stp ρ2 H2 ρ2 (upd H2 t (.lst (List.replicate k.toNat xs).flatten)) := Stp.fresh ht _
      exact q2 ρ2 _ _ s3 (r2.fresh ht _) ⟨t, _, rfl, ht, upd_same, r2.notin ht, s3.rpL r2.nt (qx.rep _)⟩
    | _ => exact q2.elim⟩⟩
/-- a list that is held -/
def valD (dA : Sg → AH → R PV) : Sg → AH → R (List PV) := fun σ h => (dA σ h).bind fun x h => (match x with
        | .obj n => R.ofO h (lsOnly h n)
        | _ => .no)
theorem l_val (ha : PE X a (tV Λ W dA)) : PE X a (tG Λ W (RLs Λ) (valD dA)) :=
  ha.mono fun σV H Q ⟨ρ, σ, ah, r, rs, post⟩ => ⟨ρ, σ, ah, r, rs, (Post.bind post).imp fun x H1 ⟨ρ1, p, ah1, s1, r1, rx, _, q⟩ => by
    cases p with
    | obj n =>
      cases rx with
      | obj e1 =>
        obtain ⟨ps, el, q⟩ := Post.ofO q
        obtain ⟨xs, h1, h2⟩ := r1.ob n _ _ e1 (lsOnly_at el)
        exact q ρ1 H1 _ Stp.refl r1 ⟨_, xs, rfl, h1, h2⟩
    | _ => exact q.elim⟩
/-! ### lists compared -/
theorem lists_eq (xs ys : List PV) (h : (areData 32 xs && areData 32 ys) = true) {pa pb : Addr} {vs ws : List V} (h1 : H pa = some (.lst vs)) (h2 : H pb = some (.lst ws)) (r1 : RpL Λ ρ H vs xs) (r2 : RpL Λ ρ H ws ys) :
    EqD Λ H (.ref pa) (.ref pb) (peqL xs ys) := by
  obtain ⟨k1, k2⟩ := ba h
  obtain ⟨a1, a2, a3⟩ := dp_ofL _ xs vs k1 r1
  obtain ⟨b1, b2, b3⟩ := dp_ofL _ ys ws k2 r2
  refine ⟨.list (toDs xs), .list (toDs ys), .lst (SqL.of h1) a1, .lst (SqL.of h2) b1, shaped_of (by simpa [PyData.canLay0] using a2) (by simp only [PyData.depth]; omega), shaped_of (by simpa [PyData.canLay0] using b2) (by simp only [PyData.depth]; omega), ?_⟩
  simp only [PyData.eqv]
  exact eqv_ofL xs _ _ ys k1 k2
/-- two lists, by plain items -/
def rCq (Λ : Ln) (o : Co) : R2 := fun x y H Q => ∃ (E : XK) (ρ : List Addr) (xs ys : List PV) (ah : AH), RelH Λ ρ H ah ∧ RLs Λ ρ H x xs ∧ RLs Λ ρ H y ys ∧ Post Λ E (Rp Λ) ρ H (cmpL o xs ys ah) Q
theorem cq_ok {op : CmpOp} {o : Co} (fx : Fx Λ X) (ho : cCo op = some o) : OpR X (compareOp op) (rCq Λ o) := by
  intro pins s σ H x y v u Q I rx ry h
  obtain ⟨E, ρ, xs, ys, ah, r, ⟨pa, vs, rfl, h1, r1⟩, ⟨pb, ws, rfl, h2, r2⟩, post⟩ := h
  have hu := fx.u
  unfold cmpL at post
  cases k : (areData 32 xs && areData 32 ys) with
  | false => rw [k] at post; exact post.elim
  | true =>
    rw [k] at post
    obtain ⟨d, e, h1, h2, h3, h4, h5⟩ := lists_eq xs ys k h1 h2 r1 r2
    cases op <;> cases ho <;> first | exact post.elim | skip
    · exact op_eqD (by omega) pins s σ H _ _ v u Q I rx ry ⟨d, e, by rw [fx.k]; exact h1, by rw [fx.k]; exact h2, h3, h4, by rw [h5]; exact post ρ H _ Stp.refl r (.bl _)⟩
    · exact op_neD (by omega) pins s σ H _ _ v u Q I rx ry ⟨d, e, by rw [fx.k]; exact h1, by rw [fx.k]; exact h2, h3, h4, by rw [h5]; exact post ρ H _ Stp.refl r (.bl _)⟩
def cqD (o : Co) (dL dM : Sg → AH → R (List PV)) : Sg → AH → R PV := fun σ h => (dL σ h).bind fun xs h => (dM σ h).bind fun ys h => cmpL o xs ys h
def cqvD (o : Co) (dA : Sg → AH → R PV) (dM : Sg → AH → R (List PV)) : Sg → AH → R PV := fun σ h => (dA σ h).bind fun x h => (dM σ h).bind fun ys h => (match x with
        | .obj n => (match lsOnly h n with
          | some xs => cmpL o xs ys h
          | none => .no)
        | _ => .no)
theorem cqD.two {o : Co} {σV : L2.St} {Q : VK} (h : tV Λ W (cqD o dL dM) σV H Q) : tOp (rCq Λ o) (tF Λ W dL) (tG Λ W (RLs Λ) dM) σV H Q := by
  obtain ⟨ρ, σ, ah, r, rs, post⟩ := h
  exact ⟨ρ, σ, ah, r, rs, (Post.bind post).imp fun x H1 ⟨ρ1, ps, ah1, s1, r1, rx, _, q⟩ => ⟨ρ1, σ, ah1, r1, rs.mono s1 r.nt, (Post.bind q).imp fun y H2 ⟨ρ2, qs, ah2, s2, r2, ry, _, q2⟩ => ⟨_, ρ2, ps, qs, ah2, r2, (rx.mono s2 r1).s, ry, q2⟩⟩⟩
theorem cqvD.two {o : Co} {σV : L2.St} {Q : VK} (h : tV Λ W (cqvD o dA dM) σV H Q) : tOp (rCq Λ o) (tV Λ W dA) (tG Λ W (RLs Λ) dM) σV H Q := by
  obtain ⟨ρ, σ, ah, r, rs, post⟩ := h
  refine ⟨ρ, σ, ah, r, rs, (Post.bind post).imp fun x H1 ⟨ρ1, p, ah1, s1, r1, rx, _, q⟩ => ⟨ρ1, σ, ah1, r1, rs.mono s1 r.nt, (Post.bind q).imp fun y H2 ⟨ρ2, qs, ah2, s2, r2, ry, _, q2⟩ => ?_⟩⟩
  cases p with
  | obj n =>
    cases s2.rp r1.nt rx with
    | @obj pa _ e1 =>
      cases el : lsOnly ah2 n with
      | none => simp only [el] at q2; exact q2.elim
      | some xs =>
        simp only [el] at q2
        obtain ⟨vs, h1, h2⟩ := r2.ob n _ _ e1 (lsOnly_at el)
        exact ⟨_, ρ2, xs, qs, ah2, r2, ⟨pa, vs, rfl, h1, h2⟩, ry, q2⟩
  | _ => exact q2.elim
theorem n_cq {op : CmpOp} {o : Co} (fx : Fx Λ X) (ho : cCo op = some o) (ha : PE X a (tF Λ W dL)) (hb : PE X b (tG Λ W (RLs Λ) dM)) (hm : behindInMarks op b = false) : PV' Λ X W (.Compare a [op] [b] pos) (cqD o dL dM) :=
  ⟨(pe_cmpR (cq_ok fx ho) ha hb hm).mono fun _ _ _ h => cqD.two h, (pt_cmpR (cq_ok fx ho) ha hb hm).mono fun σ H Q h => cqD.two (show tV Λ W _ σ H _ from h)⟩
theorem n_cqv {op : CmpOp} {o : Co} (fx : Fx Λ X) (ho : cCo op = some o) (ha : PE X a (tV Λ W dA)) (hb : PE X b (tG Λ W (RLs Λ) dM)) (hm : behindInMarks op b = false) : PV' Λ X W (.Compare a [op] [b] pos) (cqvD o dA dM) :=
  ⟨(pe_cmpR (cq_ok fx ho) ha hb hm).mono fun _ _ _ h => cqvD.two h, (pt_cmpR (cq_ok fx ho) ha hb hm).mono fun σ H Q h => cqvD.two (show tV Λ W _ σ H _ from h)⟩
/-- an item of a fresh list -/
def ixnD (dL : Sg → AH → R (List PV)) (dB : Sg → AH → R PV) : Sg → AH → R PV := fun σ h => (dL σ h).bind fun xs h => (dB σ h).bind fun i h => R.ofO h (ixV [] (.tup xs) i)
theorem n_ixn (ha : PE X a (tF Λ W dL)) (hb : PE X b (tV Λ W dB)) (hs : PlainIx b) : PV' Λ X W (.Subscript a b pos) (ixnD dL dB) :=
  pv_plain ((pe_ix ix_list ha hb hs).mono fun σV H Q ⟨ρ, σ, ah, r, rs, post⟩ => ⟨ρ, σ, ah, r, rs, (Post.bind post).imp fun x H1 ⟨ρ1, ps, ah1, s1, r1, rx, _, q⟩ => ⟨ρ1, σ, ah1, r1, rs.mono s1 r.nt, (Post.bind q).imp fun y H2 ⟨ρ2, p2, ah2, s2, r2, ry, _, q2⟩ => by
    obtain ⟨z, ez, q3⟩ := Post.ofO q2
    clear q2
    obtain ⟨pa, xs, ex, _, hx, nx, qx⟩ := rx.mono s2 r1
    subst ex
    cases p2 with
    | int i =>
      cases ry
      obtain ⟨w, ew, rw'⟩ := atI_rp qx ez
      exact ⟨pa, xs, i, w, rfl, rfl, SqL.of hx, ew, q3 ρ2 H2 w Stp.refl r2 rw'⟩
    | _ => cases ez⟩⟩) fun _ => rfl
end
end NI
end

section
set_option Elab.async false
set_option autoImplicit false
set_option linter.all false
set_option maxRecDepth 100000
set_option maxHeartbeats 2000000
/-! Targets, walks. -/
namespace NI
open PySem PySem.Spec PyProof.Rows L2
/-- only these slots differ -/
def Same (sl : List Nat) (σ σ' : L2.St) : Prop := ∀ vs : List Nat, (∀ i ∈ sl, i ∈ vs) → L2.wipe σ' vs = L2.wipe σ vs
theorem Same.refl {sl : List Nat} {σ : L2.St} : Same sl σ σ := fun _ _ => rfl
theorem Same.trans {sl : List Nat} {σ σ' σ'' : L2.St} (a : Same sl σ σ') (b : Same sl σ' σ'') : Same sl σ σ'' := fun vs h => (b vs h).trans (a vs h)
theorem Same.sub {sl sl' : List Nat} {σ σ' : L2.St} (a : Same sl σ σ') (h : ∀ i ∈ sl, i ∈ sl') : Same sl' σ σ' := fun vs k => a vs fun i hi => k i (h i hi)
theorem wipe_set {σ : L2.St} {i : Nat} {v : Option V} : ∀ {vs : List Nat}, i ∈ vs → L2.wipe (σ.set i v) vs = L2.wipe σ vs
  | [], h => by cases h
  | j :: vs, h => by
    show (L2.wipe (σ.set i v) vs).set j none = (L2.wipe σ vs).set j none
    rcases List.mem_cons.mp h with rfl | h
    · -- the same slot
      have key : ∀ vs : List Nat, ∀ σ : L2.St, (L2.wipe (σ.set i v) vs).set i none = (L2.wipe σ vs).set i none := by
        intro vs
        induction vs with
        | nil => intro σ; exact List.set_set ..
        | cons k vs ih =>
          intro σ
          show ((L2.wipe (σ.set i v) vs).set k none).set i none = ((L2.wipe σ vs).set k none).set i none
          by_cases z : k = i
          · subst z; rw [List.set_set, List.set_set]; exact ih σ
          · rw [List.set_comm _ _ z, List.set_comm _ _ z, ih σ]
      exact key vs σ
    · rw [wipe_set h]
section
variable {Λ : Ln} {X : Cx} {W : WX} {e : PySem.Expr} {es : List PySem.Expr} {pos : Pos}
/-- a target's reading -/
def tT (Λ : Ln) (W : WX) (sl : List Nat) (D : PV → Sg → AH → R Sg) : TG := fun v σV H Q => ∃ ρ p σ ah, RelH Λ ρ H ah ∧ RelS Λ ρ σV H σ ∧ Rp Λ ρ H v p ∧ Post Λ (fun c d H' => W c d σV H') (fun ρ' H' σV' σ' => RelS Λ ρ' σV' H' σ' ∧ Same sl σV σV') ρ H (D p σ ah) Q
def tTs (Λ : Ln) (W : WX) (sl : List Nat) (D : List PV → Sg → AH → R Sg) : TGs := fun vs σV H Q => ∃ ρ ps σ ah, RelH Λ ρ H ah ∧ RelS Λ ρ σV H σ ∧ RpL Λ ρ H vs ps ∧ Post Λ (fun c d H' => W c d σV H') (fun ρ' H' σV' σ' => RelS Λ ρ' σV' H' σ' ∧ Same sl σV σV') ρ H (D ps σ ah) Q
theorem _root_.L2.PG.mono {X : Cx} {e : PySem.Expr} {t t' : TG} (h : PG X e t) (m : ∀ v σ H Q, t' v σ H Q → t v σ H Q) : PG X e t' := ⟨fun pins s σ H v u Q I r q => h.run pins s σ H v u Q I r (m v σ H Q q)⟩
theorem _root_.L2.PGs.mono {X : Cx} {es : List PySem.Expr} {t t' : TGs} (h : PGs X es t) (m : ∀ v σ H Q, t' v σ H Q → t v σ H Q) : PGs X es t' := ⟨fun pins s σ H v u Q I r q => h.run pins s σ H v u Q I r (m v σ H Q q)⟩
theorem t_name {i : Nat} {x : Str} (hN : X.N.Nodup) (hi : X.N[i]? = some x) (hx : Loc X.env.scope x) (hf : X.fn x = true ∨ X.env.scope.names.lookup x = some .local) : PG X (.Name x pos) (tT Λ W [i] fun v σ h => .ok (σ.set i (some v)) h) :=
  (pg_name hN hi hx hf).mono fun v σV H Q ⟨ρ, p, σ, ah, r, rs, rp, post⟩ => post ρ H _ Stp.refl r ⟨rs.set rp i, fun vs h => wipe_set (h i (by simp))⟩
theorem t_nil : PGs X [] (tTs Λ W [] fun vs σ h => match vs with
    | [] => .ok σ h
    | _ => .no) :=
  pgs_nil.mono fun vs σV H Q ⟨ρ, ps, σ, ah, r, rs, rp, post⟩ => by
    cases rp with
    | nil => exact ⟨rfl, post ρ H _ Stp.refl r ⟨rs, Same.refl⟩⟩
    | cons _ _ => exact post.elim
def tconsD (dT : PV → Sg → AH → R Sg) (dU : List PV → Sg → AH → R Sg) : List PV → Sg → AH → R Sg := fun vs σ h => match vs with
        | v :: vs => (dT v σ h).bind fun σ h => dU vs σ h
        | [] => .no
theorem t_cons {dT : PV → Sg → AH → R Sg} {dU : List PV → Sg → AH → R Sg} {sl sl' : List Nat} (h1 : PG X e (tT Λ (fun _ _ _ _ => False) sl dT)) (h2 : PGs X es (tTs Λ (fun _ _ _ _ => False) sl' dU))
    (hs : (assignEach (e :: es) X.env).map (·.2) = assign e X.env :: (assignEach es X.env).map (·.2)) : PGs X (e :: es) (tTs Λ (fun _ _ _ _ => False) (sl ++ sl') (tconsD dT dU)) :=
  (pgs_cons h1 h2 hs).mono fun vs σV H Q ⟨ρ, ps, σ, ah, r, rs, rp, post⟩ => by
    cases rp with
    | nil => exact post.elim
    | @cons v vs p ps rp1 rps =>
      refine ⟨v, vs, rfl, ρ, p, σ, ah, r, rs, rp1, (Post.bind post).imp fun σ1 H1 ⟨ρ1, σ', ah1, s1, r1, ⟨rs1, sm1⟩, _, q⟩ => ⟨ρ1, ps, σ', ah1, r1, rs1, s1.rpL r.nt rps, ?_⟩⟩
      cases e : dU ps σ' ah1 with
      | ok a ah2 => rw [e] at q; exact fun ρ2 H2 b s2 r2 ⟨rs2, sm2⟩ => q ρ2 H2 b s2 r2 ⟨rs2, (sm1.sub fun i hi => List.mem_append_left _ hi).trans (sm2.sub fun i hi => List.mem_append_right _ hi)⟩
      | ex c fs ah2 => rw [e] at q; exact q
      | no => rw [e] at q; exact q.elim
def ttupD (n : Nat) (dU : List PV → Sg → AH → R Sg) : PV → Sg → AH → R Sg := fun v σ h => match v with
        | .tup vs => if vs.length == n then dU vs σ h else .no
        | .obj m => (match lsOnly h m with
          | some vs => if vs.length == n then dU vs σ h else .no
          | none => .no)
        | _ => .no
theorem iteRG {α β : Type} {c : Bool} {x : R α} {E : XK} {RR : List Addr → Hp → β → α → Prop} {ρ : List Addr} {H : Hp} {Q : β → Hp → Prop} (h : Post Λ E RR ρ H (if c = true then x else .no) Q) : c = true ∧ Post Λ E RR ρ H x Q := iteR h
theorem t_tup {dU : List PV → Sg → AH → R Sg} {sl : List Nat} {n k : Nat} (hk : X.K = Λ.K) (hc : X.calm = true) (h : PGs X es (tTs Λ W sl dU)) (hn : (assignEach es X.env).length = n) (hst : (assignEach es X.env).findIdx? (·.1) = none) :
    PG X (.Tuple es k pos) (tT Λ W sl (ttupD n dU)) := by
  have A := pg_tup (pos := pos) (k := k) hc h hn hst
  have B := pg_lst (pos := pos) (k := k) hc h hn hst
  refine ⟨fun pins s σV H v u Q I r ⟨ρ, p, σ, ah, rh, rs, rp, post⟩ => ?_⟩
  cases p with
  | tup vs =>
    cases rp with
    | @tup a xs _ h1 h2 =>
      obtain ⟨hl, post⟩ := iteRG post
      exact A.run pins s σV H _ u Q I r ⟨a, xs, rfl, by rw [hk]; exact h1, by rw [h2.length]; exact beq_iff_eq.mp hl, ρ, vs, σ, ah, rh, rs, h2, post⟩
  | obj m =>
    cases rp with
    | @obj a _ e1 =>
      have post2 : Post Λ (fun c d H' => W c d σV H') (fun ρ' H' σV' σ' => RelS Λ ρ' σV' H' σ' ∧ Same sl σV σV') ρ H (match lsOnly ah m with
          | some vs => if vs.length == n then dU vs σ ah else .no
          | none => .no) Q := post
      cases el : lsOnly ah m with
      | none => rw [el] at post2; exact post2.elim
      | some vs =>
        rw [el] at post2
        obtain ⟨hl, post2⟩ := iteRG post2
        obtain ⟨xs, h1, h2⟩ := rh.ob m a _ e1 (lsOnly_at el)
        exact B.run pins s σV H _ u Q I r ⟨a, xs, rfl, SqL.of h1, by rw [h2.length]; exact beq_iff_eq.mp hl, ρ, vs, σ, ah, rh, rs, h2, post2⟩
  | _ => exact post.elim
/-! ### walks -/
mutual
theorem pvEq_eq : ∀ (p q : PV), pvEq p q = true → p = q
  | .tup xs, q, h => by
    cases q <;> simp [pvEq] at h
    rw [pvEqL_eq xs _ h]
  | .non, q, h => by cases q <;> simp [pvEq] at h; rfl
  | .bl _, q, h => by cases q <;> simp [pvEq] at h; rw [h]
  | .int _, q, h => by cases q <;> simp [pvEq] at h; rw [h]
  | .str _, q, h => by cases q <;> simp [pvEq] at h; rw [h]
  | .obj _, q, h => by cases q <;> simp [pvEq] at h; rw [h]
  | .glo _, q, h => by cases q <;> simp [pvEq] at h; rw [h]
theorem pvEqL_eq : ∀ (ps qs : List PV), pvEqL ps qs = true → ps = qs
  | [], qs, h => by cases qs <;> simp [pvEqL] at h; rfl
  | p :: ps, [], h => by simp [pvEqL] at h
  | p :: ps, q :: qs, h => by
    have hb := ba (show (pvEq p q && pvEqL ps qs) = true from by simpa [pvEqL] using h)
    rw [pvEq_eq p q hb.1, pvEqL_eq ps qs hb.2]
end
theorem still_at {g : List (Nat × List PV)} {h : AH} (s : still g h = true) {n : Nat} {xs : List PV} (hm : (n, xs) ∈ g) : h[n]? = some (.lst xs) := by
  have q := List.all_eq_true.mp s (n, xs) hm
  cases e : h[n]? with
  | none => simp [e] at q
  | some o =>
    cases o with
    | lst ys => simp [e] at q; rw [pvEqL_eq _ _ q]
    | _ => simp [e] at q
/-- what an iterator gives -/
structure WalkOf (Λ : Ln) (J : It) (xs : List PV) (g : List (Nat × List PV)) (ρ0 : List Addr) (H0 : Hp) : Prop where
  goes : ∀ (ρ : List Addr) (H : Hp) (ah : AH) (i : Nat), Stp ρ0 H0 ρ H → RelH Λ ρ H ah → still g ah = true → i < xs.length → J.go i H
  stops : ∀ (ρ : List Addr) (H : Hp) (ah : AH), Stp ρ0 H0 ρ H → RelH Λ ρ H ah → still g ah = true → J.stop xs.length H
  yields : ∀ (ρ : List Addr) (H : Hp) (ah : AH) (i : Nat) (p : PV) (x : V) (H' : Hp), Stp ρ0 H0 ρ H → RelH Λ ρ H ah → still g ah = true → xs[i]? = some p → J.yld i H x H' → Stp ρ H ρ H' ∧ RelH Λ ρ H' ah ∧ Rp Λ ρ H' x p
def RW' (Λ : Ln) (ρ : List Addr) (H : Hp) (J : It) (q : List PV × Gd) : Prop := match q.2 with
  | .lists g => WalkOf Λ J q.1 g ρ H
  | .dict _ => True
/-- a dict that may be written is not walked -/
def nd : R (List PV × Gd) → R (List PV × Gd)
  | .ok (_, .dict _) _ => .no
  | r => r
def tI (Λ : Ln) (W : WX) (D : Sg → AH → R (List PV × Gd)) : TI := fun σV H Q => ∃ ρ σ ah, RelH Λ ρ H ah ∧ RelS Λ ρ σV H σ ∧ Post Λ (fun c d H' => W c d σV H') (RW' Λ) ρ H (nd (D σ ah)) Q
theorem _root_.L2.PI.mono {X : Cx} {tg e : PySem.Expr} {t t' : TI} (h : PI X tg e t) (m : ∀ σ H Q, t' σ H Q → t σ H Q) : PI X tg e t' := ⟨fun pins s σ H Q I q => h.run pins s σ H Q I (m σ H Q q)⟩
/-- a walk over what stands still -/
theorem walkOf_list {K : PySem.W.Frag} (hk : K = Λ.K) {a : Addr} {ps : List PV} {g : List (Nat × List PV)} {ρ0 : List Addr} {H0 : Hp} (h : ∀ (ρ : List Addr) (H : Hp) (ah : AH), Stp ρ0 H0 ρ H → RelH Λ ρ H ah → still g ah = true → ∃ xs, SqL K H a xs ∧ RpL Λ ρ H xs ps) : WalkOf Λ (Itl K a) ps g ρ0 H0 := by
  refine ⟨fun ρ H ah i s r st hi => ?_, fun ρ H ah s r st => ?_, fun ρ H ah i p x H' s r st e y => ?_⟩
  · obtain ⟨xs, h1, h2⟩ := h ρ H ah s r st
    exact ⟨xs, xs[i]'(by rw [h2.length]; exact hi), h1, by simp [show i < xs.length by rw [h2.length]; exact hi]⟩
  · obtain ⟨xs, h1, h2⟩ := h ρ H ah s r st
    exact ⟨xs, h1, Nat.le_of_eq h2.length⟩
  · obtain ⟨xs, h1, h2⟩ := h ρ H ah s r st
    obtain ⟨e1, e2⟩ := y
    subst e1
    obtain ⟨v, e3, rv⟩ := h2.get e
    have := e2 xs h1
    rw [this] at e3
    cases e3
    exact ⟨Stp.refl, r, rv⟩
theorem walkOf_tup {a : Addr} {xs : List V} {ps : List PV} {g : List (Nat × List PV)} {ρ0 : List Addr} {H0 : Hp} {ah0 : AH} (r0 : RelH Λ ρ0 H0 ah0) (h : SqT Λ.K H0 a xs) (hr : RpL Λ ρ0 H0 xs ps) : WalkOf Λ (Itt Λ.K a) ps g ρ0 H0 := by
  refine ⟨fun ρ H ah i s r st hi => ?_, fun ρ H ah s r st => ?_, fun ρ H ah i p x H' s r st e y => ?_⟩
  · exact ⟨xs, xs[i]'(by rw [hr.length]; exact hi), s.tup r0.nt h, by simp [show i < xs.length by rw [hr.length]; exact hi]⟩
  · exact ⟨xs, s.tup r0.nt h, Nat.le_of_eq hr.length⟩
  · obtain ⟨e1, e2⟩ := y
    subst e1
    obtain ⟨v, e3, rv⟩ := (s.rpL r0.nt hr).get e
    rw [e2 xs (s.tup r0.nt h)] at e3
    cases e3
    exact ⟨Stp.refl, r, rv⟩
theorem walkOf_str {z : Str} {t : Txt} {g : List (Nat × List PV)} {ρ0 : List Addr} {H0 : Hp} (e : z.cps.toList = t) (k : PyData.strOk z = true) : WalkOf Λ (Its z) (t.map fun c => .str [c]) g ρ0 H0 := by
  have hl : z.cps.size = t.length := by rw [← e, Array.length_toList]
  refine ⟨fun ρ H ah i s r st hi => ?_, fun ρ H ah s r st => ?_, fun ρ H ah i p x H' s r st ei y => ?_⟩
  · show i < z.cps.size
    rw [hl]; simpa using hi
  · show z.cps.size ≤ _
    rw [hl]; simp
  · obtain ⟨e1, c, e2, e3⟩ := y
    subst e1 e3
    rw [List.getElem?_map] at ei
    obtain ⟨d, e4, e5⟩ := Option.map_eq_some_iff.mp ei
    have e6 : t[i]? = some c := by rw [← e, Array.getElem?_toList]; exact e2
    rw [e6] at e4
    cases e4
    subst e5
    refine ⟨Stp.refl, r, .str _ _ rfl (by rw [show (⟨#[c]⟩ : Str) = ⟨[c].toArray⟩ from rfl]; exact strOk_sub e k fun d hd => by simp at hd; subst hd; exact List.mem_of_getElem? e6) (by show 1 ≤ sizeLine; decide)⟩
theorem walkOf_rng {lo : Int} {n : Nat} {g : List (Nat × List PV)} {ρ0 : List Addr} {H0 : Hp} : WalkOf Λ (Itr lo n) (rngF lo n) g ρ0 H0 := by
  have hl : ∀ (n : Nat) (lo : Int), (rngF lo n).length = n := fun n => by
    induction n with
    | zero => intro; rfl
    | succ n ih => intro lo; simp [rngF, ih]
  have hg : ∀ (n : Nat) (lo : Int) (i : Nat) (p : PV), (rngF lo n)[i]? = some p → p = .int (lo + i) := fun n => by
    induction n with
    | zero => intro lo i p h; simp [rngF] at h
    | succ n ih =>
      intro lo i p h
      cases i with
      | zero => simp [rngF] at h; rw [← h]; simp
      | succ i => simp [rngF] at h; rw [ih _ _ _ h]; congr 1; omega
  refine ⟨fun ρ H ah i s r st hi => ?_, fun ρ H ah s r st => ?_, fun ρ H ah i p x H' s r st ei y => ?_⟩
  · rw [hl] at hi; exact hi
  · show n ≤ _; rw [hl]; exact Nat.le_refl _
  · obtain ⟨e1, e2⟩ := y
    subst e1 e2
    rw [hg _ _ _ _ ei]
    exact ⟨Stp.refl, r, .int _⟩
end
end NI
end

section
set_option Elab.async false
set_option autoImplicit false
set_option linter.all false
set_option maxRecDepth 100000
set_option maxHeartbeats 2000000
/-! What is walked. -/
namespace NI
open PySem PySem.Spec PyProof.Rows L2
/-- the keys of a dict that stands still, whose keys are tuples -/
def Itkx (P : Program) (w : World) (d : Addr) (o : Obj) (es : List (NestedKey × Addr × V)) : It :=
  ⟨fun i H => H d = some (.frz o (.ext (TD P w d es))) ∧ i < es.length, fun i H x H' => H' = H ∧ ∃ (k : NestedKey) (b : Addr) (v : V), es[i]? = some (k, b, v) ∧ x = .ref b, fun i H => H d = some (.frz o (.ext (TD P w d es))) ∧ es.length ≤ i⟩
section
variable {X : Cx} {pins : List (Addr × Obj)} {σ : L2.St} {H : Hp} {s : Shared}
theorem paired_at {α β : Type} {F : α → β → Prop} : ∀ {l : List α} {m : List β} {i : Nat} {a : α}, Paired F l m → l[i]? = some a → ∃ b, m[i]? = some b ∧ F a b
  | _, _, i, _, .nil, e => by simp at e
  | _, _, 0, _, .cons r _, e => by simp at e; subst e; exact ⟨_, rfl, r⟩
  | _, _, i + 1, _, .cons _ t, e => by
    obtain ⟨b, h1, h2⟩ := paired_at (i := i) t (by simpa using e)
    exact ⟨b, by simpa using h1, h2⟩
theorem Inv.frzX {d : Addr} {o : Obj} {es : List (NestedKey × Addr × V)} {P : Program} {w : World} (I : Inv X pins σ H s) (h : H d = some (.frz o (.ext (TD P w d es)))) :
    (d == sysModules) = false ∧ s.heap.get? d = some o ∧ o.ExactDict ∧ ∃ (hs : Array DictEntry) (ep : Nat), o.data = .dict hs ep ∧ hs.size = es.length ∧
      ∀ (i : Nat) (k : NestedKey) (b : Addr) (v : V), es[i]? = some (k, b, v) → ∃ en : DictEntry, hs[i]? = some en ∧ en.key = .ref b := by
  obtain ⟨hd, td, _⟩ := I.hok d _ h
  obtain ⟨h1, h2, xs, pr, o', hs, ep, e1, e2, e3, e4, e5⟩ := td
  rw [hd] at e1
  cases e1
  have hl : hs.size = xs.length := by rw [← Array.length_toList, e4, List.length_map]
  refine ⟨h1, hd, e2, hs, ep, e3, by rw [hl, Paired.length pr], fun i k b v e => ?_⟩
  obtain ⟨y, hy, y1, y2, y3⟩ := paired_at pr e
  refine ⟨entryOfKey (nestedKind P w) y, ?_, ?_⟩
  · rw [← Array.getElem?_toList, e4, List.getElem?_map, hy]; rfl
  · show Value.ref y.2.1 = _
    rw [← y2]
theorem turn_keysX {P : Program} {w : World} {P' : Program} {w' : World} {K : PySem.W.Frag} {tg : PySem.Expr} {d : Addr} {o : Obj} {hs : Array DictEntry} {ep : Nat} {es : List (NestedKey × Addr × V)} (it : Addr) (hod : o.data = .dict hs ep) :
    Turn P w K tg (Itkx P' w' d o es) [it] it (fun i h => h.IsKeyIter it d i es.length ep) where
  mem := by simp
  obj := fun i h st b hb => by
    have e : b = it := by simpa using hb
    subst e
    obtain ⟨oi, e, c, dd⟩ := st
    exact ⟨oi, e, fun v z => by rw [dd] at z; cases z⟩
  keep := fun i h h' st k => st.at fun oi e => k it (by simp) oi e
  item := by
    intro X hP hw hK hc i pins s σ H E I hf st hg
    subst hP hw hK
    obtain ⟨hd, hi⟩ := hg
    obtain ⟨f0, f1, f2, f3, f4, f5⟩ := hf it (by simp)
    obtain ⟨h1, hgd, hx, hs', ep', hdt, hsz, ent⟩ := Inv.frzX I hd
    obtain ⟨rfl, rfl⟩ := dict_ep hod hdt
    obtain ⟨⟨k, b, v⟩, hkv⟩ : ∃ p, es[i]? = some p := ⟨es[i], List.getElem?_eq_getElem hi⟩
    obtain ⟨en, hen, hkey⟩ := ent i k b v hkv
    refine next_key_item st hgd hdt hsz hen fun h' st' sb => ?_
    have I1 : Inv X pins σ H { s with heap := h' } := I.turned (t' := s.toks) (fun b ob hb e => (sb.2 b hb).trans e) f0 f1 f3 f4 f5
    obtain ⟨oi, e, c, dd⟩ := id st'
    exact ⟨en.key, rfl, go_of (s := { s with heap := h' }) e c dd (by decide) ⟨.ref b, H, I1, hkey, ⟨rfl, k, b, v, hkv, rfl⟩, st', fun b hb => (hf b hb).1⟩⟩
  done := by
    intro X hP hw hK hc i pins s σ H E I hf st hg
    subst hP hw hK
    obtain ⟨hd, hi⟩ := hg
    obtain ⟨f0, f1, f2, f3, f4, f5⟩ := hf it (by simp)
    obtain ⟨h1, hgd, hx, hs', ep', hdt, hsz, ent⟩ := Inv.frzX I hd
    obtain ⟨rfl, rfl⟩ := dict_ep hod hdt
    exact next_key_end (I.ok.hd hc) st hgd hdt hsz hi fun h' eb => ⟨rfl, I.turned (t' := s.toks) (fun b ob hb e => eb b ob hb e) f0 f1 f3 f4 f5⟩
  self := fun A i s Q E st h => by
    refine wpAny_pyIter_slot st.typeIs F.slot_dict_keyiterator_iter (wpAny_call_entry F.slot_dict_keyiterator_iter st.typeIs F.entry_dict_keyiterator_iter ?_ (F.args_dict_keyiterator_iter_1 _))
    show wpAny _ _ (ret (.ref it)) _ _ s
    exact wpAny_pure ⟨_, rfl, "dict_keyiterator", _, st.typeIs, F.slot_dict_keyiterator_next.lookup, h⟩
def iKeysX (P : Program) (w : World) (td : TE) : TI := fun σ H R => td σ H fun x H1 => ∃ d o es, x = .ref d ∧ H1 d = some (.frz o (.ext (TD P w d es))) ∧ R (Itkx P w d o es) H1
theorem pi_keysX {P : Program} {w : World} {tg e : PySem.Expr} {td : TE} (he : PE X e td) : PI X tg e (iKeysX P w td) := by
  refine ⟨fun pins s σ H R I h => ?_⟩
  refine thn (he.run pins s σ H _ I h) fun u s1 ⟨x, H1, I1, rx, d, o, es, ex, hd, q⟩ => ?_
  subst ex
  obtain rfl : u = Value.ref d := rx
  obtain ⟨hs, hgd, hx, hh, ep, hdt, hsz, ent⟩ := Inv.frzX I1 hd
  refine iter_keys hs hgd hx hdt (pi_one (tk := s1.toks) I1 _ (turn_keysX _ hdt) ⟨_, Heap.get?_push_size _ rfl, rfl, ?_⟩ q)
  rw [hsz] <;> rfl
end
def iKeysA (P : Program) (w : World) (td : TE) : TI := fun σ H R => td σ H fun x H1 => ∃ d o, x = .ref d ∧ ((∃ es, H1 d = some (.frz o (.dK es)) ∧ R (Itk d o es) H1) ∨ ∃ es, H1 d = some (.frz o (.ext (TD P w d es))) ∧ R (Itkx P w d o es) H1)
theorem pi_keysA {X : Cx} {P : Program} {w : World} {tg e : PySem.Expr} {td : TE} (he : PE X e td) : PI X tg e (iKeysA P w td) := by
  refine ⟨fun pins s σ H R I h => ?_⟩
  refine thn (he.run pins s σ H _ I h) fun u s1 ⟨x, H1, I1, rx, d, o, ex, q⟩ => ?_
  subst ex
  obtain rfl : u = Value.ref d := rx
  rcases q with ⟨es, hd, q⟩ | ⟨es, hd, q⟩
  · obtain ⟨hs, hgd, hx, hh, ep, vs, hdt, hsz, kv, hm⟩ := I1.frzK hd
    refine iter_keys hs hgd hx hdt (pi_one (tk := s1.toks) I1 _ (turn_keys _ hdt) ⟨_, Heap.get?_push_size _ rfl, rfl, ?_⟩ q)
    rw [hsz] <;> rfl
  · obtain ⟨hs, hgd, hx, hh, ep, hdt, hsz, ent⟩ := Inv.frzX I1 hd
    refine iter_keys hs hgd hx hdt (pi_one (tk := s1.toks) I1 _ (turn_keysX _ hdt) ⟨_, Heap.get?_push_size _ rfl, rfl, ?_⟩ q)
    rw [hsz] <;> rfl
section
variable {Λ : Ln} {X : Cx} {W : WX} {tg e a b : PySem.Expr} {es : List PySem.Expr} {dA dB : Sg → AH → R PV} {pos : Pos}
/-! ### keys -/
theorem KvS.at_ {ρ : List Addr} {H : Hp} : ∀ {es : List (Key × V)} {kvs : List (PV × PV)} {i : Nat} {k : Key} {v : V}, KvS Λ ρ H es kvs → es[i]? = some (k, v) → ∃ p q, kvs[i]? = some (p, q) ∧ Rp Λ ρ H (kV k) p ∧ Rp Λ ρ H v q
  | _, _, i, _, _, .nil, e => by simp at e
  | _, _, 0, _, _, .int r _, e => by simp at e; obtain ⟨rfl, rfl⟩ := e; exact ⟨_, _, rfl, .int _, r⟩
  | _, _, 0, _, _, .str e1 k1 l1 r _, e => by simp at e; obtain ⟨rfl, rfl⟩ := e; exact ⟨_, _, rfl, .str _ _ e1 k1 l1, r⟩
  | _, _, i + 1, _, _, .int _ t, e => by obtain ⟨p, q, h⟩ := KvS.at_ (i := i) t (by simpa using e); exact ⟨p, q, by simpa using h.1, h.2⟩
  | _, _, i + 1, _, _, .str _ _ _ _ t, e => by obtain ⟨p, q, h⟩ := KvS.at_ (i := i) t (by simpa using e); exact ⟨p, q, by simpa using h.1, h.2⟩
theorem KvS.len {ρ : List Addr} {H : Hp} : ∀ {es : List (Key × V)} {kvs : List (PV × PV)}, KvS Λ ρ H es kvs → es.length = kvs.length
  | _, _, .nil => rfl
  | _, _, .int _ t => by simp [KvS.len t]
  | _, _, .str _ _ _ _ t => by simp [KvS.len t]
theorem KvT.at_ {ρ : List Addr} {H : Hp} : ∀ {es : List (NestedKey × Addr × V)} {kvs : List (PV × PV)} {i : Nat} {k : NestedKey} {b : Addr} {v : V}, KvT Λ ρ H es kvs → es[i]? = some (k, b, v) → ∃ p q, kvs[i]? = some (p, q) ∧ Rp Λ ρ H (.ref b) p ∧ Rp Λ ρ H v q
  | _, _, i, _, _, _, .nil, e => by simp at e
  | _, _, 0, _, _, _, .cons _ e1 r _, e => by simp at e; obtain ⟨rfl, rfl, rfl⟩ := e; exact ⟨_, _, rfl, e1, r⟩
  | _, _, i + 1, _, _, _, .cons _ _ _ t, e => by obtain ⟨p, q, h⟩ := KvT.at_ (i := i) t (by simpa using e); exact ⟨p, q, by simpa using h.1, h.2⟩
theorem KvT.len {ρ : List Addr} {H : Hp} : ∀ {es : List (NestedKey × Addr × V)} {kvs : List (PV × PV)}, KvT Λ ρ H es kvs → es.length = kvs.length
  | _, _, .nil => rfl
  | _, _, .cons _ _ _ t => by simp [KvT.len t]
theorem walkOf_keys {d : Addr} {o : Obj} {es : List (Key × V)} {kvs : List (PV × PV)} {g : List (Nat × List PV)} {ρ0 : List Addr} {H0 : Hp} {ah0 : AH} (r0 : RelH Λ ρ0 H0 ah0) (h : H0 d = some (.frz o (.dK es))) (kv : KvS Λ ρ0 H0 es kvs) : WalkOf Λ (Itk d o es) (kvs.map (·.1)) g ρ0 H0 := by
  refine ⟨fun ρ H ah i s r st hi => ⟨s.fz _ _ _ h, by rw [kv.len]; simpa using hi⟩, fun ρ H ah s r st => ⟨s.fz _ _ _ h, by rw [kv.len]; simp⟩, fun ρ H ah i p x H' s r st e y => ?_⟩
  obtain ⟨e1, k, v, e2, e3⟩ := y
  subst e1 e3
  obtain ⟨p', q, e4, e5, _⟩ := kv.at_ e2
  rw [List.getElem?_map, e4] at e
  cases e
  exact ⟨Stp.refl, r, s.rp r0.nt e5⟩
theorem walkOf_keysX {P : Program} {w : World} {d : Addr} {o : Obj} {es : List (NestedKey × Addr × V)} {kvs : List (PV × PV)} {g : List (Nat × List PV)} {ρ0 : List Addr} {H0 : Hp} {ah0 : AH} (r0 : RelH Λ ρ0 H0 ah0) (h : H0 d = some (.frz o (.ext (TD P w d es)))) (kv : KvT Λ ρ0 H0 es kvs) : WalkOf Λ (Itkx P w d o es) (kvs.map (·.1)) g ρ0 H0 := by
  refine ⟨fun ρ H ah i s r st hi => ⟨s.fz _ _ _ h, by rw [kv.len]; simpa using hi⟩, fun ρ H ah s r st => ⟨s.fz _ _ _ h, by rw [kv.len]; simp⟩, fun ρ H ah i p x H' s r st e y => ?_⟩
  obtain ⟨e1, k, b, v, e2, e3⟩ := y
  subst e1 e3
  obtain ⟨p', q, e4, e5, _⟩ := kv.at_ e2
  rw [List.getElem?_map, e4] at e
  cases e
  exact ⟨Stp.refl, r, s.rp r0.nt e5⟩
/-! ### a value that is walked -/
def ivD (dA : Sg → AH → R PV) : Sg → AH → R (List PV × Gd) := fun σ h => (dA σ h).bind fun x h => R.ofO h ((itemsV h x).map fun xs => (xs, gdOf h x))
theorem iv_ok {ρ : List Addr} {H : Hp} {σV : L2.St} {σ : Sg} {ah ah1 : AH} {R' : It → Hp → Prop} {p : PV} {E : XK} (e : dA σ ah = .ok p ah1) (post : Post Λ E (RW' Λ) ρ H (nd (ivD dA σ ah)) R') :
    ∃ xs, itemsV ah1 p = some xs ∧ Post Λ E (RW' Λ) ρ H (nd (.ok (xs, gdOf ah1 p) ah1)) R' := by
  unfold ivD at post
  rw [e] at post
  have post : Post Λ E (RW' Λ) ρ H (nd (R.ofO ah1 ((itemsV ah1 p).map fun xs => (xs, gdOf ah1 p)))) R' := post
  cases q : itemsV ah1 p with
  | none => rw [q] at post; exact post.elim
  | some xs => rw [q] at post; exact ⟨xs, rfl, post⟩
theorem i_val (hk : X.K = Λ.K) (ha : PE X a (tV Λ W dA)) : PI X tg a (tI Λ W (ivD dA)) := by
  refine ⟨fun pins s σV H R' I ⟨ρ, σ, ah, r, rs, post⟩ => ?_⟩
  cases e : dA σ ah with
  | no =>
    unfold ivD at post
    rw [e] at post; exact post.elim
  | ex c fs ah1 =>
    refine (pi_tup ha).run pins s σV H R' I ⟨ρ, σ, ah, r, rs, ?_⟩
    unfold ivD at post
    rw [e] at post ⊢; exact post
  | ok p ah1 =>
    obtain ⟨xs, ei, post⟩ := iv_ok (σV := σV) e post
    cases p with
    | tup ps =>
      cases ei
      refine (pi_tup ha).run pins s σV H R' I ⟨ρ, σ, ah, r, rs, ?_⟩
      rw [e]
      intro ρ1 H1 v s1 r1 rv
      cases rv with
      | tup h1 h2 =>
        refine ⟨_, rfl, ⟨_, by rw [hk]; exact h1⟩, (show Post Λ _ (RW' Λ) ρ H (.ok (_, .lists []) ah1) R' from post) ρ1 H1 _ s1 r1 ?_⟩
        show WalkOf Λ _ _ [] ρ1 H1
        rw [hk]
        exact walkOf_tup r1 h1 h2
    | str t =>
      cases ei
      refine (pi_str ha).run pins s σV H R' I ⟨ρ, σ, ah, r, rs, ?_⟩
      rw [e]
      intro ρ1 H1 v s1 r1 rv
      cases rv with
      | str z _ e1 k1 l1 => exact ⟨z, rfl, (show Post Λ _ (RW' Λ) ρ H (.ok (t.map fun c => .str [c], .lists []) ah1) R' from post) ρ1 H1 _ s1 r1 (walkOf_str e1 k1)⟩
    | obj n =>
      have ei2 : (match ah1[n]? with
        | some (.lst xs) => some xs
        | some (.frz xs) => some xs
        | some (.dct kvs) => some (kvs.map (·.1))
        | some (.frd kvs) => some (kvs.map (·.1))
        | _ => none) = some xs := ei
      cases q1 : ah1[n]? with
      | none => rw [q1] at ei2; cases ei2
      | some o =>
        rw [q1] at ei2
        have gd : gdOf ah1 (.obj n) = (match some o with
          | some (.lst xs) => .lists [(n, xs)]
          | some (.dct _) => .dict n
          | _ => .none) := by rw [← q1]; rfl
        rw [gd] at post
        cases o with
        | lst ys =>
          cases ei2
          refine (pi_list ha).run pins s σV H R' I ⟨ρ, σ, ah, r, rs, ?_⟩
          rw [e]
          intro ρ1 H1 v s1 r1 rv
          cases rv with
          | @obj pa _ e1 =>
            obtain ⟨vs, l1, l2⟩ := r1.ob n pa _ e1 q1
            refine ⟨pa, rfl, ⟨vs, SqL.of l1⟩, (show Post Λ _ (RW' Λ) ρ H (.ok (xs, .lists [(n, xs)]) ah1) R' from post) ρ1 H1 _ s1 r1 ?_⟩
            refine walkOf_list hk fun ρ2 H2 ah2 s2 r2 st => ?_
            obtain ⟨ws, m1, m2⟩ := r2.ob n pa _ (s2.at_ e1) (still_at (n := n) (xs := xs) st (List.mem_singleton.mpr rfl))
            exact ⟨ws, SqL.of m1, m2⟩
        | frz ys =>
          cases ei2
          refine (pi_list ha).run pins s σV H R' I ⟨ρ, σ, ah, r, rs, ?_⟩
          rw [e]
          intro ρ1 H1 v s1 r1 rv
          cases rv with
          | @obj pa _ e1 =>
            obtain ⟨vs, o, l1, l2⟩ := r1.ob n pa _ e1 q1
            refine ⟨pa, rfl, ⟨vs, .inl (.inr ⟨o, l1⟩)⟩, (show Post Λ _ (RW' Λ) ρ H (.ok (xs, .lists []) ah1) R' from post) ρ1 H1 _ s1 r1 ?_⟩
            refine walkOf_list hk fun ρ2 H2 ah2 s2 r2 st => ⟨vs, ?_, s2.rpL r1.nt l2⟩
            exact .inl (.inr ⟨o, s2.fz _ _ _ l1⟩)
        | frd kvs =>
          cases ei2
          refine (pi_keysA (P := Λ.P) (w := Λ.w) ha).run pins s σV H R' I ⟨ρ, σ, ah, r, rs, ?_⟩
          rw [e]
          intro ρ1 H1 v s1 r1 rv
          cases rv with
          | @obj pa _ e1 =>
            obtain ⟨o, u, l1, d⟩ := r1.ob n pa _ e1 q1
            have post := (show Post Λ _ (RW' Λ) ρ H (.ok (kvs.map (·.1), .lists []) ah1) R' from post)
            rcases d with ⟨es, rfl, kv⟩ | ⟨es, rfl, kv, _⟩
            · exact ⟨pa, o, rfl, .inl ⟨es, l1, post ρ1 H1 _ s1 r1 (walkOf_keys r1 l1 kv)⟩⟩
            · exact ⟨pa, o, rfl, .inr ⟨es, l1, post ρ1 H1 _ s1 r1 (walkOf_keysX r1 l1 kv)⟩⟩
        | dct kvs => exact post.elim
        | _ => cases ei2
    | _ => cases ei
/-! ### a fresh list, a range -/
def inD (dL : Sg → AH → R (List PV)) : Sg → AH → R (List PV × Gd) := fun σ h => (dL σ h).bind fun xs h => .ok (xs, .none) h
theorem nd_bind {dL : Sg → AH → R (List PV)} {σ : Sg} {h : AH} : nd (inD dL σ h) = inD dL σ h := by
  unfold inD
  cases dL σ h <;> rfl
theorem i_new {dL : Sg → AH → R (List PV)} (hk : X.K = Λ.K) (ha : PE X a (tF Λ W dL)) : PI X tg a (tI Λ W (inD dL)) :=
  (pi_list ha).mono fun σV H R' ⟨ρ, σ, ah, r, rs, post⟩ => by
    rw [nd_bind] at post
    unfold inD at post
    refine ⟨ρ, σ, ah, r, rs, ?_⟩
    cases e : dL σ ah with
    | no => rw [e] at post; exact post.elim
    | ex c fs ah1 => rw [e] at post; exact post
    | ok ps ah1 =>
      rw [e] at post
      intro ρ1 H1 v s1 r1 ⟨p, xs, ev, h0, h1, na, h2⟩
      refine ⟨p, ev, ⟨xs, SqL.of h1⟩, (show Post Λ _ (RW' Λ) ρ H (.ok (ps, .lists []) ah1) R' from post) ρ1 H1 _ s1 r1 ?_⟩
      exact walkOf_list hk fun ρ2 H2 ah2 s2 r2 _ => ⟨xs, SqL.of (s2.stay p _ na h1), s2.rpL r1.nt h2⟩
def irD (dA : Sg → AH → R PV) : Sg → AH → R (List PV × Gd) := fun σ h => (dA σ h).bind fun x h => match x with
      | .int n => if rngOk n then .ok (rngF 0 n.toNat, .none) h else .no
      | _ => .no
theorem nd_irD {σ : Sg} {h : AH} : nd (irD dA σ h) = irD dA σ h := by
  unfold irD
  cases e : dA σ h with
  | ok p h1 =>
    cases p with
    | int n => show nd (if rngOk n = true then _ else _) = (if rngOk n = true then _ else _); cases rngOk n <;> rfl
    | _ => rfl
  | _ => rfl
theorem rng_ok {i : Int} (h : rngOk i = true) : -(2 ^ 62) ≤ i ∧ i < 2 ^ 62 := by
  obtain ⟨h1, h2⟩ := ba h
  have := of_decide_eq_true h1
  have := of_decide_eq_true h2
  omega
theorem i_rng {p : Pos} (hg : Gl X "range") (hm : X.mg "range" = none) (ha : PE X a (tV Λ W dA)) (hs : isStar a = false) : PI X tg (.Call (.Name "range" p) [a] [] pos) (tI Λ W (irD dA)) :=
  (pi_range1 hg hm (pa_cons ha pa_nil (starEach_no hs)) (starEach_no hs)).mono fun σV H R' ⟨ρ, σ, ah, r, rs, post⟩ => by
    rw [nd_irD] at post
    refine ⟨ρ, σ, ah, r, rs, (Post.bind post).imp fun x H1 ⟨ρ1, q, ah1, s1, r1, rx, _, q1⟩ => ?_⟩
    cases q with
    | int n =>
      cases rx
      obtain ⟨hr, q1⟩ := iteRG q1
      obtain ⟨h1, h2⟩ := rng_ok hr
      exact ⟨n, rfl, h1, h2, q1 ρ1 H1 _ Stp.refl r1 (show WalkOf Λ _ _ [] ρ1 H1 from walkOf_rng)⟩
    | _ => exact q1.elim
def irD2 (dA dB : Sg → AH → R PV) : Sg → AH → R (List PV × Gd) := fun σ h => (dA σ h).bind fun x h => (dB σ h).bind fun y h => match x, y with
      | .int i, .int j => if rngOk i && rngOk j then .ok (rngF i (j - i).toNat, .none) h else .no
      | _, _ => .no
theorem nd_irD2 {σ : Sg} {h : AH} : nd (irD2 dA dB σ h) = irD2 dA dB σ h := by
  unfold irD2
  cases e : dA σ h with
  | ok p h1 =>
    show nd ((dB σ h1).bind _) = (dB σ h1).bind _
    cases e2 : dB σ h1 with
    | ok q h2 =>
      cases p <;> cases q <;> first | rfl | skip
      rename_i i j
      show nd (if (rngOk i && rngOk j) = true then _ else _) = (if (rngOk i && rngOk j) = true then _ else _)
      cases (rngOk i && rngOk j) <;> rfl
    | _ => rfl
  | _ => rfl
theorem i_rng2 {p : Pos} (hg : Gl X "range") (hm : X.mg "range" = none) (ha : PE X a (tV Λ W dA)) (hb : PE X b (tV Λ W dB)) (hs : isStar a = false) (hs2 : isStar b = false) : PI X tg (.Call (.Name "range" p) [a, b] [] pos) (tI Λ W (irD2 dA dB)) :=
  (pi_range2 hg hm (pa_cons ha (pa_cons hb pa_nil (starEach_no hs2)) (starEach_no hs)) (by rw [starEach_no hs, starEach_no hs2]; rfl) (starEach_no hs2)).mono fun σV H R' ⟨ρ, σ, ah, r, rs, post⟩ => by
    rw [nd_irD2] at post
    refine ⟨ρ, σ, ah, r, rs, (Post.bind post).imp fun x H1 ⟨ρ1, q, ah1, s1, r1, rx, _, q1⟩ => ⟨ρ1, σ, ah1, r1, rs.mono s1 r.nt, (Post.bind q1).imp fun y H2 ⟨ρ2, q', ah2, s2, r2, ry, _, q2⟩ => ?_⟩⟩
    cases q <;> first | exact q2.elim | skip
    cases q' <;> first | exact q2.elim | skip
    cases rx
    cases ry
    obtain ⟨hr, q2⟩ := iteRG q2
    obtain ⟨k1, k2⟩ := ba hr
    obtain ⟨h1, h2⟩ := rng_ok k1
    obtain ⟨h3, h4⟩ := rng_ok k2
    exact ⟨_, _, rfl, ⟨h1, h2, h3, h4⟩, q2 ρ2 H2 _ Stp.refl r2 (show WalkOf Λ _ _ [] ρ2 H2 from walkOf_rng)⟩
end
end NI
end

section
set_option Elab.async false
set_option autoImplicit false
set_option linter.all false
set_option maxRecDepth 100000
set_option maxHeartbeats 2000000
/-! List comprehensions. -/
namespace NI
open PySem PySem.Spec PyProof.Rows L2
theorem wipe_some {σ : L2.St} : ∀ {us vs : List Nat}, (∀ i ∈ us, i ∈ vs) → L2.wipe (L2.wipe σ us) vs = L2.wipe σ vs
  | [], _, _ => rfl
  | u :: us, vs, h => by
    show L2.wipe ((L2.wipe σ us).set u none) vs = _
    rw [wipe_set (h u (by simp)), wipe_some fun i hi => h i (by simp [hi])]
def Wf : WX := fun _ _ _ _ => False
def stepD (own : List Nat) (dT : PV → Sg → AH → R Sg) (dC : Sg → AH → R Bool) (dE : Sg → AH → R PV) (σ : Sg) : PV → AH → R (Option PV) := fun x h => (dT x (NI.wipe σ own) h).bind fun σ1 h => (dC σ1 h).bind fun b h => (match b with
        | true => (dE σ1 h).bind fun y h => .ok (some y) h
        | false => .ok none h)
def lcD (own : List Nat) (dQ : Sg → AH → R (List PV × Gd)) (dT : PV → Sg → AH → R Sg) (dC : Sg → AH → R Bool) (dE : Sg → AH → R PV) : Sg → AH → R (List PV) := fun σ h => wlk (dQ σ) h fun q g h => if !fits q.length then .no else lcF g (stepD own dT dC dE σ) q h
section
variable {Λ : Ln} {X : Cx} {W : WX} {tg e a b : PySem.Expr} {es : List PySem.Expr} {dA dB : Sg → AH → R PV} {pos : Pos}
theorem lc_loop {J : It} {xs : List PV} {g : List (Nat × List PV)} {ρ1 : List Addr} {H1 : Hp} {ah1 : AH} {σV : L2.St} {σ : Sg} {E : XK} {Q : V → Hp → Prop} {sl own : List Nat} {dT : PV → Sg → AH → R Sg} {dC : Sg → AH → R Bool} {dE : Sg → AH → R PV}
    (w : WalkOf Λ J xs g ρ1 H1) (r1 : RelH Λ ρ1 H1 ah1) (rs1 : RelS Λ ρ1 σV H1 σ) (post : Post Λ E (RLf Λ H1) ρ1 H1 (lcF g (stepD own dT dC dE σ) xs ah1) Q) (hn : xs.length ≤ sizeLine) (ho : ∀ i ∈ sl, i ∈ own) {D : Addr} (hD : H1 D = none) :
    ∃ M : Nat → Nat → Hp → Prop, (∃ m, M 0 m (upd H1 D (.lst []))) ∧ ∀ i m H, M i m H →
      (J.stop i H ∧ Q (.ref D) H) ∨ (J.go i H ∧ ∃ Nx : Hp → Prop, (∀ H', Nx H' → ∃ m', m' < m ∧ M (i + 1) m' H') ∧ ∀ x H', J.yld i H x H' → tT Λ Wf sl dT x (L2.wipe σV own) H' fun σ2 H2 => L2.wipe σ2 own = L2.wipe σV own ∧ tG Λ Wf (fun _ _ b b' => b = b') dC σ2 H2 fun b H3 =>
        if b = true then tV Λ Wf dE σ2 H3 fun y H4 => ∃ acc, H4 D = some (.lst acc) ∧ acc.length < sizeLine ∧ Nx (upd H4 D (.lst (acc ++ [y]))) else Nx H3) := by
  let M : Nat → Nat → Hp → Prop := fun i m H => m = xs.length - i ∧ i ≤ xs.length ∧ ∃ ρ ah acc accV, Stp ρ1 H1 ρ H ∧ RelH Λ ρ H ah ∧ D ∉ ρ ∧ H D = some (.lst accV) ∧ RpL Λ ρ H accV acc ∧ acc.length ≤ i ∧ Post Λ E (RLf Λ H1) ρ1 H1 ((lcF g (stepD own dT dC dE σ) (xs.drop i) ah).bind fun ys h => .ok (acc ++ ys) h) Q
  have s0 : Stp ρ1 H1 ρ1 (upd H1 D (.lst [])) := Stp.fresh hD _
  refine ⟨M, ⟨xs.length, by simp, Nat.zero_le _, ρ1, ah1, [], [], s0, r1.fresh hD _, r1.notin hD, upd_same, .nil, Nat.le_refl _, ?_⟩, ?_⟩
  · rw [List.drop_zero]
    have e : ((lcF g (stepD own dT dC dE σ) xs ah1).bind fun ys h => R.ok ([] ++ ys) h) = lcF g (stepD own dT dC dE σ) xs ah1 := by
      cases lcF g (stepD own dT dC dE σ) xs ah1 <;> rfl
    rw [e]; exact post
  rintro i m H ⟨rfl, hi, ρ, ah, acc, accV, s, r, na, hDa, ra, la, post⟩
  by_cases hlt : i < xs.length
  · -- a turn
    have hx : xs[i]? = some xs[i] := List.getElem?_eq_getElem hlt
    rw [List.drop_eq_getElem_cons hlt] at post
    generalize xs[i] = p at hx post
    have post : Post Λ E (RLf Λ H1) ρ1 H1 ((if still g ah = true then (match stepD own dT dC dE σ p ah with
      | .ok (some y) h1 => (lcF g (stepD own dT dC dE σ) (xs.drop (i + 1)) h1).bind fun ys h => .ok (y :: ys) h
      | .ok none h1 => lcF g (stepD own dT dC dE σ) (xs.drop (i + 1)) h1
      | _ => .no) else .no).bind fun ys h => .ok (acc ++ ys) h) Q := post
    cases st : still g ah with
    | false => rw [st] at post; exact post.elim
    | true =>
      rw [st] at post
      refine .inr ⟨w.goes ρ H ah i s r st hlt, M (i + 1) (xs.length - (i + 1)), fun H' q => ⟨_, by omega, q⟩, fun x H' y => ?_⟩
      obtain ⟨s2, r2, rx⟩ := w.yields ρ H ah i p x H' s r st hx y
      have hD2 : H' D = some (.lst accV) := s2.stay D _ na hDa
      have ra2 := s2.rpL r.nt ra
      have s12 := s.trans s2
      have rs2 : RelS Λ ρ (L2.wipe σV own) H' (NI.wipe σ own) := (rs1.mono s12 r1.nt).wipe own
      refine ⟨ρ, p, NI.wipe σ own, ah, r2, rs2, rx, ?_⟩
      -- what the step does
      cases e1 : dT p (NI.wipe σ own) ah with
      | no => simp [stepD, e1, R.bind, Post] at post
      | ex c fs h => simp [stepD, e1, R.bind, Post] at post
      | ok σ1 h1 =>
        intro ρ3 H3 σV3 s3 r3 ⟨rs3, sm⟩
        have na3 : D ∉ ρ3 := fun z => by
          have := s3.new D z na
          rw [hD2] at this; cases this
        refine ⟨(sm own ho).trans (wipe_some fun _ h => h), ρ3, σ1, h1, r3, rs3, ?_⟩
        cases e2 : dC σ1 h1 with
        | no => simp [stepD, e1, e2, R.bind, Post] at post
        | ex c fs h => simp [stepD, e1, e2, R.bind, Post] at post
        | ok bb h2 =>
          intro ρ4 H4 b' s4 r4 eb
          subst eb
          have hD4 : H4 D = some (.lst accV) := s4.stay D _ na3 (s3.stay D _ na hD2)
          have na4 : D ∉ ρ4 := fun z => by
            have := s4.new D z na3
            rw [s3.stay D _ na hD2] at this; cases this
          have ra4 := s4.rpL r3.nt (s3.rpL r2.nt ra2)
          cases b' with
          | false =>
            have post : Post Λ E (RLf Λ H1) ρ1 H1 ((lcF g (stepD own dT dC dE σ) (xs.drop (i + 1)) h2).bind fun ys h => .ok (acc ++ ys) h) Q := by simpa [stepD, e1, e2, R.bind] using post
            exact ⟨rfl, hlt, ρ4, h2, acc, accV, (s12.trans s3).trans s4, r4, na4, hD4, ra4, by omega, post⟩
          | true =>
            refine ⟨ρ4, σ1, h2, r4, rs3.mono s4 r3.nt, ?_⟩
            cases e3 : dE σ1 h2 with
            | no => simp [stepD, e1, e2, e3, R.bind, Post] at post
            | ex c fs h => simp [stepD, e1, e2, e3, R.bind, Post] at post
            | ok q h3 =>
              intro ρ5 H5 y5 s5 r5 ry
              have hD5 := s5.stay D _ na4 hD4
              have na5 : D ∉ ρ5 := fun z => by
                have := s5.new D z na4
                rw [hD4] at this; cases this
              have ra5 := s5.rpL r4.nt ra4
              refine ⟨accV, hD5, ?_, ?_⟩
              · rw [ra.length]; omega
              have post : Post Λ E (RLf Λ H1) ρ1 H1 ((lcF g (stepD own dT dC dE σ) (xs.drop (i + 1)) h3).bind fun ys h => .ok ((acc ++ [q]) ++ ys) h) Q := by
                have e4 : ∀ z : R (List PV), ((z.bind fun ys h => R.ok (q :: ys) h).bind fun ys h => R.ok (acc ++ ys) h) = z.bind fun ys h => R.ok ((acc ++ [q]) ++ ys) h := fun z => by cases z <;> simp [R.bind]
                have := post
                simp only [stepD, e1, e2, e3, R.bind, if_true] at this
                rw [← e4]
                simpa only [R.bind] using this
              have hup : ∀ b ∈ ρ5, upd H5 D (.lst (accV ++ [y5])) b = H5 b := fun b hb => upd_ne fun z => na5 (z ▸ hb)
              have hsq : ∀ (a : Addr) (ys : List V), SqT Λ.K H5 a ys → SqT Λ.K (upd H5 D (.lst (accV ++ [y5]))) a ys := fun a ys q => sqT_old (nt_of hD5 (fun _ z => nomatch z) fun _ _ z => nomatch z) q
              have s6 : Stp ρ1 H1 ρ5 (upd H5 D (.lst (accV ++ [y5]))) := by
                have s15 := ((s12.trans s3).trans s4).trans s5
                exact ⟨s15.pre, fun b o nb eb => by rw [upd_ne fun z => by rw [z, hD] at eb; cases eb]; exact s15.stay b o nb eb, s15.new, fun b o u eb => by rw [upd_ne fun z => by rw [z, hD] at eb; cases eb]; exact s15.fz b o u eb⟩
              have rpm : ∀ {v : V} {p : PV}, Rp Λ ρ5 H5 v p → Rp Λ ρ5 (upd H5 D (.lst (accV ++ [y5]))) v p := fun h => Rp.mono hsq (fun _ _ z => z) _ _ h
              exact ⟨rfl, hlt, ρ5, h3, acc ++ [q], accV ++ [y5], s6, r5.keep hup hsq (fun d fs _ n2 => by
                have nd : d ≠ D := fun z => by
                  rw [z, hD5] at n2
                  have z2 : HO.lst accV = HO.ext _ := Option.some.inj n2
                  cases z2
                rw [upd_ne nd]; exact n2), na5, upd_same, (RpL.mono hsq (fun _ _ z => z) _ _ ra5).append (.cons (rpm ry) .nil), by simp; omega, post⟩
  · have e : i = xs.length := by omega
    subst e
    rw [List.drop_length] at post
    have post : Post Λ E (RLf Λ H1) ρ1 H1 ((if still g ah = true then R.ok [] ah else .no).bind fun ys h => .ok (acc ++ ys) h) Q := post
    cases st : still g ah with
    | false => rw [st] at post; exact post.elim
    | true =>
      rw [st] at post
      refine .inl ⟨w.stops ρ H ah s r st, ?_⟩
      have post : Post Λ E (RLf Λ H1) ρ1 H1 (.ok (acc ++ []) ah) Q := post
      rw [List.append_nil] at post
      exact post ρ H _ s r ⟨D, accV, rfl, hD, hDa, na, ra⟩
end
end NI
end

section
set_option Elab.async false
set_option autoImplicit false
set_option linter.all false
set_option maxRecDepth 100000
set_option maxHeartbeats 2000000
/-! A dict that is walked stands still. -/
namespace NI
open PySem PySem.Spec PyProof.Rows L2
section
variable {Λ : Ln} {X : Cx} {W : WX} {tg e a b : PySem.Expr} {es : List PySem.Expr} {dA dB : Sg → AH → R PV} {pos : Pos} {ρ ρ' : List Addr} {H H' : Hp} {ah ah' ah'' : AH} {n : Nat} {kvs : List (PV × PV)}
theorem dobj_mut {d : Addr} {u : HO} (h : DObj Λ ρ H d kvs u) : Mut (some u) := by
  rcases h with ⟨_, rfl, _⟩ | ⟨_, rfl, _⟩ <;> trivial
theorem dobj_nt {d : Addr} {u : HO} (h : DObj Λ ρ H d kvs u) : (∀ xs, u ≠ .tup xs) ∧ (∀ o xs, u ≠ .frz o (.tup xs)) ∧ (∀ o v, u ≠ .frz o v) := by
  rcases h with ⟨_, rfl, _⟩ | ⟨_, rfl, _⟩ <;> exact ⟨(fun _ z => nomatch z), (fun _ _ z => nomatch z), (fun _ _ z => nomatch z)⟩
theorem frz_in (r : RelH Λ ρ H ah) (hn : ah[n]? = some (.dct kvs)) : ∃ d u, ρ[n]? = some d ∧ H d = some u ∧ DObj Λ ρ H d kvs u ∧ (∀ od (a : Addr) (xs : List V), SqT Λ.K H a xs → SqT Λ.K (upd H d (.frz od u)) a xs) ∧ ∀ od, RelH Λ ρ (upd H d (.frz od u)) (ah.set n (.frd kvs)) := by
  have hl : n < ρ.length := by rw [r.len]; exact (List.getElem?_eq_some_iff.mp hn).1
  have hd : ρ[n]? = some ρ[n] := List.getElem?_eq_getElem hl
  generalize ρ[n] = d at hd
  obtain ⟨u, h1, h2⟩ := r.ob n d _ hd hn
  have nt := r.nt d (List.mem_of_getElem? hd)
  refine ⟨d, u, hd, h1, h2, fun od a xs q => sqT_old nt q, fun od => ?_⟩
  obtain ⟨n1, n2, n3⟩ := dobj_nt h2
  refine r.write hd (fun ys q => ?_) ⟨od, u, upd_same, h2.mono (fun _ _ q => sqT_old nt q) fun _ _ z => z⟩
  rcases q with q | ⟨o, q⟩ <;> rw [upd_same] at q
  · cases q
  · cases q; exact n1 ys rfl
theorem frz_out {d : Addr} {u : HO} {od : Obj} (h0 : H d = some u) (d0 : DObj Λ ρ H d kvs u) (hd : ρ[n]? = some d) (s : Stp ρ (upd H d (.frz od u)) ρ' H') (r' : RelH Λ ρ' H' ah') (hu : unfz n ah' = some ah'') :
    H' d = some (.frz od u) ∧ Stp ρ H ρ' (upd H' d u) ∧ RelH Λ ρ' (upd H' d u) ah'' ∧ ∀ (a : Addr) (xs : List V), SqT Λ.K H' a xs → SqT Λ.K (upd H' d u) a xs := by
  have e : H' d = some (.frz od u) := s.fz d od u upd_same
  have hd' := s.at_ hd
  have nt := r'.nt d (List.mem_of_getElem? hd')
  have sq : ∀ (a : Addr) (xs : List V), SqT Λ.K H' a xs → SqT Λ.K (upd H' d u) a xs := fun a xs q => sqT_old nt q
  obtain ⟨n1, n2, n3⟩ := dobj_nt d0
  refine ⟨e, ⟨s.pre, fun a o na ea => ?_, fun a h1 h2 => ?_, fun a o v ea => ?_⟩, ?_, sq⟩
  · have nd : a ≠ d := fun z => na (z ▸ List.mem_of_getElem? hd)
    rw [upd_ne nd]
    exact s.stay a o na (by rw [upd_ne nd]; exact ea)
  · have := s.new a h1 h2
    have nd : a ≠ d := fun z => h2 (z ▸ List.mem_of_getElem? hd)
    rw [upd_ne nd] at this; exact this
  · have nd : a ≠ d := fun z => by
      subst z; rw [h0] at ea; exact n3 o v (Option.some.inj ea)
    rw [upd_ne nd]
    exact s.fz a o v (by rw [upd_ne nd]; exact ea)
  · unfold unfz at hu
    cases q : ah'[n]? with
    | none => rw [q] at hu; cases hu
    | some ao =>
      rw [q] at hu
      cases ao with
      | frd kvs' =>
        cases hu
        obtain ⟨o, v, e2, d2⟩ := r'.ob n d _ hd' q
        rw [e] at e2
        cases e2
        refine r'.write hd' (fun ys q => ?_) ⟨u, upd_same, d2.mono sq fun _ _ z => z⟩
        rcases q with q | ⟨o, q⟩ <;> rw [upd_same] at q
        · exact n1 ys (Option.some.inj q)
        · exact n2 o ys (Option.some.inj q)
      | _ => cases hu
theorem RelS.up {σV : L2.St} {σ : Sg} (r : RelS Λ ρ σV H σ) (sq : ∀ (a : Addr) (xs : List V), SqT Λ.K H a xs → SqT Λ.K H' a xs) : RelS Λ ρ σV H' σ :=
  ⟨r.len, fun i p e => let ⟨v, a, b⟩ := r.at_ i p e; ⟨v, a, Rp.mono sq (fun _ _ z => z) _ _ b⟩⟩
theorem post_unf {E E' : XK} {x : R (List PV)} {Q : V → Hp → Prop} {d : Addr} {u : HO} {od : Obj} (h0 : H d = some u) (d0 : DObj Λ ρ H d kvs u) (hd : ρ[n]? = some d) (post : Post Λ E (RLf Λ H) ρ H (x.unf n) Q) :
    Post Λ E' (RLf Λ (upd H d (.frz od u))) ρ (upd H d (.frz od u)) x fun v H' => H' d = some (.frz od u) ∧ Q v (upd H' d u) := by
  cases x with
  | no => exact post.elim
  | ex c fs h => exact post.elim
  | ok ps h3 =>
    have post : Post Λ E (RLf Λ H) ρ H (match unfz n h3 with
      | some h => .ok ps h
      | none => .no) Q := post
    cases e : unfz n h3 with
    | none => rw [e] at post; exact post.elim
    | some h4 =>
      rw [e] at post
      intro ρ' H' v s r' ⟨a, xs, ev, f0, f1, na, rr⟩
      obtain ⟨k1, k2, k3, k4⟩ := frz_out h0 d0 hd s r' e
      have nad : a ≠ d := fun z => by
        subst z; rw [k1] at f1; cases f1
      refine ⟨k1, post ρ' _ v k2 k3 ⟨a, xs, ev, by rw [upd_ne nad] at f0; exact f0, by rw [upd_ne nad]; exact f1, na, RpL.mono k4 (fun _ _ z => z) _ _ rr⟩⟩
theorem notfits {q : List PV} {x : R (List PV)} {E : XK} {H0 : Hp} {Q : V → Hp → Prop} (h : Post Λ E (RLf Λ H0) ρ H (if (!fits q.length) = true then .no else x) Q) : q.length ≤ sizeLine ∧ Post Λ E (RLf Λ H0) ρ H x Q := by
  cases e : fits q.length with
  | false => rw [e] at h; exact h.elim
  | true => rw [e] at h; exact ⟨fits_le e, h⟩
theorem n_lc {elt iter : PySem.Expr} {ifs : List PySem.Expr} {scope : Scope} {own : List (Str × Nat)} {dQ : Sg → AH → R (List PV × Gd)} {dT : PV → Sg → AH → R Sg} {dC : Sg → AH → R Bool} {dE : Sg → AH → R PV} {sl : List Nat}
    (hc : X.calm = true) (hN : X.N.Nodup) (hi : PI X tg iter (tI Λ W dQ)) (ok : BlkOk X.N X.env.scope scope own) (ho : ∀ i ∈ sl, i ∈ own.map (·.2))
    (hg : ∀ (s : Shared) (H : Hp) (C : Addr) (cl : List (Str × Addr)) (fp : List Addr), PG (X.blk s H scope (compEnvC scope cl C X.env) fp) tg (tT Λ Wf sl dT))
    (ht : ∀ (s : Shared) (H : Hp) (C : Addr) (cl : List (Str × Addr)) (fp : List Addr), PTs (X.blk s H scope (compEnvC scope cl C X.env) fp) ifs (tG Λ Wf (fun _ _ b b' => b = b') dC))
    (he : ∀ (s : Shared) (H : Hp) (C : Addr) (cl : List (Str × Addr)) (fp : List Addr), PE (X.blk s H scope (compEnvC scope cl C X.env) fp) elt (tV Λ Wf dE)) (hs : ∀ x, foldedSetIterable iter X.env x = pure x) :
    PE X (.ListComp elt [⟨tg, iter, ifs, 0⟩] scope pos) (tF Λ W (lcD (own.map (·.2)) dQ dT dC dE)) := by
  have P := pe_lc (pos := pos) hc hN hi ok hg ht he hs
  refine ⟨fun pins s σV H Q I ⟨ρ, σ, ah, r, rs, post⟩ => ?_⟩
  unfold lcD wlk at post
  cases e : dQ σ ah with
  | no => rw [e] at post; exact post.elim
  | ex c fs h1 =>
    rw [e] at post
    refine P.run pins s σV H Q I ⟨ρ, σ, ah, r, rs, ?_⟩
    rw [e]; exact post
  | ok q h1 =>
    obtain ⟨q, gd⟩ := q
    rw [e] at post
    cases gd with
    | lists g =>
      obtain ⟨hf, post⟩ := notfits post
      refine P.run pins s σV H Q I ⟨ρ, σ, ah, r, rs, ?_⟩
      rw [e]
      intro ρ1 H1 J s1 r1 hw D hD
      exact lc_loop hw r1 (rs.mono s1 r.nt) (post.stepL s1 r1) hf ho hD
    | dict n =>
      have post : Post Λ (fun c d H' => W c d σV H') (RLf Λ H) ρ H (match ah[n]? with
        | some (.dct kvs) => (match dQ σ (ah.set n (.frd kvs)) with
          | .ok (xs, .lists g) h1 => (if (!fits xs.length) = true then .no else lcF g (stepD (own.map (·.2)) dT dC dE σ) xs h1).unf n
          | _ => .no)
        | _ => .no) Q := post
      cases en : ah[n]? with
      | none => rw [en] at post; exact post.elim
      | some o =>
        cases o with
        | dct kvs =>
          rw [en] at post
          dsimp only at post
          cases e2 : dQ σ (ah.set n (.frd kvs)) with
          | no => rw [e2] at post; exact post.elim
          | ex c fs h => rw [e2] at post; exact post.elim
          | ok q2 h2 =>
            obtain ⟨q2, gd2⟩ := q2
            rw [e2] at post
            cases gd2 with
            | dict m => exact post.elim
            | lists g =>
              dsimp only at post
              obtain ⟨d, u, hd, h0, d0, sq, rf⟩ := frz_in r en
              refine (pe_lock P).run pins s σV H Q I ⟨d, u, h0, dobj_mut d0, fun od => ⟨ρ, σ, _, rf od, rs.up (sq od), ?_⟩⟩
              rw [e2]
              intro ρ1 H1 J s1 r1 hw D hD
              obtain ⟨hf, p2⟩ := notfits (post_unf (E' := fun _ _ _ => False) (od := od) h0 d0 hd post)
              exact lc_loop hw r1 ((rs.up (sq od)).mono s1 (rf od).nt) (p2.stepL s1 r1) hf ho hD
        | _ => rw [en] at post; exact post.elim
end
end NI
end

section
set_option Elab.async false
set_option autoImplicit false
set_option linter.all false
set_option maxRecDepth 100000
set_option maxHeartbeats 2000000
/-! Calls of defs, of built-ins. -/
namespace NI
open PySem PySem.Spec PyProof.Rows L2
/-- what a def promises -/
def spO (Λ : Ln) (fn : List PV → AH → R PV) (n : Nat) : Sp := fun vs H Q E => ∃ ρ ps ah, vs.length = n ∧ RelH Λ ρ H ah ∧ RpL Λ ρ H vs ps ∧ Post Λ E (Rp Λ) ρ H (fn ps ah) Q
section
variable {Λ : Ln} {X : Cx} {W : WX} {e a b : PySem.Expr} {es : List PySem.Expr} {dA dB : Sg → AH → R PV} {dL : Sg → AH → R (List PV)} {pos p : Pos}
theorem noStars {pos : Pos} {env : Env} : ∀ {es : List PySem.Expr}, es.all (fun e => !isStar e) = true → (backTo pos (starEach es env)).any (·.1) = false
  | [], _ => rfl
  | e :: es, h => by
    rw [List.all_cons] at h
    obtain ⟨h1, h2⟩ := ba h
    rw [starEach_no (by simpa using h1)]
    show (false || _) = false
    rw [Bool.false_or]
    exact noStars h2
theorem stars1 (h : (e :: es).all (fun e => !isStar e) = true) : isStar e = false ∧ es.all (fun e => !isStar e) = true := by
  rw [List.all_cons] at h
  obtain ⟨h1, h2⟩ := ba h
  exact ⟨by simpa using h1, h2⟩
/-- a reading over a row of arguments -/
theorem tVs.bind {σV : L2.St} {H : Hp} {Q : VK} {f : List PV → AH → R PV} (h : tV Λ W (fun σ h => (dL σ h).bind fun vs h => f vs h) σV H Q) :
    tVs Λ W dL σV H fun vs H1 => ∃ ρ ps ah, RelH Λ ρ H1 ah ∧ RpL Λ ρ H1 vs ps ∧ Post Λ (fun c d H' => W c d σV H') (Rp Λ) ρ H1 (f ps ah) Q := by
  obtain ⟨ρ, σ, ah, r, rs, post⟩ := h
  exact ⟨ρ, σ, ah, r, rs, (Post.bind post).imp fun vs H1 ⟨ρ1, ps, ah1, s1, r1, rv, _, q⟩ => ⟨ρ1, ps, ah1, r1, rv, q⟩⟩
variable {CX : CXT} {k : Nat} {f : Addr} {fd : FuncData} {ps : List Str} {fn : List PV → AH → R PV} {x : Str}
theorem lenOk (hf : ∀ vs h, fn vs h = .no ∨ vs.length = ps.length) {vs : List V} {H : Hp} {Q : VK} {E : XK} {ρ : List Addr} {qs : List PV} {ah : AH} (rv : RpL Λ ρ H vs qs) (post : Post Λ E (Rp Λ) ρ H (fn qs ah) Q) : vs.length = ps.length := by
  rcases hf qs ah with e | e
  · rw [e] at post; exact post.elim
  · rw [rv.length]; exact e
theorem n_call (F : FnOk X.prog X.w X.K X.mg X.base CX k f fd ps (spO Λ fn ps.length)) (hf : ∀ vs h, fn vs h = .no ∨ vs.length = ps.length) (hr : Room k X.A) (hg : Gl X x) (hm : X.mg x = some (.ref f)) (hk : PySem.W.keepIn X.K (.ref f) = true) (hb : Binds X.K fd ps [])
    (hx : ∀ σ, PassesAt CX X σ (WE W σ)) (hd : (x == ("__debug__" : Str)) = false) (hs : (e :: es).all (fun e => !isStar e) = true) (ha : PA X (e :: es) (tVs Λ W dL)) :
    PV' Λ X W (.Call (.Name x p) (e :: es) [] pos) (fun σ h => (dL σ h).bind fun vs h => fn vs h) :=
  pv_plain ((pe_callS (E := WE W) F hr hg hm hk hb hx ha hd (starEach_no (stars1 hs).1) (noStars (stars1 hs).2)).mono fun σ H Q h => by
    obtain ⟨ρ, sg, ah, r, rs, q⟩ := tVs.bind h
    exact ⟨ρ, sg, ah, r, rs, q.imp fun vs H1 ⟨ρ1, qs, ah1, r1, rv, post⟩ => ⟨ρ1, qs, ah1, lenOk hf rv post, r1, rv, post⟩⟩) fun _ => rfl
theorem n_call0 (F : FnOk X.prog X.w X.K X.mg X.base CX k f fd ps (spO Λ fn ps.length)) (hf : ∀ vs h, fn vs h = .no ∨ vs.length = ps.length) (hr : Room k X.A) (hg : Gl X x) (hm : X.mg x = some (.ref f)) (hk : PySem.W.keepIn X.K (.ref f) = true) (hb : Binds X.K fd ps [])
    (hx : ∀ σ, PassesAt CX X σ (WE W σ)) (hd : (x == ("__debug__" : Str)) = false) : PV' Λ X W (.Call (.Name x p) [] [] pos) (fun _ h => fn [] h) :=
  pv_plain ⟨fun pins s σ H Q I ⟨ρ, sg, ah, r, rs, post⟩ => by
    refine wpAny_Call_Name_kw (ld_glob I hg hm ?_ hd)
    exact PySem.W.callWith_K0 I.kIn hk (run_fnS (us := []) (vs := []) (E := WE W) F hr hb (hx σ) I .nil ⟨ρ, [], ah, lenOk hf .nil post, r, .nil, post⟩)⟩ fun _ => rfl
/-- a built-in's answer by plain values -/
def rB (Λ : Ln) (f : List PV → AH → R PV) : List V → Hp → VK → Prop := fun vs H Q => ∃ (E : XK) (ρ : List Addr) (ps : List PV) (ah : AH), RelH Λ ρ H ah ∧ RpL Λ ρ H vs ps ∧ Post Λ E (Rp Λ) ρ H (f ps ah) Q
theorem CallR.mono {v : Value} {r r' : List V → Hp → VK → Prop} (h : CallR X v r) (i : ∀ vs H Q, r' vs H Q → r vs H Q) : CallR X v r' := fun pins s σ H vs us Q I rv q => h pins s σ H vs us Q I rv (i vs H Q q)
theorem n_blt {id : String} {f : List PV → AH → R PV} (hc : CallR X (.builtin id) (rB Λ f)) (hg : Gl X x) (hm : X.mg x = none) (hv : bootBuiltins x = some (.builtin id)) (hn : x ≠ "__name__") (hd : (x == ("__debug__" : Str)) = false)
    (hs : (e :: es).all (fun e => !isStar e) = true) (ha : PA X (e :: es) (tVs Λ W dL)) : PV' Λ X W (.Call (.Name x p) (e :: es) [] pos) (fun σ h => (dL σ h).bind fun vs h => f vs h) :=
  pv_plain ((pe_callB hc hg hm hv ha hn hd (starEach_no (stars1 hs).1) (noStars (stars1 hs).2)).mono fun σ H Q h => by
    obtain ⟨ρ, sg, ah, r, rs, q⟩ := tVs.bind h
    exact ⟨ρ, sg, ah, r, rs, q.imp fun vs H1 ⟨ρ1, qs, ah1, r1, rv, post⟩ => ⟨_, ρ1, qs, ah1, r1, rv, post⟩⟩) fun _ => rfl
theorem n_blty {T : String} {f : List PV → AH → R PV} (hc : CallR X (.type T) (rB Λ f)) (hg : Gl X x) (hm : X.mg x = none) (hv : bootBuiltins x = some (.type T)) (hn : x ≠ "__name__") (hd : (x == ("__debug__" : Str)) = false)
    (hs : (e :: es).all (fun e => !isStar e) = true) (ha : PA X (e :: es) (tVs Λ W dL)) : PV' Λ X W (.Call (.Name x p) (e :: es) [] pos) (fun σ h => (dL σ h).bind fun vs h => f vs h) :=
  pv_plain ((pe_callTy hc hg hm hv ha hn hd (starEach_no (stars1 hs).1) (noStars (stars1 hs).2)).mono fun σ H Q h => by
    obtain ⟨ρ, sg, ah, r, rs, q⟩ := tVs.bind h
    exact ⟨ρ, sg, ah, r, rs, q.imp fun vs H1 ⟨ρ1, qs, ah1, r1, rv, post⟩ => ⟨_, ρ1, qs, ah1, r1, rv, post⟩⟩) fun _ => rfl
/-! ### len, int, str, abs -/
def lenB (vs : List PV) (h : AH) : R PV := R.ofO h (bfV .len h vs)
theorem b_len (fx : Fx Λ X) : CallR X (.builtin "len") (rB Λ fun vs h => R.ofO h (bfV .len h vs)) := by
  refine CallR.mono (r := fun xs H Q => (∃ x n, xs = [x] ∧ LenV X.K x H n ∧ Q (.int n) H) ∨ ∃ a o kvs ρ, xs = [.ref a] ∧ Rd H a o ∧ DObj Λ ρ H a kvs o ∧ Q (.int kvs.length) H) (fun pins s σ H vs us Q I rv h => ?_) fun vs H Q ⟨E, ρ, ps, ah, r, rv, post⟩ => ?_
  · rcases h with h | ⟨a, o, kvs, ρ, rfl, rd, d, q⟩
    · exact call_len pins s σ H vs us Q I rv h
    · cases rv with
      | cons ra rt =>
        cases rt
        cases ra
        rcases d with ⟨es, rfl, kv⟩ | ⟨es, rfl, kv, _⟩
        · exact d_len I rd fun t s' I' => ⟨.int es.length, H, I', ⟨t, rfl⟩, by rw [kv.len]; exact q⟩
        · have td : TD Λ.P Λ.w a es s.heap := (rd.ok I.hok).1
          obtain ⟨hd, xs, d1, d2, d3, pr⟩ := td_keyed I fx.k fx.p fx.w td kv
          have hl : xs.length = kvs.length := by rw [← Paired.length pr, kv.len]
          refine call_len_dictH hd d1 (by rw [sizeLine_eq] at d3; omega) ⟨.int xs.length, H, I.tok _, ⟨_, rfl⟩, ?_⟩
          rw [hl]; exact q
  · obtain ⟨z, ez, post⟩ := Post.ofO post
    have fin : ∀ n : Nat, z = .int n → Q (.int n) H := fun n e => post ρ H _ Stp.refl r (by rw [e]; exact .int _)
    cases rv with
    | nil => cases ez
    | @cons v vs p ps' r1 rt =>
      cases rt with
      | @cons _ _ p2 ps2 _ rt2 =>
        cases rt2 with
        | nil => cases p <;> first | (cases ez; done) | (cases p2 <;> cases ez; done)
        | cons _ _ => cases ez
      | nil =>
        obtain ⟨n, en, rfl⟩ := Option.map_eq_some_iff.mp (show (lenV ah p).map (fun (n : Nat) => PV.int (n : Int)) = some z from ez)
        cases p with
        | str t =>
          cases r1 with
          | str x _ e1 k1 l1 =>
            cases en
            refine .inl ⟨_, t.length, rfl, ⟨l1, ?_⟩, fin _ rfl⟩
            rw [← e1, len_txt]
        | tup xs =>
          cases r1 with
          | tup h1 h2 =>
            cases en
            exact .inl ⟨_, xs.length, rfl, .inr ⟨_, by rw [fx.k]; exact h1, h2.length.symm⟩, fin _ rfl⟩
        | obj m =>
          cases r1 with
          | @obj pa _ e1 =>
            have en2 : (match ah[m]? with
              | some (.lst xs) => some xs.length
              | some (.frz xs) => some xs.length
              | some (.dct xs) => some xs.length
              | some (.frd xs) => some xs.length
              | _ => none) = some n := en
            cases q1 : ah[m]? with
            | none => rw [q1] at en2; cases en2
            | some o =>
              rw [q1] at en2
              have ob := r.ob m pa o e1 q1
              cases o with
              | lst xs =>
                cases en2
                obtain ⟨ys, h1, h2⟩ := ob
                exact .inl ⟨_, xs.length, rfl, .inl ⟨ys, SqL.of h1, h2.length.symm⟩, fin _ rfl⟩
              | frz xs =>
                cases en2
                obtain ⟨ys, o, h1, h2⟩ := ob
                exact .inl ⟨_, xs.length, rfl, .inl ⟨ys, .inl (.inr ⟨o, h1⟩), h2.length.symm⟩, fin _ rfl⟩
              | dct kvs =>
                cases en2
                obtain ⟨u, h1, h2⟩ := ob
                exact .inr ⟨pa, u, kvs, ρ, rfl, .inl h1, h2, fin _ rfl⟩
              | frd kvs =>
                cases en2
                obtain ⟨o, u, h1, h2⟩ := ob
                exact .inr ⟨pa, u, kvs, ρ, rfl, .inr ⟨o, h1⟩, h2, fin _ rfl⟩
              | _ => cases en2
        | _ => cases en
theorem b_int : CallR X (.type "int") (rB Λ fun vs h => R.ofO h (bfV .int h vs)) :=
  CallR.mono call_int1 fun vs H Q ⟨E, ρ, ps, ah, r, rv, post⟩ => by
    obtain ⟨z, ez, post⟩ := Post.ofO post
    cases rv with
    | nil => cases ez
    | @cons v vs p ps' r1 rt =>
      cases rt with
      | @cons _ _ p2 ps2 _ rt2 =>
        cases rt2 with
        | nil => cases p <;> first | (cases ez; done) | (cases p2 <;> cases ez; done)
        | cons _ _ => cases ez
      | nil =>
        cases p with
        | bl b =>
          cases r1
          cases ez
          exact .inr ⟨b, rfl, post ρ H _ Stp.refl r (by cases b <;> exact .int _)⟩
        | int i =>
          cases r1
          cases ez
          exact .inl ⟨i, rfl, post ρ H _ Stp.refl r (.int _)⟩
        | _ => cases ez
/-- str of a figure -/
theorem b_str : CallR X (.type "str") (rB Λ fun vs h => R.ofO h (bfV .str h vs)) :=
  CallR.mono call_str_int fun vs H Q ⟨E, ρ, ps, ah, r, rv, post⟩ => by
    obtain ⟨z, ez, post⟩ := Post.ofO post
    cases rv with
    | nil => cases ez
    | @cons v vs p ps' r1 rt =>
      cases rt with
      | @cons _ _ p2 ps2 _ rt2 =>
        cases rt2 with
        | nil => cases p <;> first | (cases ez; done) | (cases p2 <;> cases ez; done)
        | cons _ _ => cases ez
      | nil =>
        cases p with
        | int i =>
          cases r1
          have ez : (if (decide (0 ≤ i) && decide (i < 10)) = true then some (PV.str [dig i.toNat]) else none) = some z := ez
          cases hc : (decide (0 ≤ i) && decide (i < 10)) with
          | false => rw [hc] at ez; cases ez
          | true =>
            rw [hc] at ez
            cases ez
            obtain ⟨c1, c2⟩ := ba hc
            have c1 := of_decide_eq_true c1
            have c2 := of_decide_eq_true c2
            have hi : i = 0 ∨ i = 1 ∨ i = 2 ∨ i = 3 ∨ i = 4 ∨ i = 5 ∨ i = 6 ∨ i = 7 ∨ i = 8 ∨ i = 9 := by omega
            rcases hi with rfl | rfl | rfl | rfl | rfl | rfl | rfl | rfl | rfl | rfl <;> exact ⟨_, rfl, by decide +kernel, post ρ H _ Stp.refl r (.str _ _ (by decide +kernel) (by decide +kernel) (by decide +kernel))⟩
        | _ => cases ez
/-! ### isinstance -/
def tyName : Ty → Option String
  | .int => some "int"
  | .bool => some "bool"
  | .str => some "str"
  | .tuple => some "tuple"
  | .list => some "list"
  | .own _ => none
def isiB (sub : Nat → Nat → Bool) (t : Ty) (vs : List PV) (h : AH) : R PV := match vs with
  | [x] => R.ofO h ((isTy sub h x t).map PV.bl)
  | _ => .no
/-- a value's built-in type -/
def tyOb : AO → Option String
  | .lst _ => some "list"
  | .frz _ => some "list"
  | _ => none
def tyOf (h : AH) : PV → Option String
  | .non => some "NoneType"
  | .bl _ => some "bool"
  | .int _ => some "int"
  | .str _ => some "str"
  | .tup _ => some "tuple"
  | .obj n => (h[n]?).bind tyOb
  | .glo _ => none
theorem tyOf_ok {ρ : List Addr} {H : Hp} {ah : AH} (r : RelH Λ ρ H ah) {v : V} {p : PV} (rv : Rp Λ ρ H v p) {T : String} (h : tyOf ah p = some T) : TyX Λ.K H v (.type T) := by
  cases rv with
  | non => cases h; exact .base .non
  | bl b => cases h; exact .base (.bl b)
  | int i => cases h; exact .base (.int i)
  | str x s _ _ _ => cases h; exact .base (.str x)
  | tup h1 _ =>
    cases h
    rcases h1 with (h1 | ⟨o, h1⟩) | ⟨o, its, n, h1, h2, _⟩
    · exact .base (.tup h1)
    · exact .fTuple h1
    · exact .kTuple h1 h2
  | @obj a n e =>
    have h2 : (ah[n]?).bind tyOb = some T := h
    cases q : ah[n]? with
    | none => rw [q] at h2; cases h2
    | some o =>
      rw [q] at h2
      have h2 : tyOb o = some T := h2
      have ob := r.ob n a o e q
      cases o with
      | lst xs => cases h2; obtain ⟨ys, h1, _⟩ := ob; exact .base (.lst h1)
      | frz xs =>
        cases h2
        obtain ⟨ys, o, h1, _⟩ := ob
        exact .base (.frz h1)
      | _ => cases h2
  | glo _ => cases h
theorem isTyO_kit {sub : Nat → Nat → Bool} {o : AO} {t : Ty} {T : String} {b : Bool} (ht : tyName t = some T) (h : isTyO sub o t = some b) : ∃ U, tyOb o = some U ∧ kitB U T = some b := by
  cases o <;> cases t <;> cases ht <;> cases h <;> exact ⟨_, rfl, by decide +kernel⟩
theorem isTy_kit {sub : Nat → Nat → Bool} {ah : AH} {p : PV} {t : Ty} {T : String} {b : Bool} (ht : tyName t = some T) (h : isTy sub ah p t = some b) : ∃ U, tyOf ah p = some U ∧ kitB U T = some b := by
  cases p with
  | obj n =>
    obtain ⟨o, q, h⟩ := Option.bind_eq_some_iff.mp (show (ah[n]?).bind (fun o => isTyO sub o t) = some b from h)
    obtain ⟨U, h1, h2⟩ := isTyO_kit ht h
    exact ⟨U, by show (ah[n]?).bind tyOb = _; rw [q]; exact h1, h2⟩
  | glo _ => cases h
  | _ => cases t <;> cases ht <;> cases h <;> exact ⟨_, rfl, by decide +kernel⟩
/-- isinstance(a, T), T a built-in type -/
theorem n_isi {sub : Nat → Nat → Bool} {t : Ty} {T : String} {c : PySem.Expr} (fx : Fx Λ X) (ht : tyName t = some T) (hg : Gl X "isinstance") (hm : X.mg "isinstance" = none) (hc : PE X c (tC (.ty T))) (hs : isStar a = false) (hs2 : isStar c = false) (ha : PE X a (tV Λ W dA)) :
    PV' Λ X W (.Call (.Name "isinstance" p) [a, c] [] pos) (fun σ h => (dA σ h).bind fun x h => R.ofO h ((isTy sub h x t).map PV.bl)) := by
  have hall : [a, c].all (fun e => !isStar e) = true := by simp [hs, hs2]
  refine pv_plain ((pe_callB call_isi hg hm (by decide +kernel) (pa_cons ha (pa_cons hc pa_nil (starEach_no hs2)) (starEach_no hs)) (by decide) (by decide) (starEach_no hs) (noStars (stars1 hall).2)).mono fun σV H Q ⟨ρ, σ, ah, r, rs, post⟩ => ⟨ρ, σ, ah, r, rs, (Post.bind post).imp fun v H1 ⟨ρ1, q, ah1, s1, r1, rv, _, q1⟩ => ?_⟩) fun _ => rfl
  obtain ⟨b, eb, q1⟩ := ofB q1 r1
  obtain ⟨U, h1, h2⟩ := isTy_kit ht eb
  refine ⟨v, .ty T, .type U, .type T, b, rfl, .ty T, ?_, kit_ty h2, q1⟩
  rw [fx.k]
  exact tyOf_ok r1 rv h1
end
end NI
end

section
set_option Elab.async false
set_option autoImplicit false
set_option linter.all false
set_option maxRecDepth 100000
set_option maxHeartbeats 2000000
/-! Statements. -/
namespace NI
open PySem PySem.Spec PyProof.Rows L2
def PostY (Λ : Ln) (W : WX) (ρ : List Addr) (H : Hp) (y : Y) (D : Ends) : Prop := match y with
  | .nx σ h => ∀ ρ' H' σV', Stp ρ H ρ' H' → RelH Λ ρ' H' h → RelS Λ ρ' σV' H' σ → D.nx σV' H'
  | .bk σ h => ∀ ρ' H' σV', Stp ρ H ρ' H' → RelH Λ ρ' H' h → RelS Λ ρ' σV' H' σ → D.bk σV' H'
  | .ct σ h => ∀ ρ' H' σV', Stp ρ H ρ' H' → RelH Λ ρ' H' h → RelS Λ ρ' σV' H' σ → D.ct σV' H'
  | .rt v h => ∀ ρ' H' u, Stp ρ H ρ' H' → RelH Λ ρ' H' h → Rp Λ ρ' H' u v → D.rt u H'
  | .ex c fs σ h => ∀ ρ' H' d cA σV', Stp ρ H ρ' H' → RelH Λ ρ' H' h → RelS Λ ρ' σV' H' σ → XR Λ ρ' H' d fs → Λ.ca c = some cA → W (.ref cA) d σV' H'
  | .no => False
section
variable {Λ : Ln} {X : Cx} {W : WX} {tg e a b : PySem.Expr} {es : List PySem.Expr} {dA dB dC : Sg → AH → R PV} {dL : Sg → AH → R (List PV)} {dS dS' : Sg → AH → Y} {dT : PV → Sg → AH → R Sg} {pos : Pos} {ρ ρ' : List Addr} {H H' : Hp} {D : Ends}
theorem PostY.step {y : Y} (h : PostY Λ W ρ H y D) (s : Stp ρ H ρ' H') : PostY Λ W ρ' H' y D := by
  cases y with
  | nx σ ah => exact fun ρ2 H2 σV s2 r2 rs => h ρ2 H2 σV (s.trans s2) r2 rs
  | bk σ ah => exact fun ρ2 H2 σV s2 r2 rs => h ρ2 H2 σV (s.trans s2) r2 rs
  | ct σ ah => exact fun ρ2 H2 σV s2 r2 rs => h ρ2 H2 σV (s.trans s2) r2 rs
  | rt v ah => exact fun ρ2 H2 u s2 r2 rv => h ρ2 H2 u (s.trans s2) r2 rv
  | ex c fs σ ah => exact fun ρ2 H2 d cA σV s2 r2 rs x e => h ρ2 H2 d cA σV (s.trans s2) r2 rs x e
  | no => exact h
/-- a statement's reading -/
def tY (Λ : Ln) (W : WX) (dS : Sg → AH → Y) : TS := fun D σV H => ∃ ρ σ ah, RelH Λ ρ H ah ∧ RelS Λ ρ σV H σ ∧ PostY Λ W ρ H (dS σ ah) D
theorem Post.to {α β : Type} {R1 : List Addr → Hp → β → α → Prop} {x : R α} {f : α → AH → Y} {σ : Sg} {σV : L2.St} {ah : AH} (r : RelH Λ ρ H ah) (rs : RelS Λ ρ σV H σ) (h : PostY Λ W ρ H (x.to σ f) D) :
    Post Λ (fun c d H' => W c d σV H') R1 ρ H x fun b H1 => ∃ ρ1 a ah1, Stp ρ H ρ1 H1 ∧ RelH Λ ρ1 H1 ah1 ∧ RelS Λ ρ1 σV H1 σ ∧ R1 ρ1 H1 b a ∧ PostY Λ W ρ1 H1 (f a ah1) D := by
  cases x with
  | ok a ah1 => exact fun ρ1 H1 b s r1 rr => ⟨ρ1, a, ah1, s, r1, rs.mono s r.nt, rr, PostY.step h s⟩
  | ex c fs ah1 => exact fun ρ1 H1 d cA s r1 xr e => h ρ1 H1 d cA σV s r1 (rs.mono s r.nt) xr e
  | no => exact h
theorem tY.to {f : PV → Sg → AH → Y} {σV : L2.St} (h : tY Λ W (fun σ h => (dA σ h).to σ fun x h => f x σ h) D σV H) :
    tV Λ W dA σV H fun x H1 => ∃ ρ p σ ah, RelH Λ ρ H1 ah ∧ RelS Λ ρ σV H1 σ ∧ Rp Λ ρ H1 x p ∧ PostY Λ W ρ H1 (f p σ ah) D := by
  obtain ⟨ρ, σ, ah, r, rs, post⟩ := h
  exact ⟨ρ, σ, ah, r, rs, (Post.to r rs post).imp fun x H1 ⟨ρ1, p, ah1, s1, r1, rs1, rp, q⟩ => ⟨ρ1, p, σ, ah1, r1, rs1, rp, q⟩⟩
/-! ### small statements -/
theorem y_pass : PS X (.Pass pos) (tY Λ W fun σ h => .nx σ h) := ps_pass.mono fun D σV H ⟨ρ, σ, ah, r, rs, post⟩ => post ρ H σV Stp.refl r rs
theorem y_brk : PS X (.Break pos) (tY Λ W fun σ h => .bk σ h) := ps_break.mono fun D σV H ⟨ρ, σ, ah, r, rs, post⟩ => post ρ H σV Stp.refl r rs
theorem y_cnt : PS X (.Continue pos) (tY Λ W fun σ h => .ct σ h) := ps_continue.mono fun D σV H ⟨ρ, σ, ah, r, rs, post⟩ => post ρ H σV Stp.refl r rs
theorem y_doc {x : Str} {j} {p2 : Pos} : PS X (.Expr (.Constant (.str x) j p2) pos) (tY Λ W fun σ h => .nx σ h) := ps_doc.mono fun D σV H ⟨ρ, σ, ah, r, rs, post⟩ => post ρ H σV Stp.refl r rs
theorem y_retN : PS X (.Return none pos) (tY Λ W fun σ h => (R.ok PV.non h).to σ fun v h => .rt v h) := ps_retN.mono fun D σV H ⟨ρ, σ, ah, r, rs, post⟩ => post ρ H _ Stp.refl r .non
theorem y_ret (ha : PE X e (tV Λ W dA)) : PS X (.Return (some e) pos) (tY Λ W fun σ h => (dA σ h).to σ fun v h => .rt v h) :=
  (ps_ret ha).mono fun D σV H h => (tY.to (f := fun v _ h => .rt v h) h).imp fun x H1 ⟨ρ, p, σ, ah, r, rs, rp, q⟩ => q ρ H1 x Stp.refl r rp
theorem y_expr (ha : PE X e (tV Λ W dA)) (hs : swapsWith e none pos.line X.env = pure false) : PS X (.Expr e pos) (tY Λ W fun σ h => (dA σ h).to σ fun _ h => .nx σ h) :=
  (ps_expr ha hs).mono fun D σV H h => (tY.to (f := fun _ σ h => .nx σ h) h).imp fun x H1 ⟨ρ, p, σ, ah, r, rs, rp, q⟩ => q ρ H1 σV Stp.refl r rs
/-! ### rows of statements, if -/
def seqY (dS dS' : Sg → AH → Y) : Sg → AH → Y := fun σ h => match dS σ h with
      | .nx σ h => dS' σ h
      | y => y
theorem seq_imp {σV : L2.St} (h : tY Λ W (seqY dS dS') D σV H) : tY Λ W dS { D with nx := tY Λ W dS' D } σV H := by
  obtain ⟨ρ, σ, ah, r, rs, post⟩ := h
  refine ⟨ρ, σ, ah, r, rs, ?_⟩
  unfold seqY at post
  cases e : dS σ ah with
  | nx σ1 ah1 => rw [e] at post; exact fun ρ1 H1 σV1 s1 r1 rs1 => ⟨ρ1, σ1, ah1, r1, rs1, PostY.step post s1⟩
  | bk σ1 ah1 => rw [e] at post; exact post
  | ct σ1 ah1 => rw [e] at post; exact post
  | rt v ah1 => rw [e] at post; exact post
  | ex c fs σ1 ah1 => rw [e] at post; exact post
  | no => rw [e] at post; exact post
theorem ys_nil : PSs X [] (tY Λ W fun σ h => .nx σ h) := pss_nil.mono fun D σV H ⟨ρ, σ, ah, r, rs, post⟩ => post ρ H σV Stp.refl r rs
theorem ys_one {st : Stmt} (h : PS X st (tY Λ W dS)) : PSs X [st] (tY Λ W dS) := pss_one h
theorem ys_cons {st : Stmt} {rest : List Stmt} (h1 : PS X st (tY Λ W dS)) (h2 : PSs X rest (tY Λ W dS')) : PSs X (st :: rest) (tY Λ W (seqY dS dS')) :=
  (pss_cons h1 h2).mono fun D σV H h => seq_imp h
def iteY (dC : Sg → AH → R PV) (dS dS' : Sg → AH → Y) : Sg → AH → Y := fun σ h => (dC σ h).to σ fun x h => match x with
      | .bl true => dS σ h
      | .bl false => dS' σ h
      | _ => .no
theorem y_if {c : PySem.Expr} {sa sb : List Stmt} (hc : PV' Λ X W c dC) (ha : PSs X sa (tY Λ W dS)) (hb : PSs X sb (tY Λ W dS')) : PS X (.If c sa sb pos) (tY Λ W (iteY dC dS dS')) :=
  (ps_if hc.t ha hb).mono fun D σV H h => (tY.to (f := fun x σ h => match x with
      | .bl true => dS σ h
      | .bl false => dS' σ h
      | _ => .no) h).imp fun x H1 ⟨ρ, p, σ, ah, r, rs, rp, q⟩ => by
    cases p with
    | bl k => cases rp; cases k <;> exact ⟨_, rfl, ρ, σ, ah, r, rs, q⟩
    | _ => exact q.elim
/-! ### assignments -/
def asgY (dA : Sg → AH → R PV) (dT : PV → Sg → AH → R Sg) : Sg → AH → Y := fun σ h => (dA σ h).to σ fun v h => (dT v σ h).to σ fun σ h => .nx σ h
theorem asg_imp {sl : List Nat} {σV : L2.St} (h : tY Λ W (asgY dA dT) D σV H) : tAsg (tV Λ W dA) (tT Λ W sl dT) D σV H :=
  (tY.to (f := fun v σ h => (dT v σ h).to σ fun σ h => .nx σ h) h).imp fun x H1 ⟨ρ, p, σ, ah, r, rs, rp, q⟩ => ⟨ρ, p, σ, ah, r, rs, rp, (Post.to r rs q).imp fun σ2 H2 ⟨ρ2, σ2', ah2, s2, r2, _, rs2, q2⟩ => q2 ρ2 H2 σ2 Stp.refl r2 rs2.1⟩
theorem y_asg {sl : List Nat} (ha : PE X e (tV Λ W dA)) (ht : PG X tg (tT Λ W sl dT)) (hs : swapsWithSole [tg] e pos.line X.env = pure false) (hw : swappedStores [tg] e X.env = pure none) (h1 : (assignEach [tg] X.env).map (·.2) = [assign tg X.env]) :
    PS X (.Assign [tg] e pos) (tY Λ W (asgY dA dT)) := (ps_asg ha ht hs hw h1).mono fun D σV H h => asg_imp h
theorem y_set {i : Nat} {x : Str} {p' : Pos} (hN : X.N.Nodup) (hi : X.N[i]? = some x) (hx : Loc X.env.scope x) (hf : X.fn x = true ∨ X.env.scope.names.lookup x = some .local) (ha : PE X e (tV Λ W dA)) (hs : swapsWith e (some (.Name x p')) pos.line X.env = pure false) :
    PS X (.Assign [.Name x p'] e pos) (tY Λ W (asgY dA fun v σ h => .ok (σ.set i (some v)) h)) :=
  (ps_set hN hi hx ha hs hf).mono fun D σV H h => (tY.to (f := fun v σ h => (R.ok (σ.set i (some v)) h).to σ fun σ h => .nx σ h) h).imp fun x H1 ⟨ρ, p, σ, ah, r, rs, rp, q⟩ => q ρ H1 _ Stp.refl r (rs.set rp i)
/-! ### a store into a list -/
def setD (dA dB : Sg → AH → R PV) : PV → Sg → AH → R Sg := fun v σ h => (dA σ h).bind fun x h => (dB σ h).bind fun i h => (match setIx h x i v with
        | some h => .ok σ h
        | none => .no)
end
end NI
end

section
set_option Elab.async false
set_option autoImplicit false
set_option linter.all false
set_option maxRecDepth 100000
set_option maxHeartbeats 2000000
/-! for. -/
namespace NI
open PySem PySem.Spec PyProof.Rows L2
section
variable {Λ : Ln} {X : Cx} {W : WX} {tg e a b : PySem.Expr} {es : List PySem.Expr} {dA dB dC : Sg → AH → R PV} {dL : Sg → AH → R (List PV)} {dS dS' : Sg → AH → Y} {dT : PV → Sg → AH → R Sg} {pos : Pos} {ρ ρ' : List Addr} {H H' : Hp} {D : Ends}
theorem for_loop {J : It} {xs : List PV} {g : List (Nat × List PV)} {ρ1 : List Addr} {H1 : Hp} {ah1 : AH} {σV1 : L2.St} {σ1 : Sg} {sl : List Nat}
    (w : WalkOf Λ J xs g ρ1 H1) (r1 : RelH Λ ρ1 H1 ah1) (rs1 : RelS Λ ρ1 σV1 H1 σ1) (post : PostY Λ W ρ1 H1 (forF g dT dS xs σ1 ah1) D) :
    ∃ M : Nat → Nat → L2.St → Hp → Prop, (∃ m, M 0 m σV1 H1) ∧ ∀ i m σV H, M i m σV H →
      (J.stop i H ∧ D.nx σV H) ∨ (J.go i H ∧ ∃ N : L2.St → Hp → Prop, (∀ σ' H', N σ' H' → ∃ m', m' < m ∧ M (i + 1) m' σ' H') ∧ ∀ x H', J.yld i H x H' → tT Λ W sl dT x σV H' fun σ2 H2 => tY Λ W dS { D with nx := N, ct := N, bk := D.nx } σ2 H2) := by
  let M : Nat → Nat → L2.St → Hp → Prop := fun i m σV H => m = xs.length - i ∧ i ≤ xs.length ∧ ∃ ρ σ ah, Stp ρ1 H1 ρ H ∧ RelH Λ ρ H ah ∧ RelS Λ ρ σV H σ ∧ PostY Λ W ρ H (forF g dT dS (xs.drop i) σ ah) D
  refine ⟨M, ⟨xs.length, by simp, Nat.zero_le _, ρ1, σ1, ah1, Stp.refl, r1, rs1, by rw [List.drop_zero]; exact post⟩, ?_⟩
  rintro i m σV H ⟨rfl, hi, ρ, σ, ah, s, r, rs, post⟩
  by_cases hlt : i < xs.length
  · have hx : xs[i]? = some xs[i] := List.getElem?_eq_getElem hlt
    rw [List.drop_eq_getElem_cons hlt] at post
    generalize xs[i] = p at hx post
    have post : PostY Λ W ρ H (if still g ah = true then ((dT p σ ah).to σ fun σ1 h1 => match dS σ1 h1 with
      | .nx σ2 h2 => forF g dT dS (xs.drop (i + 1)) σ2 h2
      | .ct σ2 h2 => forF g dT dS (xs.drop (i + 1)) σ2 h2
      | .bk σ2 h2 => .nx σ2 h2
      | y => y) else .no) D := post
    cases st : still g ah with
    | false => rw [st] at post; exact post.elim
    | true =>
      rw [st] at post
      refine .inr ⟨w.goes ρ H ah i s r st hlt, M (i + 1) (xs.length - (i + 1)), fun σ' H' q => ⟨_, by omega, q⟩, fun x H' y => ?_⟩
      obtain ⟨s2, r2, rx⟩ := w.yields ρ H ah i p x H' s r st hx y
      have rs2 := rs.mono s2 r.nt
      have post := PostY.step post s2
      refine ⟨ρ, p, σ, ah, r2, rs2, rx, (Post.to r2 rs2 post).imp fun σV3 H3 ⟨ρ3, σ3, ah3, s3, r3, _, rs3, q⟩ => ⟨ρ3, σ3, ah3, r3, rs3.1, ?_⟩⟩
      have next : ∀ σ4 ah4, PostY Λ W ρ3 H3 (forF g dT dS (xs.drop (i + 1)) σ4 ah4) D → ∀ ρ' H' σV', Stp ρ3 H3 ρ' H' → RelH Λ ρ' H' ah4 → RelS Λ ρ' σV' H' σ4 → M (i + 1) (xs.length - (i + 1)) σV' H' := fun σ4 ah4 q ρ' H' σV' s4 r4 rs4 =>
        ⟨rfl, hlt, ρ', σ4, ah4, ((s.trans s2).trans s3).trans s4, r4, rs4, PostY.step q s4⟩
      cases e : dS σ3 ah3 with
      | nx σ4 ah4 => rw [e] at q; exact next σ4 ah4 q
      | ct σ4 ah4 => rw [e] at q; exact next σ4 ah4 q
      | bk σ4 ah4 => rw [e] at q; exact q
      | rt v ah4 => rw [e] at q; exact q
      | ex c fs σ4 ah4 => rw [e] at q; exact q
      | no => rw [e] at q; exact q
  · have e : i = xs.length := by omega
    subst e
    rw [List.drop_length] at post
    have post : PostY Λ W ρ H (if still g ah = true then .nx σ ah else .no) D := post
    cases st : still g ah with
    | false => rw [st] at post; exact post.elim
    | true =>
      rw [st] at post
      exact .inl ⟨w.stops ρ H ah s r st, post ρ H σV Stp.refl r rs⟩
def forY (dQ : Sg → AH → R (List PV × Gd)) (dT : PV → Sg → AH → R Sg) (dS : Sg → AH → Y) : Sg → AH → Y := fun σ h => wlkY (dQ σ) σ h fun q g h => forF g dT dS q σ h
theorem posty_unf {y : Y} {W' : WX} {d : Addr} {u : HO} {od : Obj} {n : Nat} {kvs : List (PV × PV)} (h0 : H d = some u) (d0 : DObj Λ ρ H d kvs u) (hd : ρ[n]? = some d) (post : PostY Λ W ρ H (y.unf n) D) :
    PostY Λ W' ρ (upd H d (.frz od u)) y ⟨fun σ' H' => H' d = some (.frz od u) ∧ D.nx σ' (upd H' d u), fun v H' => H' d = some (.frz od u) ∧ D.rt v (upd H' d u), fun σ' H' => H' d = some (.frz od u) ∧ D.bk σ' (upd H' d u), fun σ' H' => H' d = some (.frz od u) ∧ D.ct σ' (upd H' d u)⟩ := by
  cases y with
  | no => exact post.elim
  | ex c fs σ h => exact post.elim
  | nx σ h3 =>
    have post : PostY Λ W ρ H (match unfz n h3 with
      | some h => .nx σ h
      | none => .no) D := post
    cases e : unfz n h3 with
    | none => rw [e] at post; exact post.elim
    | some h4 =>
      rw [e] at post
      intro ρ' H' σV' s r' rs'
      obtain ⟨k1, k2, k3, k4⟩ := frz_out h0 d0 hd s r' e
      exact ⟨k1, post ρ' _ σV' k2 k3 (rs'.up k4)⟩
  | bk σ h3 =>
    have post : PostY Λ W ρ H (match unfz n h3 with
      | some h => .bk σ h
      | none => .no) D := post
    cases e : unfz n h3 with
    | none => rw [e] at post; exact post.elim
    | some h4 =>
      rw [e] at post
      intro ρ' H' σV' s r' rs'
      obtain ⟨k1, k2, k3, k4⟩ := frz_out h0 d0 hd s r' e
      exact ⟨k1, post ρ' _ σV' k2 k3 (rs'.up k4)⟩
  | ct σ h3 =>
    have post : PostY Λ W ρ H (match unfz n h3 with
      | some h => .ct σ h
      | none => .no) D := post
    cases e : unfz n h3 with
    | none => rw [e] at post; exact post.elim
    | some h4 =>
      rw [e] at post
      intro ρ' H' σV' s r' rs'
      obtain ⟨k1, k2, k3, k4⟩ := frz_out h0 d0 hd s r' e
      exact ⟨k1, post ρ' _ σV' k2 k3 (rs'.up k4)⟩
  | rt v h3 =>
    have post : PostY Λ W ρ H (match unfz n h3 with
      | some h => .rt v h
      | none => .no) D := post
    cases e : unfz n h3 with
    | none => rw [e] at post; exact post.elim
    | some h4 =>
      rw [e] at post
      intro ρ' H' u' s r' rv'
      obtain ⟨k1, k2, k3, k4⟩ := frz_out h0 d0 hd s r' e
      exact ⟨k1, post ρ' _ u' k2 k3 (Rp.mono k4 (fun _ _ z => z) _ _ rv')⟩
theorem y_for {iter : PySem.Expr} {body : List Stmt} {dQ : Sg → AH → R (List PV × Gd)} {sl : List Nat} (hp : PassesOwn (model X.prog X.w) X.A X.env X.xe) (hc : X.calm = true) (hi : PI X tg iter (tI Λ W dQ)) (hg : PG X tg (tT Λ W sl dT)) (hb : PSs X body (tY Λ W dS))
    (hs : ∀ x, foldedSetIterable iter X.env x = pure x) : PS X (.For tg iter body [] pos) (tY Λ W (forY dQ dT dS)) := by
  have P := ps_for (pos := pos) hp hc hi hg hb hs
  refine ⟨fun pins s σV H D I ⟨ρ, σ, ah, r, rs, post⟩ => ?_⟩
  unfold forY wlkY at post
  cases e : dQ σ ah with
  | no => rw [e] at post; exact post.elim
  | ex c fs h1 =>
    rw [e] at post
    refine P.run pins s σV H D I ⟨ρ, σ, ah, r, rs, ?_⟩
    rw [e]
    exact fun ρ1 H1 d cA s1 r1 xr ec => post ρ1 H1 d cA σV s1 r1 (rs.mono s1 r.nt) xr ec
  | ok q h1 =>
    obtain ⟨q, gd⟩ := q
    rw [e] at post
    cases gd with
    | lists g =>
      refine P.run pins s σV H D I ⟨ρ, σ, ah, r, rs, ?_⟩
      rw [e]
      intro ρ1 H1 J s1 r1 hw
      exact for_loop hw r1 (rs.mono s1 r.nt) (PostY.step post s1)
    | dict n =>
      have post : PostY Λ W ρ H (match ah[n]? with
        | some (.dct kvs) => (match dQ σ (ah.set n (.frd kvs)) with
          | .ok (xs, .lists g) h1 => (forF g dT dS xs σ h1).unf n
          | _ => .no)
        | _ => .no) D := post
      cases en : ah[n]? with
      | none => rw [en] at post; exact post.elim
      | some o =>
        cases o with
        | dct kvs =>
          rw [en] at post
          dsimp only at post
          cases e2 : dQ σ (ah.set n (.frd kvs)) with
          | no => rw [e2] at post; exact post.elim
          | ex c fs h => rw [e2] at post; exact post.elim
          | ok q2 h2 =>
            obtain ⟨q2, gd2⟩ := q2
            rw [e2] at post
            cases gd2 with
            | dict m => exact post.elim
            | lists g =>
              dsimp only at post
              obtain ⟨d, u, hd, h0, d0, sq, rf⟩ := frz_in r en
              refine (ps_lock P).run pins s σV H D I ⟨d, u, h0, dobj_mut d0, fun od => ⟨ρ, σ, _, rf od, rs.up (sq od), ?_⟩⟩
              rw [e2]
              intro ρ1 H1 J s1 r1 hw
              exact for_loop hw r1 ((rs.up (sq od)).mono s1 (rf od).nt) (PostY.step (posty_unf (W' := W) (od := od) h0 d0 hd post) s1)
        | _ => rw [en] at post; exact post.elim
/-! ### name = [.. for ..] -/
theorem y_setLc {i : Nat} {y : Str} {py spos : Pos} {elt iter : PySem.Expr} {ifs : List PySem.Expr} {scope : Scope} {own : List (Str × Nat)} {dQ : Sg → AH → R (List PV × Gd)} {dC : Sg → AH → R Bool} {dE : Sg → AH → R PV} {sl : List Nat}
    (hc : X.calm = true) (hN : X.N.Nodup) (hy : X.N[i]? = some y) (hyl : X.env.scope.names.lookup y = some .local) (hsw : swapsWith (.ListComp elt [⟨tg, iter, ifs, 0⟩] scope pos) (some (.Name y py)) spos.line X.env = pure true)
    (hi : PI X tg iter (tI Λ W dQ)) (ok : BlkOk X.N X.env.scope scope own) (ho : ∀ i ∈ sl, i ∈ own.map (·.2))
    (hg : ∀ (s : Shared) (H : Hp) (C : Addr) (cl : List (Str × Addr)) (fp : List Addr), PG (X.blk s H scope (compEnvC scope cl C X.env) fp) tg (tT Λ Wf sl dT))
    (ht : ∀ (s : Shared) (H : Hp) (C : Addr) (cl : List (Str × Addr)) (fp : List Addr), PTs (X.blk s H scope (compEnvC scope cl C X.env) fp) ifs (tG Λ Wf (fun _ _ b b' => b = b') dC))
    (he : ∀ (s : Shared) (H : Hp) (C : Addr) (cl : List (Str × Addr)) (fp : List Addr), PE (X.blk s H scope (compEnvC scope cl C X.env) fp) elt (tV Λ Wf dE)) (hs : ∀ x, foldedSetIterable iter X.env x = pure x) :
    PS X (.Assign [.Name y py] (.ListComp elt [⟨tg, iter, ifs, 0⟩] scope pos) spos) (tY Λ W (asgY (newD (lcD (own.map (·.2)) dQ dT dC dE)) fun v σ h => .ok (σ.set i (some v)) h)) := by
  have P := ps_setLc (spos := spos) (pos := pos) hc hN hy hyl hsw hi ok hg ht he hs
  have Q : ∀ (σV : L2.St) (H : Hp) (D : Ends), tY Λ W (asgY (newD (lcD (own.map (·.2)) dQ dT dC dE)) fun v σ h => .ok (σ.set i (some v)) h) D σV H →
      tF Λ W (lcD (own.map (·.2)) dQ dT dC dE) σV H fun x H1 => gName i x σV H1 D.nx := fun σV H D h => by
    have h2 := tY.to (f := fun v σ h => (R.ok (σ.set i (some v)) h).to σ fun σ h => .nx σ h) h
    obtain ⟨ρ, σ, ah, r, rs, q⟩ := h2.imp fun x H1 ⟨ρ, p, σ, ah, r, rs, rp, q⟩ => (show D.nx (σV.set i (some x)) H1 from q ρ H1 _ Stp.refl r (rs.set rp i))
    exact ⟨ρ, σ, ah, r, rs, Post.new q⟩
  refine ⟨fun pins s σV H D I h => ?_⟩
  obtain ⟨ρ, σ, ah, r, rs, post⟩ := Q σV H D h
  unfold lcD wlk at post
  cases e : dQ σ ah with
  | no => rw [e] at post; exact post.elim
  | ex c fs h1 =>
    rw [e] at post
    refine P.run pins s σV H D I ⟨ρ, σ, ah, r, rs, ?_⟩
    rw [e]; exact post
  | ok q h1 =>
    obtain ⟨q, gd⟩ := q
    rw [e] at post
    cases gd with
    | lists g =>
      obtain ⟨hf, post⟩ := notfits post
      refine P.run pins s σV H D I ⟨ρ, σ, ah, r, rs, ?_⟩
      rw [e]
      intro ρ1 H1 J s1 r1 hw D' hD
      exact lc_loop hw r1 (rs.mono s1 r.nt) (post.stepL s1 r1) hf ho hD
    | dict n =>
      have post : Post Λ (fun c d H' => W c d σV H') (RLf Λ H) ρ H (match ah[n]? with
        | some (.dct kvs) => (match dQ σ (ah.set n (.frd kvs)) with
          | .ok (xs, .lists g) h1 => (if (!fits xs.length) = true then .no else lcF g (stepD (own.map (·.2)) dT dC dE σ) xs h1).unf n
          | _ => .no)
        | _ => .no) (fun x H1 => gName i x σV H1 D.nx) := post
      cases en : ah[n]? with
      | none => rw [en] at post; exact post.elim
      | some o =>
        cases o with
        | dct kvs =>
          rw [en] at post
          dsimp only at post
          cases e2 : dQ σ (ah.set n (.frd kvs)) with
          | no => rw [e2] at post; exact post.elim
          | ex c fs h => rw [e2] at post; exact post.elim
          | ok q2 h2 =>
            obtain ⟨q2, gd2⟩ := q2
            rw [e2] at post
            cases gd2 with
            | dict m => exact post.elim
            | lists g =>
              dsimp only at post
              obtain ⟨d, u, hd, h0, d0, sq, rf⟩ := frz_in r en
              refine (ps_lock P).run pins s σV H D I ⟨d, u, h0, dobj_mut d0, fun od => ⟨ρ, σ, _, rf od, rs.up (sq od), ?_⟩⟩
              rw [e2]
              intro ρ1 H1 J s1 r1 hw D' hD
              obtain ⟨hf, p2⟩ := notfits (post_unf (E' := fun _ _ _ => False) (od := od) h0 d0 hd post)
              exact lc_loop hw r1 ((rs.up (sq od)).mono s1 (rf od).nt) (p2.stepL s1 r1) hf ho hD
        | _ => rw [en] at post; exact post.elim
end
end NI
end

section
set_option Elab.async false
set_option autoImplicit false
set_option linter.all false
set_option maxRecDepth 100000
set_option maxHeartbeats 2000000
/-! Stores into lists and dicts. -/
namespace NI
open PySem PySem.Spec PyProof.Rows L2
/-! ### a key's place -/
theorem rp_key {Λ : Ln} {ρ : List Addr} {H H' : Hp} {y : V} {p : PV} (h : NI.keyS p = true) (r : Rp Λ ρ H y p) : Rp Λ ρ H' y p := by
  cases r with
  | int i => exact .int i
  | str x s e k l => exact .str x s e k l
  | _ => simp [NI.keyS] at h
def put1 {κ : Type} [DecidableEq κ] : List (κ × V) → κ → V → List (κ × V)
  | [], k, v => [(k, v)]
  | (a, b) :: r, k, v => if a = k then (a, v) :: r else (a, b) :: put1 r k v
theorem map_id_of {κ : Type} [DecidableEq κ] {k : κ} {v : V} : ∀ {es : List (κ × V)}, k ∉ es.map (·.1) → es.map (fun kv => if kv.1 = k then (kv.1, v) else kv) = es
  | [], _ => rfl
  | (a, b) :: r, h => by
    simp only [List.map_cons, List.mem_cons, not_or] at h
    rw [List.map_cons, map_id_of h.2]
    simp [Ne.symm h.1]
theorem putK_nd {κ : Type} [DecidableEq κ] {k : κ} {v : V} : ∀ {es : List (κ × V)}, (es.map (·.1)).Nodup → putK es k v = put1 es k v
  | [], _ => rfl
  | (a, b) :: r, h => by
    rw [List.map_cons, List.nodup_cons] at h
    have ih := putK_nd (k := k) (v := v) h.2
    by_cases e : a = k
    · subst e
      show (if (((a, b) :: r).any fun kv => decide (kv.1 = a)) = true then _ else _) = (if a = a then _ else _)
      rw [if_pos rfl, if_pos (by simp), List.map_cons, map_id_of h.1]
      simp
    · show _ = (if a = k then _ else (a, b) :: put1 r k v)
      rw [if_neg e, ← ih]
      unfold putK
      have e2 : (((a, b) :: r).any fun kv => decide (kv.1 = k)) = (r.any fun kv => decide (kv.1 = k)) := by simp [e]
      rw [e2]
      split
      · rw [List.map_cons]; simp [e]
      · rfl
def putE : List (NestedKey × Addr × V) → NestedKey → Addr → V → List (NestedKey × Addr × V)
  | [], k, b, v => [(k, b, v)]
  | (a, c, u) :: r, k, b, v => if a = k then (a, c, v) :: r else (a, c, u) :: putE r k b v
section
variable {Λ : Ln} {X : Cx} {W : WX} {a b : PySem.Expr} {dA dB : Sg → AH → R PV} {pos : Pos} {ρ : List Addr} {H : Hp}
theorem KvS.put {v : V} {p q : PV} {kk : Key} (hk : keyOf p = some kk) (hp : ∀ H : Hp, Rp Λ ρ H (kV kk) p) (rq : Rp Λ ρ H v q) : ∀ {es : List (Key × V)} {kvs : List (PV × PV)}, KvS Λ ρ H es kvs → KvS Λ ρ H (put1 es kk v) (dput kvs p q)
  | _, _, .nil => by
    show KvS Λ ρ H [(kk, v)] [(p, q)]
    cases p with
    | int i => cases hk; exact .int rq .nil
    | str s =>
      cases hk
      have := hp H
      cases this with
      | str x _ e k l => exact .str e k l rq .nil
    | _ => cases hk
  | _, _, .int (i := i) (v := u) (p := w) (r := r) (q := t) rv tl => by
    have ih := KvS.put hk hp rq tl
    have e : ((Sum.inl i : Key) = kk) ↔ peq (.int i) p = true := by
      cases p <;> simp [keyOf] at hk <;> subst hk <;> simp [peq]
    by_cases c : (Sum.inl i : Key) = kk
    · simp only [put1, dput, if_pos c, e.mp c, if_true]
      exact .int rq tl
    · have c2 : peq (.int i) p = false := by
        cases z : peq (.int i) p with
        | false => rfl
        | true => exact absurd (e.mpr z) c
      simp only [put1, dput, if_neg c, c2]
      exact .int rv ih
  | _, _, .str (x := x) (s := s) (v := u) (p := w) (r := r) (q := t) e1 k1 l1 rv tl => by
    have ih := KvS.put hk hp rq tl
    have e : ((Sum.inr x : Key) = kk) ↔ peq (.str s) p = true := by
      rw [str_of e1]
      cases p <;> simp [keyOf] at hk <;> subst hk <;> simp [peq]
    by_cases c : (Sum.inr x : Key) = kk
    · simp only [put1, dput, if_pos c, e.mp c, if_true]
      exact .str e1 k1 l1 rq tl
    · have c2 : peq (.str s) p = false := by
        cases z : peq (.str s) p with
        | false => rfl
        | true => exact absurd (e.mpr z) c
      simp only [put1, dput, if_neg c, c2]
      exact .str e1 k1 l1 rv ih
theorem KvT.put {v : V} {xs : List PV} {q : PV} {b : Addr} (hk : keyT 8 (.tup xs) = true) (rb : Rp Λ ρ H (.ref b) (.tup xs)) (rq : Rp Λ ρ H v q) : ∀ {es : List (NestedKey × Addr × V)} {kvs : List (PV × PV)}, KvT Λ ρ H es kvs → KvT Λ ρ H (putE es (nkey (.tup xs)) b v) (dput kvs (.tup xs) q)
  | _, _, .nil => .cons hk rb rq .nil
  | _, _, .cons (xs := ys) k e r t => by
    have ih := KvT.put hk rb rq t
    have c := nkey_eq 8 8 (.tup ys) (.tup xs) k hk
    cases z : peq (.tup ys) (.tup xs) with
    | true =>
      simp only [putE, dput, if_pos (c.mpr z), z, if_true]
      exact .cons k e rq t
    | false =>
      have nc : ¬ nkey (.tup ys) = nkey (.tup xs) := fun y => by rw [c.mp y] at z; cases z
      simp only [putE, dput, if_neg nc, z]
      exact .cons k e r ih
def PE3 (p : NestedKey × Addr × V) (q : NestedKey × Addr × Value) : Prop := p.1 = q.1 ∧ p.2.1 = q.2.1 ∧ RelV p.2.2 q.2.2
theorem atKey_none_map {k : NestedKey} {u : Value} : ∀ {xs : List (NestedKey × Addr × Value)}, k ∉ xs.map (·.1) → xs.map (putAt k u) = xs
  | [], _ => rfl
  | x :: r, h => by
    simp only [List.map_cons, List.mem_cons, not_or] at h
    rw [List.map_cons, atKey_none_map h.2]
    unfold putAt
    rw [if_neg fun e => h.1 e.symm]
theorem paired_put {k : NestedKey} {b : Addr} {v : V} {u : Value} (rv : RelV v u) : ∀ {es : List (NestedKey × Addr × V)} {xs : List (NestedKey × Addr × Value)}, Paired PE3 es xs → (xs.map (·.1)).Nodup → Paired PE3 (putE es k b v) (storedH xs k b u)
  | _, _, .nil, _ => .cons ⟨rfl, rfl, rv⟩ .nil
  | (a, c, w) :: r, (a', c', w') :: t, .cons h pr, nd => by
    rw [List.map_cons, List.nodup_cons] at nd
    have ih := paired_put (k := k) (b := b) rv pr nd.2
    obtain ⟨h1, h2, h3⟩ := h
    dsimp only at h1 h2 h3
    subst h1 h2
    by_cases e : a = k
    · subst e
      have e2 : storedH ((a, c, w') :: t) a b u = (a, c, u) :: t := by
        unfold storedH
        rw [if_pos (by simp [atKey]), List.map_cons, atKey_none_map nd.1]
        simp [putAt]
      rw [e2]
      simp only [putE, if_pos rfl]
      exact .cons ⟨rfl, rfl, rv⟩ pr
    · have e2 : storedH ((a, c, w') :: t) k b u = (a, c, w') :: storedH t k b u := by
        unfold storedH
        have e3 : atKey ((a, c, w') :: t) k = atKey t k := by simp [atKey, e]
        rw [e3]
        split
        · rw [List.map_cons]; simp [putAt, e]
        · rfl
      rw [e2]
      simp only [putE, if_neg e]
      exact .cons ⟨rfl, rfl, h3⟩ ih
theorem putE_len {k : NestedKey} {b : Addr} {v : V} : ∀ {es : List (NestedKey × Addr × V)}, (putE es k b v).length ≤ es.length + 1
  | [] => by simp [putE]
  | (a, c, u) :: r => by
    unfold putE
    split
    · simp
    · have := putE_len (k := k) (b := b) (v := v) (es := r)
      simp only [List.length_cons]; omega
theorem td_stay {P : Program} {w : World} {d : Addr} {es : List (NestedKey × Addr × V)} : ∀ h1 h2 : Heap, TD P w d es h1 → (∀ o, h1.get? d = some o → h2.get? d = some o) → TD P w d es h2 :=
  fun h1 h2 ⟨a1, a2, xs, pr, o, hs, ep, e1, r⟩ k => ⟨a1, a2, xs, pr, o, hs, ep, k o e1, r⟩
section
variable {pins : List (Addr × Obj)} {σ : L2.St} {s : Shared} {d : Addr} {y v : V} {uy uv : Value} {p q : PV} {kvs : List (PV × PV)} {o : HO}
theorem dput_ne {p q : PV} : ∀ {kvs : List (PV × PV)}, dput kvs p q ≠ []
  | [] => by simp [dput]
  | (a, b) :: r => by
    unfold dput
    split <;> simp
/-- d[y] = v -/
theorem dict_set {Q : Unit → Shared → Prop} {E : Value → Shared → Prop} (fx : X.K = Λ.K ∧ X.prog = Λ.P ∧ X.w = Λ.w) (hu : X.A.units + 16 < cLine) (I : Inv X pins σ H s) (h0 : H d = some o) (do_ : DObj Λ ρ H d kvs o) (ry : RelV y uy) (rp : Rp Λ ρ H y p) (rv : RelV v uv) (rq : Rp Λ ρ H v q)
    (k : keyFits p kvs = true) (hl : kvs.length < sizeLine) (h : ∀ o' s', Mut (some o') → (∀ (a : Addr) (xs : List V), SqT Λ.K H a xs → SqT Λ.K (upd H d o') a xs) → DObj Λ ρ (upd H d o') d (dput kvs p q) o' → Inv X pins σ (upd H d o') s' → Q () s') :
    wpAny (model X.prog X.w) X.A (setItem (.ref d) uy uv) Q E s := by
  have mu := dobj_mut do_
  have ntd : ∀ xs, ¬ Rd H d (.tup xs) := fun xs z => by
    obtain ⟨n1, n2, n3⟩ := dobj_nt do_
    rcases z with z | ⟨o', z⟩ <;> rw [h0] at z
    · exact n1 xs (Option.some.inj z)
    · exact n2 o' xs (Option.some.inj z)
  have sq : ∀ (o' : HO) (a : Addr) (xs : List V), SqT Λ.K H a xs → SqT Λ.K (upd H d o') a xs := fun o' a xs z => sqT_old ntd z
  have up : ∀ (o' : HO) {w : V} {z : PV}, Rp Λ ρ H w z → Rp Λ ρ (upd H d o') w z := fun o' w z r => Rp.mono (sq o') (fun _ _ z => z) _ _ r
  have tk : ∀ (b : Addr) (xs : List (NestedKey × Addr × Value)) (es : List (NestedKey × Addr × V)), uy = .ref b → y = .ref b → (nestedKind X.prog X.w).is s.heap (nkey p) b → (d == sysModules) = false → Heap.DictOfH (nestedKind X.prog X.w) s.heap d xs →
      Paired PE3 es xs → KvT Λ ρ H es kvs → keyT 8 p = true → isTup p = true → wpAny (model X.prog X.w) X.A (setItem (.ref d) uy uv) Q E s := fun b xs es eu ey isb hd dd pr kt k2 kt2 => by
    subst eu ey
    have hlx : xs.length = kvs.length := by rw [← Paired.length pr, kt.len]
    refine wpAny_setItem_heap (hsz := by omega) (by show X.A.in1.units + 8 < cLine; simp only [Around.in1_units]; omega) isb dd fun h' dd' sb => ?_
    obtain ⟨o1, hs1, ep1, e1, e2, e3, e4, e5, e6⟩ := dd'
    obtain ⟨_, _, _, _, _, _, _, _, nd⟩ := dd
    cases p with
    | tup zs =>
      have td : TD Λ.P Λ.w d (putE es (nkey (.tup zs)) b v) h' := by
        refine ⟨hd, ?_, storedH xs (nkey (.tup zs)) b uv, paired_put rv pr nd, o1, hs1, ep1, e1, e2, e3, by rw [← fx.2.1, ← fx.2.2]; exact e4, e6⟩
        have := putE_len (k := nkey (.tup zs)) (b := b) (v := v) (es := es)
        rw [kt.len] at this
        omega
      refine h (.ext (TD Λ.P Λ.w d (putE es (nkey (.tup zs)) b v))) _ trivial (sq _) (.inr ⟨_, rfl, (KvT.put k2 rp rq kt).mono (sq _) fun _ _ z => z, dput_ne⟩)
        (I.write (t' := s.toks + (nestedKind X.prog X.w).draws (nkey (.tup zs))) (x := d) (e := d) (by rw [h0]; exact mu) (.inl rfl) (fun c u hc z => (sb.2 c hc).trans z) ⟨o1, e1⟩ ⟨td, ⟨o1, e1⟩, td_stay⟩)
    | _ => cases kt2
  rcases do_ with ⟨es, rfl, kv⟩ | ⟨es, rfl, kv, ne⟩
  · rcases keyFits_or k with ⟨k1, _⟩ | ⟨k1, k2, k3⟩
    · obtain ⟨kk, ek, rfl⟩ := key_rp rp k1
      have hle : es.length < sizeLine := by rw [kv.len]; exact hl
      refine d_setItem (by omega) I (.k h0 hle) ry rv fun s' I' => ?_
      obtain ⟨_, _, vs, rel, _, _, _, _, _, _, _, _, nd⟩ := dk_of I.hok h0
      have nde : (es.map (·.1)).Nodup := by rw [rel.keys]; exact nd
      rw [putK_nd nde] at I'
      refine h (.dK (put1 es kk v)) s' trivial (sq _) (.inl ⟨_, rfl, (KvS.put ek (fun H' => rp_key k1 rp) rq kv).mono (sq _) fun _ _ z => z⟩) I'
    · cases kv with
      | nil =>
        obtain ⟨b, rfl⟩ := tup_rp rp k1
        cases ry
        obtain ⟨z, hd, vs, rel, dd⟩ := dk_of I.hok h0
        cases rel
        obtain ⟨oo, es, ep, e1, e2, e3, _, e4, _⟩ := dd
        refine tk b [] [] rfl rfl (nested_of I fx.1 8 p _ _ k2 rp (show RelV (.ref _) (.ref _) from rfl)) hd ⟨oo, es, ep, e1, e2, e3, ?_, (fun x hx => nomatch hx), List.nodup_nil⟩ .nil .nil k2 k1
        cases hl : es.toList with
        | nil => rfl
        | cons e r => rw [hl] at e4; cases e4
      | int _ _ => simp [isTup] at k3
      | str _ _ _ _ _ => simp [isTup] at k3
  · rcases keyFits_or k with ⟨k1, k3⟩ | ⟨k1, k2, k3⟩
    · cases kv with
      | nil => exact absurd rfl ne
      | cons _ _ _ _ => simp [NI.keyS] at k3
    · obtain ⟨b, rfl⟩ := tup_rp rp k1
      cases ry
      have td : TD Λ.P Λ.w d es s.heap := (I.hok d _ h0).1
      obtain ⟨hd, xs, d1, d2, _, pr⟩ := td_keyed I fx.1 fx.2.1 fx.2.2 td kv
      exact tk b xs es rfl rfl (nested_of I fx.1 8 p _ _ k2 rp (show RelV (.ref _) (.ref _) from rfl)) hd d1 pr kv k2 k1
end
/-! ### x[i] = v -/
def rSetA (Λ : Ln) : V → V → V → Hp → (Hp → Prop) → Prop := fun o i v H Q => ∃ ρ x p q ah ah', RelH Λ ρ H ah ∧ Rp Λ ρ H o x ∧ Rp Λ ρ H i p ∧ Rp Λ ρ H v q ∧ setIx ah x p q = some ah' ∧ ∀ H', Stp ρ H ρ H' → RelH Λ ρ H' ah' → Q H'
theorem set_all (fx : Fx Λ X) : PSet X (rSetA Λ) := by
  intro pins s σ H o i v ov iv u Q I ro ri rv h
  obtain ⟨ρ, x, p, q, ah, ah', r, rx, rp, rq, e, hq⟩ := h
  have hu := fx.u
  cases x with
  | obj n =>
    cases rx with
    | @obj pa _ e1 =>
      have e2 : (match ah[n]? with
        | some (.lst xs) => (match (generalizing := false) p with
          | .int i => (ixOf i xs.length).map fun k => ah.set n (.lst (xs.set k q))
          | _ => none)
        | some (.dct kvs) => if keyFits p kvs && decide (kvs.length < maxSize) then some (ah.set n (.dct (dput kvs p q))) else none
        | _ => none) = some ah' := e
      cases q1 : ah[n]? with
      | none => rw [q1] at e2; cases e2
      | some ao =>
        rw [q1] at e2
        have ob := r.ob n pa ao e1 q1
        cases ao with
        | lst xs =>
          cases p with
          | int k =>
            cases rp
            obtain ⟨j, ej, rfl⟩ := Option.map_eq_some_iff.mp e2
            obtain ⟨ys, h1, h2⟩ := ob
            refine set_list pins s σ H _ _ v ov iv u Q I ro ri rv ⟨pa, ys, k, j, rfl, rfl, h1, by rw [h2.length, ← ixOf_eq]; exact ej, ?_⟩
            have mu : Mut (H pa) := by rw [h1]; trivial
            have s1 : Stp ρ H ρ (upd H pa (.lst (ys.set j v))) := Stp.write e1 mu
            exact hq _ s1 (r.write e1 nt_lst ⟨_, upd_same, s1.rpL r.nt (h2.set rq j)⟩)
          | _ => cases e2
        | dct kvs =>
          cases k : (keyFits p kvs && decide (kvs.length < maxSize)) with
          | false => simp only [k] at e2; cases e2
          | true =>
            simp only [k] at e2
            cases e2
            obtain ⟨k1, k2⟩ := ba k
            obtain ⟨w, h1, h2⟩ := ob
            cases ro
            have hl : kvs.length < sizeLine := of_decide_eq_true k2
            refine dict_set fx.t (by omega) I h1 h2 ri rp rv rq k1 hl fun o' s' mu sq d' I' => ⟨_, I', hq _ ?_ ?_⟩
            · exact Stp.write e1 (by rw [h1]; exact dobj_mut h2)
            · refine r.write e1 (fun ys z => ?_) ⟨o', upd_same, d'⟩
              obtain ⟨n1, n2, n3⟩ := dobj_nt d'
              rcases z with z | ⟨o2, z⟩ <;> rw [upd_same] at z
              · exact n1 ys (Option.some.inj z)
              · exact n2 o2 ys (Option.some.inj z)
        | _ => cases e2
  | _ => cases e
theorem t_sub (fx : Fx Λ X) (ho : PE X a (tV Λ W dA)) (hi : PE X b (tV Λ W dB)) (ha : ∀ v, assign (.Subscript a b pos) X.env v = (do
      let ov ← holding [v] (eval a X.env)
      let iv ← holding [v, ov] (eval b X.env)
      standAt pos
      holding [v, ov, iv] (setItem ov iv v)
      release [v, ov, iv] [])) : PG X (.Subscript a b pos) (tT Λ W [] (setD dA dB)) :=
  (pg_sub ho hi (set_all fx) ha).mono fun v σV H Q ⟨ρ, q, σ, ah, r, rs, rq, post⟩ =>
    ⟨ρ, σ, ah, r, rs, (Post.bind post).imp fun x H1 ⟨ρ1, p, ah1, s1, r1, rx, _, q1⟩ => ⟨ρ1, σ, ah1, r1, rs.mono s1 r.nt, (Post.bind q1).imp fun i H2 ⟨ρ2, p2, ah2, s2, r2, ri, _, q2⟩ => by
      cases e : setIx ah2 p p2 q with
      | none => rw [e] at q2; exact q2.elim
      | some ah3 =>
        rw [e] at q2
        refine ⟨ρ2, p, p2, q, ah2, ah3, r2, s2.rp r1.nt rx, ri, s2.rp r1.nt (s1.rp r.nt rq), e, fun H' s' r' => ?_⟩
        exact q2 ρ2 H' σV s' r' ⟨(((rs.mono s1 r.nt).mono s2 r1.nt).mono s' r2.nt), Same.refl⟩⟩⟩
/-! ### methods of lists -/
def bmLD (m : Bm) (dA : Sg → AH → R PV) (dL : Sg → AH → R (List PV)) : Sg → AH → R PV := fun σ h => (dA σ h).bind fun x h => (match isLs h x with
        | true => (dL σ h).bind fun vs h => bmL m x vs h
        | false => .no)
def lmName : Bm → Option (String × String)
  | .append => some ("append", "list.append")
  | .pop => some ("pop", "list.pop")
  | .popAt => some ("pop", "list.pop")
  | _ => none
/-- a list's method by plain items -/
def rLm (Λ : Ln) (m : Bm) : V → List V → Hp → VK → Prop := fun x vs H Q => ∃ (E : XK) (ρ : List Addr) (p : PV) (ps : List PV) (ah : AH), RelH Λ ρ H ah ∧ Rp Λ ρ H x p ∧ RpL Λ ρ H vs ps ∧ Post Λ E (Rp Λ) ρ H (bmL m p ps ah) Q
theorem lm_core {m : Bm} {x : V} {vs : List V} {Q : VK} (h : rLm Λ m x vs H Q) : ∃ (ρ : List Addr) (n : Nat) (a : Addr) (xs ps : List PV) (ah : AH) (ys : List V) (vs' : List PV) (z : PV), x = .ref a ∧ ρ[n]? = some a ∧ RelH Λ ρ H ah ∧ H a = some (.lst ys) ∧ RpL Λ ρ H ys xs ∧ RpL Λ ρ H vs vs' ∧ lmV m xs vs' = some (z, ps) ∧
    ∀ v zs, Rp Λ ρ H v z → RpL Λ ρ H zs ps → Q v (upd H a (.lst zs)) := by
  obtain ⟨E, ρ, p, vs', ah, r, rx, rv, post⟩ := h
  cases p with
  | obj n =>
    cases rx with
    | @obj a _ e1 =>
      have post : Post Λ E (Rp Λ) ρ H (match lsOnly ah n with
        | some xs => (match lmV m xs vs' with
          | some (v, ys) => .ok v (ah.set n (.lst ys))
          | none => .no)
        | none => .no) Q := post
      cases el : lsOnly ah n with
      | none => rw [el] at post; exact post.elim
      | some xs =>
        rw [el] at post
        dsimp only at post
        obtain ⟨ys, h1, h2⟩ := r.ob n a _ e1 (lsOnly_at el)
        cases e2 : lmV m xs vs' with
        | none => rw [e2] at post; exact post.elim
        | some zp =>
          obtain ⟨z, ps⟩ := zp
          rw [e2] at post
          refine ⟨ρ, n, a, xs, ps, ah, ys, vs', z, rfl, e1, r, h1, h2, rv, e2, fun v zs rz rzs => ?_⟩
          have s1 : Stp ρ H ρ (upd H a (.lst zs)) := Stp.write e1 (by rw [h1]; trivial)
          exact post ρ _ v s1 (r.write e1 nt_lst ⟨zs, upd_same, s1.rpL r.nt rzs⟩) (s1.rp r.nt rz)
  | _ => exact post.elim
theorem m_append : MtR X "list.append" (rLm Λ .append) := by
  intro pins s σ H x vs v us Q I rx rv h
  obtain ⟨ρ, n, a, xs, ps, ah, ys, vs', z, rfl, e1, r, h1, h2, rvs, e2, fin⟩ := lm_core h
  cases rvs with
  | nil => cases e2
  | @cons w ws p ps' r1 rt =>
    cases rt with
    | cons _ _ => cases e2
    | nil =>
      have e3 : (if xs.length < maxSize then some (PV.non, xs ++ [p]) else none) = some (z, ps) := e2
      by_cases hl : xs.length < maxSize
      · rw [if_pos hl] at e3
        cases e3
        exact mt_append pins s σ H _ _ v us Q I rx rv ⟨a, ys, w, rfl, rfl, h1, by rw [h2.length]; exact hl, fin _ _ .non (h2.append (.cons r1 .nil))⟩
      · rw [if_neg hl] at e3; cases e3
theorem m_pop : MtR X "list.pop" (rLm Λ .pop) := by
  intro pins s σ H x vs v us Q I rx rv h
  obtain ⟨ρ, n, a, xs, ps, ah, ys, vs', z, rfl, e1, r, h1, h2, rvs, e2, fin⟩ := lm_core h
  cases rvs with
  | cons _ _ => cases e2
  | nil =>
    obtain ⟨w, ew, e3⟩ := Option.map_eq_some_iff.mp (show (xs[xs.length - 1]?).map (fun v => (v, xs.dropLast)) = some (z, ps) from e2)
    cases e3
    obtain ⟨u, eu, ru⟩ := h2.get ew
    exact mt_pop pins s σ H _ _ v us Q I rx rv ⟨a, ys, u, rfl, rfl, h1, by rw [h2.length]; exact eu, fin _ _ ru h2.dropLast⟩
theorem m_popAt : MtR X "list.pop" (rLm Λ .popAt) := by
  intro pins s σ H x vs v us Q I rx rv h
  obtain ⟨ρ, n, a, xs, ps, ah, ys, vs', z, rfl, e1, r, h1, h2, rvs, e2, fin⟩ := lm_core h
  cases rvs with
  | nil => cases e2
  | @cons w ws p ps' r1 rt =>
    cases rt with
    | cons _ _ => cases p <;> cases e2
    | nil =>
      cases p with
      | int i =>
        cases r1
        have e3 : (if int64 i = true then (ixOf i xs.length).bind fun k => (xs[k]?).map fun v => (v, xs.eraseIdx k) else none) = some (z, ps) := e2
        cases hi : int64 i with
        | false => rw [hi] at e3; cases e3
        | true =>
          rw [hi] at e3
          obtain ⟨k, ek, e4⟩ := Option.bind_eq_some_iff.mp e3
          obtain ⟨w, ew, e5⟩ := Option.map_eq_some_iff.mp e4
          cases e5
          obtain ⟨u, eu, ru⟩ := h2.get ew
          obtain ⟨k1, k2⟩ := int64_ok hi
          exact mt_popAt pins s σ H _ _ v us Q I rx rv ⟨a, ys, i, k, u, rfl, rfl, h1, k1, k2, by rw [h2.length]; exact (ixN_seq (by rw [← ixOf_eq]; exact ek)).1, eu, fin _ _ ru (h2.eraseIdx k)⟩
      | _ => cases e2
theorem isLs_ty {ah : AH} (r : RelH Λ ρ H ah) {x : V} {p : PV} (rx : Rp Λ ρ H x p) (h : isLs ah p = true) {K : PySem.W.Frag} : tyV K "list" x H := by
  cases p with
  | obj n =>
    cases rx with
    | @obj a _ e1 =>
      have h2 : (lsOnly ah n).isSome = true := h
      cases e : lsOnly ah n with
      | none => rw [e] at h2; cases h2
      | some xs =>
        obtain ⟨ys, h3, _⟩ := r.ob n a _ e1 (lsOnly_at e)
        exact .inl ⟨rfl, ys, SqL.of h3⟩
  | _ => cases h
theorem bmLD_split {m : Bm} {dA : Sg → AH → R PV} {dL : Sg → AH → R (List PV)} {σV : L2.St} {Q : VK} (h : tV Λ W (bmLD m dA dL) σV H Q) :
    tV Λ W dA σV H fun x H1 => tyV X.K "list" x H1 ∧ tVs Λ W dL σV H1 fun vs H2 => rLm Λ m x vs H2 Q := by
  obtain ⟨ρ, σ, ah, r, rs, post⟩ := h
  refine ⟨ρ, σ, ah, r, rs, (Post.bind post).imp fun x H1 ⟨ρ1, p, ah1, s1, r1, rx, _, q⟩ => ?_⟩
  cases e : isLs ah1 p with
  | false => rw [e] at q; exact q.elim
  | true =>
    rw [e] at q
    exact ⟨isLs_ty r1 rx e, ρ1, σ, ah1, r1, rs.mono s1 r.nt, (Post.bind q).imp fun vs H2 ⟨ρ2, ps, ah2, s2, r2, rv, _, q2⟩ => ⟨_, ρ2, p, ps, ah2, r2, s2.rp r1.nt rx, rv, q2⟩⟩
theorem n_lm {o e : PySem.Expr} {es : List PySem.Expr} {m : Bm} {dA : Sg → AH → R PV} {dL : Sg → AH → R (List PV)} {name : Str} {id : String} {apos cpos : Pos} (slot : Slot "list" name id) (pa : PlainAttrs "list") (hty : typeOf (.builtin id) = pure (.type "method_descriptor")) (hm : MtR X id (rLm Λ m))
    (ho : PE X o (tV Λ W dA)) (ha : PA X (e :: es) (tVs Λ W dL)) (hbase : attributeBase o name X.env (eval o X.env) = eval o X.env) (hs : (e :: es).all (fun e => !isStar e) = true)
    (hfew : ((backTo cpos (starEach (e :: es) X.env)).all (fun x => !x.1) && (backToKw cpos (keywordEach [] X.env)).all (fun x => x.1.isSome)
      && decide ((e :: es).length + ([] : List Keyword).length + (if ([] : List Keyword).isEmpty then 0 else 1) < 30)) = true) (hline : (apos.endLine == cpos.line) = true) :
    PV' Λ X W (.Call (.Attribute o name apos) (e :: es) [] cpos) (bmLD m dA dL) :=
  pv_plain ((pe_bm pa slot hty hm ho ha hbase hfew hline (starEach_no (stars1 hs).1) (noStars (stars1 hs).2)).mono fun σ H Q h => bmLD_split h) fun _ => rfl
theorem n_lm0 {o : PySem.Expr} {m : Bm} {dA : Sg → AH → R PV} {name : Str} {id : String} {apos cpos : Pos} (slot : Slot "list" name id) (pa : PlainAttrs "list") (hty : typeOf (.builtin id) = pure (.type "method_descriptor")) (hm : MtR X id (rLm Λ m))
    (ho : PE X o (tV Λ W dA)) (hbase : attributeBase o name X.env (eval o X.env) = eval o X.env) (hline : (apos.endLine == cpos.line) = true) :
    PV' Λ X W (.Call (.Attribute o name apos) [] [] cpos) (bmLD m dA fun _ h => .ok [] h) :=
  pv_plain ((pe_bm0 pa slot hty hm ho hbase hline).mono fun σ H Q h => (bmLD_split h).imp fun x H1 ⟨t, q⟩ => ⟨t, by
    obtain ⟨ρ, σ, ah, r, rs, post⟩ := q
    exact post ρ H1 [] Stp.refl r .nil⟩) fun _ => rfl
end
end NI
end

section
set_option Elab.async false
set_option autoImplicit false
set_option linter.all false
set_option maxRecDepth 100000
set_option maxHeartbeats 4000000
/-! Instances: attributes, methods, making. -/
namespace NI
open PySem PySem.Spec PyProof.Rows L2
theorem insAt_ok {h : AH} {x : PV} {n C : Nat} {fs : List (Nat × PV)} (e : insAt h x = some (n, C, fs)) : x = .obj n ∧ h[n]? = some (.ins C fs) := by
  unfold insAt at e
  split at e
  · rename_i m
    split at e
    · rename_i q; cases e; exact ⟨rfl, q⟩
    · cases e
  · cases e
theorem fget_put (fs : List (Nat × PV)) (f g : Nat) (v : PV) : fget (fput fs f v) g = if f = g then some v else fget fs g := by
  induction fs with
  | nil =>
    show (if (f == g) = true then some v else none) = _
    by_cases h : f = g
    · simp [h]
    · simp [h, fget]
  | cons p r ih =>
    obtain ⟨k, u⟩ := p
    show fget (if (k == f) = true then (k, v) :: r else (k, u) :: fput r f v) g = _
    by_cases h : k = f
    · subst h
      simp only [beq_self_eq_true, if_true, fget]
      by_cases h2 : k = g
      · subst h2; simp
      · simp [h2]
    · have hb : (k == f) = false := by simpa using h
      simp only [hb, Bool.false_eq_true, if_false, fget, ih]
      by_cases h2 : k = g
      · subst h2
        simp [Ne.symm h]
      · simp [h2]
theorem fput_len (fs : List (Nat × PV)) (f : Nat) (v : PV) : (fput fs f v).length = if fget fs f = none then fs.length + 1 else fs.length := by
  induction fs with
  | nil => simp [fput, fget]
  | cons p r ih =>
    obtain ⟨k, u⟩ := p
    unfold fput fget
    by_cases h : k = f
    · simp [h]
    · have hb : (k == f) = false := by simpa using h
      simp only [hb, Bool.false_eq_true, if_false, List.length_cons, ih]
      split <;> rfl
theorem putF_len (f : Str) (v : V) : ∀ fs : List (Str × V), (putF f v fs).length = if fs.lookup f = none then fs.length + 1 else fs.length
  | [] => by simp [putF]
  | (g, x) :: r => by
    have ih := putF_len f v r
    unfold putF
    by_cases h : g = f
    · subst h; simp
    · have hb : (f == g) = false := by simpa using Ne.symm h
      simp only [if_neg h, List.length_cons, ih, List.lookup_cons, hb]
      split <;> rfl
section
variable {Λ : Ln} {X : Cx} {W : WX} {e a b : PySem.Expr} {es : List PySem.Expr} {dA dB : Sg → AH → R PV} {dL : Sg → AH → R (List PV)} {pos : Pos} {ρ : List Addr} {H : Hp}
theorem FR.put {fsV : List (Str × V)} {fs : List (Nat × PV)} {f : Nat} {x : Str} {v : V} {p : PV} (h : FR Λ ρ H fsV fs) (hx : Λ.an f = some x) (r : Rp Λ ρ H v p) : FR Λ ρ H (putF x v fsV) (fput fs f p) := by
  obtain ⟨h1, h2, h3⟩ := h
  refine ⟨?_, fun y w e => ?_, fun g y hg => ?_⟩
  · rw [putF_len, fput_len]
    have q := h3 f x hx
    cases e : fget fs f with
    | none => rw [e] at q; rw [if_pos q, if_pos rfl]; omega
    | some u => rw [e] at q; obtain ⟨w, q1, _⟩ := q; rw [q1]; simp; omega
  · rw [lookup_putF] at e
    by_cases k : y = x
    · subst k; exact ⟨f, hx⟩
    · rw [if_neg k] at e; exact h2 y w e
  · rw [fget_put]
    by_cases k : f = g
    · subst k
      rw [hx] at hg
      cases hg
      rw [if_pos rfl]
      exact ⟨v, by rw [lookup_putF, if_pos rfl], r⟩
    · rw [if_neg k]
      have ne : ¬ y = x := fun z => by subst z; exact k (Λ.an_inj _ _ _ hx hg)
      have q := h3 g y hg
      cases e : fget fs g with
      | none => rw [e] at q; show (putF x v fsV).lookup y = none; rw [lookup_putF, if_neg ne]; exact q
      | some u => rw [e] at q; obtain ⟨w, q1, q2⟩ := q; exact ⟨w, by rw [lookup_putF, if_neg ne]; exact q1, q2⟩
/-- o.f -/
def fldD (dA : Sg → AH → R PV) (f : Nat) : Sg → AH → R PV := fun σ h => (dA σ h).bind fun x h => R.ofO h (fldV h x f)
theorem fld_at {ah : AH} (r : RelH Λ ρ H ah) {x : V} {p q : PV} {f : Nat} {nm : Str} (hx : Λ.an f = some nm) (rx : Rp Λ ρ H x p) (e : fldV ah p f = some q) : (∃ a C dx fs v, x = .ref a ∧ H a = some (.ins C dx fs) ∧ Cls Λ.K C ∧ NoAttr Λ.K C nm ∧ fs.lookup nm = some v ∧ Rp Λ ρ H v q) ∨
    (∃ a C dd fs v, x = .ref a ∧ H a = some (exo a C (some dd)) ∧ H dd = some (exd dd fs) ∧ ExcC Λ.K C ∧ PySem.W.findIn Λ.K (.ref C) nm = some none ∧ fs.lookup nm = some v ∧ Rp Λ ρ H v q) := by
  cases p with
  | obj n =>
    cases rx with
    | @obj a _ e1 =>
      have e2 : (match ah[n]? with
        | some (.ins _ fs) => fget fs f
        | some (.exc _ fs) => fget fs f
        | _ => none) = some q := e
      cases q1 : ah[n]? with
      | none => rw [q1] at e2; cases e2
      | some o =>
        rw [q1] at e2
        have ob := r.ob n a o e1 q1
        cases o with
        | ins C fs =>
          obtain ⟨cA, dx, fsV, h1, h2, h3, h4⟩ := ob
          have q2 := h3.2.2 f nm hx
          have e2 : fget fs f = some q := e2
          rw [e2] at q2
          obtain ⟨v, q3, q4⟩ := q2
          exact .inl ⟨a, cA, dx, fsV, v, rfl, h2, h4.1, h4.2 f nm hx (by rw [e2]; exact fun z => nomatch z), q3, q4⟩
        | exc C fs =>
          obtain ⟨_, cA, h1, g1, g2, h2⟩ := ob
          have e2 : fget fs f = some q := e2
          rcases h2 with ⟨_, h3⟩ | ⟨dd, fsV, h2, h3, h4, h5⟩
          · subst h3; cases e2
          · have q2 := h5.2.2 f nm hx
            rw [e2] at q2
            obtain ⟨v, q3, q4⟩ := q2
            exact .inr ⟨a, cA, dd, fsV, v, rfl, h3, h4, g1, g2 f nm hx (by rw [e2]; exact fun z => nomatch z), q3, q4⟩
        | _ => cases e2
  | _ => cases e
/-- o.f, o an instance or an exception that is held as a value -/
def tFX (K : PySem.W.Frag) (te : TE) (f : Str) : TE := fun σ H Q => te σ H fun x H1 => (∃ a C dx fs v, x = .ref a ∧ H1 a = some (.ins C dx fs) ∧ Cls K C ∧ NoAttr K C f ∧ fs.lookup f = some v ∧ Q v H1) ∨
  (∃ a C dd fs v, x = .ref a ∧ H1 a = some (exo a C (some dd)) ∧ H1 dd = some (exd dd fs) ∧ ExcC K C ∧ PySem.W.findIn K (.ref C) f = some none ∧ fs.lookup f = some v ∧ Q v H1)
theorem pe_fx {e : PySem.Expr} {te : TE} {f : Str} (he : PE X e te) (hb : attributeBase e f X.env (eval e X.env) = eval e X.env) : PE X (.Attribute e f pos) (tFX X.K te f) := by
  refine ⟨fun pins s σ H Q I h => ?_⟩
  refine attr_of hb (thn (he.run pins s σ H _ I h) fun u s1 ⟨x, H1, I1, rx, h1⟩ => ?_)
  rcases h1 with ⟨a, C, dx, fs, v, ex, ea, c, n, l, q⟩ | ⟨a, C, dd, fs, v, ex, ea, ed, c, n, l, q⟩
  · subst ex
    obtain rfl : u = Value.ref a := rx
    exact getattr_ok I1 ea c n l fun u' s2 I2 ru => ⟨v, H1, I2, ru, q⟩
  · subst ex
    obtain rfl : u = Value.ref a := rx
    obtain ⟨t1, ho⟩ := exo_at I1.hok ea
    obtain ⟨mA, hns, hr⟩ := exd_at I1.hok ed
    obtain ⟨od, hod, hl⟩ := lookIn_ns hns
    obtain ⟨u, hu, ru⟩ := RelO.some_of (v := v) (o := mA f) (by rw [← l]; exact hr f)
    have J : PySem.W.InstAt s1.heap a { cls := .ref C, dict := some dd, data := .fields #[.ref t1, .none, .none, .none, .bool false, .none] } C (some od) := ⟨ho, rfl, rfl, hod⟩
    exact HandSPX.exc_get I1.kIn J c.hg c.hk c.hs (PySem.W.findObj_own c.hd n rfl (by rw [hl, hu])) (handed_of ru) ⟨v, H1, I1.tok _, ru, q⟩
theorem n_fld {f : Nat} {nm : Str} (hk : X.K = Λ.K) (hx : Λ.an f = some nm) (ha : PE X a (tV Λ W dA)) (hb : attributeBase a nm X.env (eval a X.env) = eval a X.env) : PV' Λ X W (.Attribute a nm pos) (fldD dA f) :=
  pv_plain ((pe_fx ha hb).mono fun σV H Q ⟨ρ, σ, ah, r, rs, post⟩ => ⟨ρ, σ, ah, r, rs, (Post.bind post).imp fun x H1 ⟨ρ1, p, ah1, s1, r1, rx, _, q⟩ => by
    obtain ⟨z, ez, q⟩ := Post.ofO q
    rcases fld_at r1 hx rx ez with ⟨a, C, dx, fs, v, h1, h2, h3, h4, h5, h6⟩ | ⟨a, C, dx, fs, v, h1, h2, h3, h4, h5, h6, h7⟩
    · exact .inl ⟨a, C, dx, fs, v, h1, h2, by rw [hk]; exact h3, by rw [hk]; exact h4, h5, q ρ1 H1 v Stp.refl r1 h6⟩
    · exact .inr ⟨a, C, dx, fs, v, h1, h2, h3, by rw [hk]; exact h4, by rw [hk]; exact h5, h6, q ρ1 H1 v Stp.refl r1 h7⟩⟩) fun _ => rfl
/-- o.f = v -/
def sfldY (mt : Nat → Nat → Option Nat) (dA dB : Sg → AH → R PV) (f : Nat) : Sg → AH → Y := fun σ h => (dB σ h).to σ fun v h => (((dA σ h).bind fun x h => (match setFld mt h x f v with
        | some h => R.ok σ h
        | none => .no)) : R Sg).to σ fun σ h => .nx σ h
/-- what the classes are known for -/
def NaF (Λ : Ln) (mt : Nat → Nat → Option Nat) : Prop := ∀ C cA f x, Λ.ca C = some cA → Λ.an f = some x → mt C f = none → NoAttr Λ.K cA x
theorem y_fld {mt : Nat → Nat → Option Nat} {f : Nat} {nm : Str} {p' : Pos} (hk : X.K = Λ.K) (hx : Λ.an f = some nm) (na : NaF Λ mt) (ha : PE X a (tV Λ W dA)) (hb : PE X b (tV Λ W dB)) (hs : swapsWith b (some (.Attribute a nm p')) pos.line X.env = pure false) :
    PS X (.Assign [.Attribute a nm p'] b pos) (tY Λ W (sfldY mt dA dB f)) :=
  (ps_fld ha hb hs).mono fun D σV H h => (tY.to (f := fun v σ h => (((dA σ h).bind fun x h => (match setFld mt h x f v with
        | some h => R.ok σ h
        | none => .no)) : R Sg).to σ fun σ h => .nx σ h) h).imp fun y H1 ⟨ρ, q, σ, ah, r, rs, rq, post⟩ => by
    refine ⟨ρ, σ, ah, r, rs, ?_⟩
    cases e : dA σ ah with
    | no => rw [e] at post; exact post.elim
    | ex c fs h1 => rw [e] at post; exact fun ρ' H' d cA s' r' xr ec => post ρ' H' d cA σV s' r' (rs.mono s' r.nt) xr ec
    | ok p ah1 =>
      rw [e] at post
      intro ρ2 H2 x s2 r2 rx
      have post : PostY Λ W ρ H1 (((match setFld mt ah1 p f q with
        | some h => R.ok σ h
        | none => .no) : R Sg).to σ fun σ h => .nx σ h) D := post
      cases e2 : setFld mt ah1 p f q with
      | none => rw [e2] at post; exact post.elim
      | some ah2 =>
        rw [e2] at post
        have post : PostY Λ W ρ H1 (.nx σ ah2) D := post
        unfold setFld at e2
        cases e3 : insAt ah1 p with
        | none => rw [e3] at e2; cases e2
        | some t =>
          obtain ⟨n, C, fs⟩ := t
          rw [e3] at e2
          obtain ⟨rfl, e4⟩ := insAt_ok e3
          have e2 : (if (decide (fs.length < 100) && (mt C f).isNone) = true then some (ah1.set n (.ins C (fput fs f q))) else none) = some ah2 := e2
          cases hc : (decide (fs.length < 100) && (mt C f).isNone) with
          | false => rw [hc] at e2; cases e2
          | true =>
            rw [hc] at e2
            cases e2
            obtain ⟨c1, c2⟩ := ba hc
            have c1 := of_decide_eq_true c1
            have c2 : mt C f = none := by simpa using c2
            cases rx with
            | @obj pa _ e1 =>
              obtain ⟨cA, dx, fsV, h1, h2, h3, h4⟩ := r2.ob n pa _ e1 e4
              refine ⟨pa, cA, dx, fsV, rfl, h2, by rw [hk]; exact h4.1, by rw [hk]; exact na C cA f nm h1 hx c2, by have := h3.1; omega, ?_⟩
              have s3 : Stp ρ2 H2 ρ2 (upd H2 pa (.ins cA dx (putF nm y fsV))) := Stp.write e1 (by rw [h2]; trivial)
              refine post ρ2 _ σV (s2.trans s3) (r2.write e1 nt_ins ⟨cA, dx, _, h1, upd_same, ?_, h4.1, fun g x hg hne => ?_⟩) ((rs.mono s2 r.nt).mono s3 r2.nt)
              · exact FR.mono (fun _ _ => s3.tup r2.nt) (fun _ _ z => z) (h3.put hx (s2.rp r.nt rq))
              · rw [fget_put] at hne
                by_cases k : f = g
                · subst k; rw [hx] at hg; cases hg; exact na C cA f nm h1 hx c2
                · rw [if_neg k] at hne; exact h4.2 g x hg hne
end
end NI
end

section
set_option Elab.async false
set_option autoImplicit false
set_option linter.all false
set_option maxRecDepth 100000
set_option maxHeartbeats 4000000
/-! Methods, making. -/
namespace NI
open PySem PySem.Spec PyProof.Rows L2
section
variable {Λ : Ln} {X : Cx} {W : WX} {e o a b : PySem.Expr} {es : List PySem.Expr} {dA dB : Sg → AH → R PV} {dL : Sg → AH → R (List PV)} {pos apos p : Pos} {ρ : List Addr} {H : Hp} {CX : CXT} {k : Nat} {C f : Addr} {fd : FuncData} {ps : List Str} {sp : Sp} {E : L2.St → XK} {m x : Str} {ta : TE} {t : TA}
/-- the tree of a method call -/
theorem meth_ht {args : List PySem.Expr} {env : Env} (hb : attributeBase o m env (eval o env) = eval o env) (hf : methodCallForm (args.length + ([] : List Keyword).length) (backTo pos (starEach args env)) (backToKw pos (keywordEach [] env)) = true) (hl : (apos.endLine == pos.line) = true) :
    eval (.Call (.Attribute o m apos) args [] pos) env = (do
      let ov ← eval o env
      standAt apos.atName
      let (f, first) ← holding [ov] (getMethod ov m (do return (← importBound o env).getD true))
      callWith pos f first (backTo pos (starEach args env)) (backToKw pos (keywordEach [] env))) := by
  show (do
    let ov ← attributeBase o m env (eval o env)
    standAt apos.atName
    methodCall o m apos pos env ov (args.length + ([] : List Keyword).length) (backTo pos (starEach args env)) (backToKw pos (keywordEach [] env))) = _
  rw [hb]
  unfold methodCall calleeOf methodCallPos
  simp only [hf, if_true, Bool.not_true, Bool.false_or, hl, pure_bind]
def tMthS (C : Addr) (m : Str) (sp : Sp) (E : L2.St → XK) (ta : TE) (t : TA) : TE := fun σ H Q => ta σ H fun x H1 => ∃ a dx fs, x = .ref a ∧ H1 a = some (.ins C dx fs) ∧ fs.lookup m = none ∧ t σ H1 fun vs H2 => sp (x :: vs) H2 Q (E σ)
theorem pe_mthS (he : PE X o ta) (c : Cls X.K C) (hm : Meth X.K C m f) (F : FnOk X.prog X.w X.K X.mg X.base CX k f fd ps sp) (hr : Room k X.A) (hb : Binds X.K fd ps []) (hx : ∀ σ, PassesAt CX X σ (E σ)) (ha : PA X (e :: es) t)
    (hs : (e :: es).all (fun e => !isStar e) = true) (hbase : attributeBase o m X.env (eval o X.env) = eval o X.env) (hf : methodCallForm ((e :: es).length + ([] : List Keyword).length) (backTo pos (starEach (e :: es) X.env)) (backToKw pos (keywordEach [] X.env)) = true) (hl : (apos.endLine == pos.line) = true) :
    PE X (.Call (.Attribute o m apos) (e :: es) [] pos) (tMthS C m sp E ta t) := by
  refine ⟨fun pins s σ H Q I h => ?_⟩
  refine PySem.W.methodCall_KW (thn (he.run pins s σ H _ I h) fun u s1 ⟨x, H1, I1, rx, a, dx, fs, ex, ea, l, q⟩ => ?_) (meth_ht hbase hf hl)
  subst ex
  obtain rfl : u = Value.ref a := rx
  refine getmeth_ok I1 ea c hm l ?_
  refine PySem.W.callWith_K (first := [.ref a]) (h₀ := X.base) I.ok.mod.kin hm.kp (thn (ha.run pos pins s1 σ H1 _ I1 q) fun us s2 ⟨vs, H2, I2, r, q2⟩ => ⟨I2.kIn, ?_⟩) (starEach_no (stars1 hs).1) (noStars (stars1 hs).2)
  exact run_fnS (us := .ref a :: us) (vs := .ref a :: vs) F hr hb (hx σ) I2 (.cons rfl r) q2
theorem pe_mthS0 (he : PE X o ta) (c : Cls X.K C) (hm : Meth X.K C m f) (F : FnOk X.prog X.w X.K X.mg X.base CX k f fd ps sp) (hr : Room k X.A) (hb : Binds X.K fd ps []) (hx : ∀ σ, PassesAt CX X σ (E σ))
    (hbase : attributeBase o m X.env (eval o X.env) = eval o X.env) (hl : (apos.endLine == pos.line) = true) :
    PE X (.Call (.Attribute o m apos) [] [] pos) (tMthS C m sp E ta tNil) := by
  refine ⟨fun pins s σ H Q I h => ?_⟩
  refine PySem.W.methodCall_KW (thn (he.run pins s σ H _ I h) fun u s1 ⟨x, H1, I1, rx, a, dx, fs, ex, ea, l, q⟩ => ?_) (meth_ht hbase rfl hl)
  subst ex
  obtain rfl : u = Value.ref a := rx
  refine getmeth_ok I1 ea c hm l ?_
  exact PySem.W.callWith_K0 (first := [.ref a]) I1.kIn hm.kp (run_fnS (us := [.ref a]) (vs := [.ref a]) F hr hb (hx σ) I1 (.cons rfl .nil) q)
/-- what is known of methods -/
def MtF (Λ : Ln) (X : Cx) (CX : CXT) (mt : Nat → Nat → Option Nat) (fn : Nat → List PV → AH → R PV) : Prop := ∀ C cA m nm g, Λ.ca C = some cA → Λ.an m = some nm → mt C m = some g →
  ∃ f fd ps k, Meth X.K cA nm f ∧ FnOk X.prog X.w X.K X.mg X.base CX k f fd ps (spO Λ (fn g) ps.length) ∧ (∀ vs h, fn g vs h = .no ∨ vs.length = ps.length) ∧ Room k X.A ∧ Binds X.K fd ps []
def mthD (mt : Nat → Nat → Option Nat) (fn : Nat → List PV → AH → R PV) (m : Nat) (dA : Sg → AH → R PV) (dL : Sg → AH → R (List PV)) : Sg → AH → R PV := fun σ h => (dA σ h).bind fun x h => match insAt h x with
      | some (_, C, fs) => (match fget fs m, mt C m with
        | none, some g => (dL σ h).bind fun vs h => fn g (x :: vs) h
        | _, _ => .no)
      | none => .no
/-- which method it is -/
theorem mth_case {mt : Nat → Nat → Option Nat} {fn : Nat → List PV → AH → R PV} {mi : Nat} {σV : L2.St} {Q : VK} (h : tV Λ W (mthD mt fn mi dA dL) σV H Q) :
    (∃ c fs ah1 ρ σ ah, RelH Λ ρ H ah ∧ RelS Λ ρ σV H σ ∧ dA σ ah = .ex c fs ah1 ∧ Post Λ (fun c d H' => W c d σV H') (Rp Λ) ρ H (.ex c fs ah1) Q) ∨
    ∃ C g ρ σ ah n ah1 fs, RelH Λ ρ H ah ∧ RelS Λ ρ σV H σ ∧ dA σ ah = .ok (.obj n) ah1 ∧ ah1[n]? = some (.ins C fs) ∧ fget fs mi = none ∧ mt C mi = some g ∧ Post Λ (fun c d H' => W c d σV H') (Rp Λ) ρ H ((dL σ ah1).bind fun vs h => fn g (.obj n :: vs) h) Q := by
  obtain ⟨ρ, σ, ah, r, rs, post⟩ := h
  unfold mthD at post
  cases e : dA σ ah with
  | no => rw [e] at post; exact post.elim
  | ex c fs ah1 => rw [e] at post; exact .inl ⟨c, fs, ah1, ρ, σ, ah, r, rs, e, post⟩
  | ok x ah1 =>
    rw [e] at post
    have post : Post Λ (fun c d H' => W c d σV H') (Rp Λ) ρ H (match insAt ah1 x with
      | some (_, C, fs) => (match fget fs mi, mt C mi with
        | none, some g => (dL σ ah1).bind fun vs h => fn g (x :: vs) h
        | _, _ => .no)
      | none => .no) Q := post
    cases e2 : insAt ah1 x with
    | none => rw [e2] at post; exact post.elim
    | some t =>
      obtain ⟨n, C, fs⟩ := t
      rw [e2] at post
      obtain ⟨rfl, e3⟩ := insAt_ok e2
      have post : Post Λ (fun c d H' => W c d σV H') (Rp Λ) ρ H (match fget fs mi, mt C mi with
        | none, some g => (dL σ ah1).bind fun vs h => fn g (.obj n :: vs) h
        | _, _ => .no) Q := post
      cases e4 : fget fs mi with
      | some _ => rw [e4] at post; exact post.elim
      | none =>
        cases e5 : mt C mi with
        | none => rw [e4, e5] at post; exact post.elim
        | some g =>
          rw [e4, e5] at post
          exact .inr ⟨C, g, ρ, σ, ah, n, ah1, fs, r, rs, e, e3, e4, e5, post⟩
theorem n_mth {mt : Nat → Nat → Option Nat} {fn : Nat → List PV → AH → R PV} {mi : Nat} (hk : X.K = Λ.K) (hn : Λ.an mi = some m) (M : MtF Λ X CX mt fn) (hx : ∀ σ, PassesAt CX X σ (WE W σ)) (ho : PE X o (tV Λ W dA)) (ha : PA X (e :: es) (tVs Λ W dL))
    (hs : (e :: es).all (fun e => !isStar e) = true) (hbase : attributeBase o m X.env (eval o X.env) = eval o X.env) (hf : methodCallForm ((e :: es).length + ([] : List Keyword).length) (backTo pos (starEach (e :: es) X.env)) (backToKw pos (keywordEach [] X.env)) = true) (hl : (apos.endLine == pos.line) = true) :
    PV' Λ X W (.Call (.Attribute o m apos) (e :: es) [] pos) (mthD mt fn mi dA dL) := by
  refine pv_plain ⟨fun pins s σV H Q I h => ?_⟩ fun _ => rfl
  rcases mth_case h with ⟨c, fs, ah1, ρ, σ, ah, r, rs, e1, post⟩ | ⟨C, g, ρ, σ, ah, n, ah1, fs, r, rs, e1, e2, e3, e4, post⟩
  · -- the receiver raises
    refine PySem.W.methodCall_KW (thn (ho.run pins s σV H (fun _ _ => False) I ⟨ρ, σ, ah, r, rs, by rw [e1]; exact post⟩) fun u s1 ⟨x, H1, I1, rx, q⟩ => q.elim) (meth_ht hbase hf hl)
  · have hC : ∃ cA, Λ.ca C = some cA ∧ Cls Λ.K cA ∨ True := ⟨0, .inr trivial⟩
    -- the class is known when the receiver has come
    refine PySem.W.methodCall_KW (thn (ho.run pins s σV H (fun x H1 => ∃ ρ1, Stp ρ H ρ1 H1 ∧ RelH Λ ρ1 H1 ah1 ∧ Rp Λ ρ1 H1 x (.obj n)) I ⟨ρ, σ, ah, r, rs, by rw [e1]; exact fun ρ1 H1 v s1 r1 rv => ⟨ρ1, s1, r1, rv⟩⟩) fun u s1 ⟨x, H1, I1, rx, ρ1, st, r1, rv⟩ => ?_) (meth_ht hbase hf hl)
    cases rv with
    | @obj a _ ea =>
      obtain ⟨cA, dx, fsV, h1, h2, h3, h4⟩ := r1.ob n a _ ea e2
      obtain ⟨fA, fd, ps, k, hm, F, len, hr, hb⟩ := M C cA mi m g h1 hn e4
      have l := h3.2.2 mi m hn
      rw [e3] at l
      obtain rfl : u = Value.ref a := rx
      refine getmeth_ok I1 h2 (by rw [hk]; exact h4.1) hm l ?_
      have q : tVs Λ W dL σV H1 fun vs H2 => spO Λ (fn g) ps.length (.ref a :: vs) H2 Q (WE W σV) := by
        refine ⟨ρ1, σ, ah1, r1, rs.mono st r.nt, ((Post.bind (R1 := RpL Λ) (post.step st)).imp fun vs H2 ⟨ρ2, qs, ah2, s2, r2, rvs, _, q2⟩ => ?_)⟩
        have rr : RpL Λ ρ2 H2 (.ref a :: vs) (.obj n :: qs) := .cons (.obj (s2.at_ ea)) rvs
        exact ⟨ρ2, _, ah2, lenOk len rr q2, r2, rr, q2⟩
      refine PySem.W.callWith_K (first := [.ref a]) (h₀ := X.base) I.ok.mod.kin hm.kp (thn (ha.run pos pins s1 σV H1 _ I1 q) fun us s2 ⟨vs, H2, I2, r, q2⟩ => ⟨I2.kIn, ?_⟩) (starEach_no (stars1 hs).1) (noStars (stars1 hs).2)
      exact run_fnS (us := .ref a :: us) (vs := .ref a :: vs) (E := WE W) F hr hb (hx σV) I2 (.cons rfl r) q2
theorem n_mth0 {mt : Nat → Nat → Option Nat} {fn : Nat → List PV → AH → R PV} {mi : Nat} (hk : X.K = Λ.K) (hn : Λ.an mi = some m) (M : MtF Λ X CX mt fn) (hx : ∀ σ, PassesAt CX X σ (WE W σ)) (ho : PE X o (tV Λ W dA))
    (hbase : attributeBase o m X.env (eval o X.env) = eval o X.env) (hl : (apos.endLine == pos.line) = true) :
    PV' Λ X W (.Call (.Attribute o m apos) [] [] pos) (mthD mt fn mi dA fun _ h => .ok [] h) := by
  refine pv_plain ⟨fun pins s σV H Q I h => ?_⟩ fun _ => rfl
  rcases mth_case h with ⟨c, fs, ah1, ρ, σ, ah, r, rs, e1, post⟩ | ⟨C, g, ρ, σ, ah, n, ah1, fs, r, rs, e1, e2, e3, e4, post⟩
  · refine PySem.W.methodCall_KW (thn (ho.run pins s σV H (fun _ _ => False) I ⟨ρ, σ, ah, r, rs, by rw [e1]; exact post⟩) fun u s1 ⟨x, H1, I1, rx, q⟩ => q.elim) (meth_ht hbase rfl hl)
  · refine PySem.W.methodCall_KW (thn (ho.run pins s σV H (fun x H1 => ∃ ρ1, Stp ρ H ρ1 H1 ∧ RelH Λ ρ1 H1 ah1 ∧ Rp Λ ρ1 H1 x (.obj n)) I ⟨ρ, σ, ah, r, rs, by rw [e1]; exact fun ρ1 H1 v s1 r1 rv => ⟨ρ1, s1, r1, rv⟩⟩) fun u s1 ⟨x, H1, I1, rx, ρ1, st, r1, rv⟩ => ?_) (meth_ht hbase rfl hl)
    cases rv with
    | @obj a _ ea =>
      obtain ⟨cA, dx, fsV, h1, h2, h3, h4⟩ := r1.ob n a _ ea e2
      obtain ⟨fA, fd, ps, k, hm, F, len, hr, hb⟩ := M C cA mi m g h1 hn e4
      have l := h3.2.2 mi m hn
      rw [e3] at l
      obtain rfl : u = Value.ref a := rx
      refine getmeth_ok I1 h2 (by rw [hk]; exact h4.1) hm l ?_
      have post : Post Λ (fun c d H' => W c d σV H') (Rp Λ) ρ H (fn g [.obj n] ah1) Q := post
      have rr : RpL Λ ρ1 H1 [.ref a] [.obj n] := .cons (.obj ea) .nil
      exact PySem.W.callWith_K0 (first := [.ref a]) I1.kIn hm.kp (run_fnS (us := [.ref a]) (vs := [.ref a]) (E := WE W) F hr hb (hx σV) I1 (.cons rfl .nil) ⟨ρ1, _, ah1, lenOk len rr (post.step st), r1, rr, post.step st⟩)
end
end NI
end

section
set_option Elab.async false
set_option autoImplicit false
set_option linter.all false
set_option maxRecDepth 100000
set_option maxHeartbeats 4000000
/-! Making an instance. -/
namespace NI
open PySem PySem.Spec PyProof.Rows L2
section
variable {Λ : Ln} {X : Cx} {W : WX} {e o a b : PySem.Expr} {es : List PySem.Expr} {dA dB : Sg → AH → R PV} {dL : Sg → AH → R (List PV)} {pos apos p : Pos} {ρ : List Addr} {H : Hp} {CX : CXT} {k : Nat} {C f : Addr} {fd : FuncData} {ps : List Str} {sp : Sp} {m x : Str}
/-- the maker runs, at the slots σ -/
theorem run_makeS {E : XK} {pins : List (Addr × Obj)} {σ : L2.St} {H : Hp} {s : Shared} {Q : VK} {us : List Value} {vs : List V} (M : Mk X.K C f) (F : FnOk X.prog X.w X.K X.mg X.base CX k f fd ps sp) (hr : Room (k + 1) X.A) (hb : Binds X.K fd ps [])
    (hx : PassesAt CX X σ E) (I : Inv X pins σ H s) (r : Vals vs us)
    (h : ∀ x dx, H x = none → H dx = none → dx ≠ x → sp (.ref x :: vs) (upd (upd H dx (.own x)) x (.ins C dx [])) (fun v H2 => v = .non ∧ Q (.ref x) H2) E) :
    wpAny (model X.prog X.w) X.A (call (.ref C) us) (EP X pins σ Q) X.xe s := by
  have hq := h (s.heap.objs.size + 1) s.heap.objs.size (I.hok.fresh (Nat.le_succ _)) (I.hok.fresh (Nat.le_refl _)) (Nat.ne_of_lt (Nat.lt_succ_self _))
  have I2 := Inv.made (C := C) I
  have r2 : Vals (V.ref (s.heap.objs.size + 1) :: vs) (Value.ref (s.heap.objs.size + 1) :: us) := .cons rfl r
  have hl : (Value.ref (s.heap.objs.size + 1) :: us).length = ps.length := by
    have e := r2.length
    rw [F.len _ _ _ _ hq] at e
    exact e.symm
  have hb2 := hb _ (Value.ref (s.heap.objs.size + 1) :: us) I2.kIn (by rw [List.append_nil]; exact hl)
  rw [List.append_nil] at hb2
  refine wpAny_call (make_map (f := f) I.kIn M.makes M.init (beq_iff_eq.mp M.fn) (codeAny_mono (F.run _ X.stack _ _ ⟨Value.ref (s.heap.objs.size + 1) :: us, []⟩ (Value.ref (s.heap.objs.size + 1) :: us) _ _ E (hr.make C us [])
    (I2.env0.make C us []) hb2 r2 hq) fun r s' hq' => ?_))
  cases r with
  | error e => exact hx pins _ _ e s' I2 hq'
  | ok fl =>
    cases fl with
    | ret u =>
      obtain ⟨v, H', I3, rv, ev, q3⟩ := I2.after hq'
      subst ev
      exact ⟨rv, ⟨V.ref (s.heap.objs.size + 1), H', I3, rfl, q3⟩⟩
    | next => exact False.elim hq'
    | brk => exact False.elim hq'
    | cont => exact False.elim hq'
def mkD (fn : Nat → List PV → AH → R PV) (C g : Nat) (dL : Sg → AH → R (List PV)) : Sg → AH → R PV := fun σ h => (dL σ h).bind fun vs h => (fn g (.obj h.length :: vs) (h ++ [.ins C []])).bind fun v h1 => (match v with
        | .non => .ok (.obj h.length) h1
        | _ => .no)
/-- what is laid before the maker runs -/
theorem mk_core {fn : Nat → List PV → AH → R PV} {Ci g : Nat} {cA : Addr} {vs : List V} {qs : List PV} {ah : AH} {E : XK} {Q : VK} {n : Nat} (hC : Λ.ca Ci = some cA) (cl : Cls Λ.K cA) (len : ∀ vs h, fn g vs h = .no ∨ vs.length = n) (r : RelH Λ ρ H ah) (rv : RpL Λ ρ H vs qs)
    (post : Post Λ E (Rp Λ) ρ H ((fn g (.obj ah.length :: qs) (ah ++ [.ins Ci []])).bind fun v h1 => (match v with
        | .non => .ok (.obj ah.length) h1
        | _ => .no)) Q) {x dx : Addr} (hx : H x = none) (hdx : H dx = none) (ne : dx ≠ x) :
    spO Λ (fn g) n (.ref x :: vs) (upd (upd H dx (.own x)) x (.ins cA dx [])) (fun v H2 => v = .non ∧ Q (.ref x) H2) E := by
  have r1 : RelH Λ ρ (upd H dx (.own x)) ah := r.fresh hdx _
  have hx1 : (upd H dx (.own x)) x = none := by rw [upd_ne (Ne.symm ne)]; exact hx
  have r2 : RelH Λ (ρ ++ [x]) (upd (upd H dx (.own x)) x (.ins cA dx [])) (ah ++ [.ins Ci []]) := by
    refine r1.new hx1 nt_ins ⟨cA, dx, [], hC, upd_same, ⟨Nat.le_refl _, (fun y w e => nomatch e), (fun f y _ => rfl)⟩, cl, (fun f y _ h => absurd rfl h)⟩
  have s1 : Stp ρ H ρ (upd H dx (.own x)) := Stp.fresh hdx _
  have s2 : Stp ρ (upd H dx (.own x)) (ρ ++ [x]) (upd (upd H dx (.own x)) x (.ins cA dx [])) := Stp.grow hx1
  have st := s1.trans s2
  have ex : (ρ ++ [x])[ah.length]? = some x := by rw [← r.len]; exact app_last _ _
  have rr : RpL Λ (ρ ++ [x]) (upd (upd H dx (.own x)) x (.ins cA dx [])) (.ref x :: vs) (.obj ah.length :: qs) := .cons (.obj ex) (st.rpL r.nt rv)
  have hl : (V.ref x :: vs).length = n := by
    rcases len (.obj ah.length :: qs) (ah ++ [.ins Ci []]) with e | e
    · rw [e] at post; exact post.elim
    · rw [rr.length]; exact e
  refine ⟨_, _, _, hl, r2, rr, ?_⟩
  cases e : fn g (.obj ah.length :: qs) (ah ++ [.ins Ci []]) with
  | no => rw [e] at post; exact post.elim
  | ex c fs h1 => rw [e] at post; exact fun ρ' H' d c' s' r' xr ec => post ρ' H' d c' (st.trans s') r' xr ec
  | ok v h1 =>
    rw [e] at post
    intro ρ' H' u s' r' ru
    cases v with
    | non =>
      cases ru
      exact ⟨rfl, (show Post Λ E (Rp Λ) ρ H (.ok (.obj ah.length) h1) Q from post) ρ' H' _ (st.trans s') r' (.obj (s'.at_ ex))⟩
    | _ => exact post.elim
theorem n_mk {fn : Nat → List PV → AH → R PV} {Ci g : Nat} (hk : X.K = Λ.K) (hC : Λ.ca Ci = some C) (cl : Cls Λ.K C) (M : Mk X.K C f) (F : FnOk X.prog X.w X.K X.mg X.base CX k f fd ps (spO Λ (fn g) ps.length)) (len : ∀ vs h, fn g vs h = .no ∨ vs.length = ps.length) (hr : Room (k + 1) X.A) (hb : Binds X.K fd ps [])
    (hx : ∀ σ, PassesAt CX X σ (WE W σ)) (hg : Gl X x) (hm : X.mg x = some (.ref C)) (hd : (x == ("__debug__" : Str)) = false) (hs : (e :: es).all (fun e => !isStar e) = true) (ha : PA X (e :: es) (tVs Λ W dL)) :
    PV' Λ X W (.Call (.Name x p) (e :: es) [] pos) (mkD fn Ci g dL) :=
  pv_plain ⟨fun pins s σV H Q I h => by
    refine wpAny_Call_Name_kw (ld_glob I hg hm ?_ hd)
    obtain ⟨ρ, σ, ah, r, rs, post⟩ := h
    have q : tVs Λ W dL σV H fun vs H1 => ∃ ρ1 qs ah1, RelH Λ ρ1 H1 ah1 ∧ RpL Λ ρ1 H1 vs qs ∧ Post Λ (WE W σV) (Rp Λ) ρ1 H1 ((fn g (.obj ah1.length :: qs) (ah1 ++ [.ins Ci []])).bind fun v h1 => (match v with
        | .non => .ok (.obj ah1.length) h1
        | _ => .no)) Q := ⟨ρ, σ, ah, r, rs, (Post.bind (R1 := RpL Λ) post).imp fun vs H1 ⟨ρ1, qs, ah1, s1, r1, rv, _, q⟩ => ⟨ρ1, qs, ah1, r1, rv, q⟩⟩
    refine PySem.W.callWith_K (h₀ := X.base) I.ok.mod.kin M.kp (thn (ha.run pos pins s σV H _ I q) fun us s1 ⟨vs, H1, I1, r, ρ1, qs, ah1, r1, rv, post1⟩ => ⟨I1.kIn, ?_⟩) (starEach_no (stars1 hs).1) (noStars (stars1 hs).2)
    exact run_makeS M F hr hb (hx σV) I1 r fun x dx h1 h2 h3 => mk_core hC cl len r1 rv post1 h1 h2 h3⟩ fun _ => rfl
theorem n_mk0 {fn : Nat → List PV → AH → R PV} {Ci g : Nat} (hk : X.K = Λ.K) (hC : Λ.ca Ci = some C) (cl : Cls Λ.K C) (M : Mk X.K C f) (F : FnOk X.prog X.w X.K X.mg X.base CX k f fd ps (spO Λ (fn g) ps.length)) (len : ∀ vs h, fn g vs h = .no ∨ vs.length = ps.length) (hr : Room (k + 1) X.A) (hb : Binds X.K fd ps [])
    (hx : ∀ σ, PassesAt CX X σ (WE W σ)) (hg : Gl X x) (hm : X.mg x = some (.ref C)) (hd : (x == ("__debug__" : Str)) = false) :
    PV' Λ X W (.Call (.Name x p) [] [] pos) (mkD fn Ci g fun _ h => .ok [] h) :=
  pv_plain ⟨fun pins s σV H Q I h => by
    refine wpAny_Call_Name_kw (ld_glob I hg hm ?_ hd)
    obtain ⟨ρ, σ, ah, r, rs, post⟩ := h
    exact PySem.W.callWith_K0 I.kIn M.kp (run_makeS (us := []) (vs := []) M F hr hb (hx σV) I .nil fun x dx h1 h2 h3 => mk_core hC cl len r .nil post h1 h2 h3)⟩ fun _ => rfl
end
end NI
end

section
set_option Elab.async false
set_option autoImplicit false
set_option linter.all false
set_option maxRecDepth 100000
set_option maxHeartbeats 4000000
/-! Built-ins over sequences. -/
namespace NI
open PySem PySem.Spec PyProof.Rows L2
section
variable {Λ : Ln} {X : Cx} {W : WX} {e a b : PySem.Expr} {dA dB : Sg → AH → R PV} {dL : Sg → AH → R (List PV)} {pos p : Pos} {ρ : List Addr} {H : Hp}
theorem allBl_of : ∀ {ps : List PV} {bs : List Bool} {vs : List V}, allBl ps = some bs → RpL Λ ρ H vs ps → vs = bs.map V.bl
  | [], bs, _, h, r => by cases h; cases r; rfl
  | p :: ps, bs, _, h, r => by
    cases r with
    | cons r1 rt =>
      cases p with
      | bl b =>
        obtain ⟨bs', h1, h2⟩ := Option.map_eq_some_iff.mp (show (allBl ps).map (b :: ·) = some bs from h)
        subst h2
        cases r1
        rw [List.map_cons, allBl_of h1 rt]
      | _ => cases h
/-- a built-in over a fresh list -/
def bqlD (b : Bf) (dL : Sg → AH → R (List PV)) : Sg → AH → R PV := fun σ h => (dL σ h).bind fun xs h => R.ofO h (bqV b xs)
theorem n_any (hk : X.K = Λ.K) (hc : X.calm = true) (hg : Gl X "any") (hm : X.mg "any" = none) (ha : PE X a (tF Λ W dL)) (hs : isStar a = false) : PV' Λ X W (.Call (.Name "any" p) [a] [] pos) (bqlD .any dL) :=
  pv_plain ((pe_callB (cr_any hc) hg hm (by decide +kernel) (pa_cons ha pa_nil (starEach_no hs)) (by decide) (by decide) (starEach_no hs) rfl).mono fun σV H Q ⟨ρ, σ, ah, r, rs, post⟩ => ⟨ρ, σ, ah, r, rs, by
    unfold bqlD at post
    cases e : dL σ ah with
    | no => rw [e] at post; exact post.elim
    | ex c fs h1 => rw [e] at post; exact post
    | ok ps ah1 =>
      rw [e] at post
      intro ρ1 H1 v s1 r1 ⟨q, xs, ev, h0, h1, na, rr⟩
      obtain ⟨z, ez, post⟩ := Post.ofO (show Post Λ _ (Rp Λ) ρ H (R.ofO ah1 (bqV .any ps)) Q from post)
      obtain ⟨bs, eb, rfl⟩ := Option.map_eq_some_iff.mp (show (allBl ps).map (fun l => PV.bl (l.any id)) = some z from ez)
      exact ⟨q, bs, by rw [ev], by rw [← allBl_of eb rr]; exact SqL.of h1, post ρ1 H1 _ s1 r1 (.bl _)⟩⟩) fun _ => rfl
theorem n_all (hk : X.K = Λ.K) (hc : X.calm = true) (hg : Gl X "all") (hm : X.mg "all" = none) (ha : PE X a (tF Λ W dL)) (hs : isStar a = false) : PV' Λ X W (.Call (.Name "all" p) [a] [] pos) (bqlD .all dL) :=
  pv_plain ((pe_callB (cr_all hc) hg hm (by decide +kernel) (pa_cons ha pa_nil (starEach_no hs)) (by decide) (by decide) (starEach_no hs) rfl).mono fun σV H Q ⟨ρ, σ, ah, r, rs, post⟩ => ⟨ρ, σ, ah, r, rs, by
    unfold bqlD at post
    cases e : dL σ ah with
    | no => rw [e] at post; exact post.elim
    | ex c fs h1 => rw [e] at post; exact post
    | ok ps ah1 =>
      rw [e] at post
      intro ρ1 H1 v s1 r1 ⟨q, xs, ev, h0, h1, na, rr⟩
      obtain ⟨z, ez, post⟩ := Post.ofO (show Post Λ _ (Rp Λ) ρ H (R.ofO ah1 (bqV .all ps)) Q from post)
      obtain ⟨bs, eb, rfl⟩ := Option.map_eq_some_iff.mp (show (allBl ps).map (fun l => PV.bl (l.all id)) = some z from ez)
      exact ⟨q, bs, by rw [ev], by rw [← allBl_of eb rr]; exact SqL.of h1, post ρ1 H1 _ s1 r1 (.bl _)⟩⟩) fun _ => rfl
/-- tuple of a fresh list -/
theorem n_tupl (hk : X.K = Λ.K) (hg : Gl X "tuple") (hm : X.mg "tuple" = none) (ha : PE X a (tF Λ W dL)) (hs : isStar a = false) : PV' Λ X W (.Call (.Name "tuple" p) [a] [] pos) (bqlD .tuple dL) :=
  pv_plain ((pe_tupleOf hg hm ha (starEach_no hs)).mono fun σV H Q ⟨ρ, σ, ah, r, rs, post⟩ => ⟨ρ, σ, ah, r, rs, by
    unfold bqlD at post
    cases e : dL σ ah with
    | no => rw [e] at post; exact post.elim
    | ex c fs h1 => rw [e] at post; exact post
    | ok ps ah1 =>
      rw [e] at post
      intro ρ1 H1 v s1 r1 ⟨q, xs, ev, h0, h1, na, rr⟩
      have post : Post Λ _ (Rp Λ) ρ H (.ok (.tup ps) ah1) Q := post
      refine .inl ⟨q, xs, ev, SqL.of h1, fun t ht => ?_⟩
      have s2 : Stp ρ1 H1 ρ1 (upd H1 t (.tup xs)) := Stp.fresh ht _
      exact post ρ1 _ _ (s1.trans s2) (r1.fresh ht _) (.tup (SqT.of upd_same) (s2.rpL r1.nt rr))⟩) fun _ => rfl
/-- len of a fresh list -/
theorem n_lenl (hk : X.K = Λ.K) (hg : Gl X "len") (hm : X.mg "len" = none) (ha : PE X a (tF Λ W dL)) (hs : isStar a = false) : PV' Λ X W (.Call (.Name "len" p) [a] [] pos) (bqlD .len dL) :=
  pv_plain ((pe_callB call_len hg hm (by decide +kernel) (pa_cons ha pa_nil (starEach_no hs)) (by decide) (by decide) (starEach_no hs) rfl).mono fun σV H Q ⟨ρ, σ, ah, r, rs, post⟩ => ⟨ρ, σ, ah, r, rs, by
    unfold bqlD at post
    cases e : dL σ ah with
    | no => rw [e] at post; exact post.elim
    | ex c fs h1 => rw [e] at post; exact post
    | ok ps ah1 =>
      rw [e] at post
      intro ρ1 H1 v s1 r1 ⟨q, xs, ev, h0, h1, na, rr⟩
      have post : Post Λ _ (Rp Λ) ρ H (.ok (.int ps.length) ah1) Q := post
      exact ⟨v, ps.length, rfl, by rw [ev]; exact .inl ⟨xs, SqL.of h1, rr.length.symm⟩, post ρ1 H1 _ s1 r1 (.int _)⟩⟩) fun _ => rfl
/-- tuple of a value -/
theorem b_tuple (hk : X.K = Λ.K) : CallR X (.type "tuple") (rB Λ fun vs h => R.ofO h (bfV .tuple h vs)) :=
  CallR.mono call_tuple_of fun vs H Q ⟨E, ρ, ps, ah, r, rv, post⟩ => by
    obtain ⟨z, ez, post⟩ := Post.ofO post
    cases rv with
    | nil => cases ez
    | @cons v vs p ps' r1 rt =>
      cases rt with
      | @cons _ _ p2 ps2 _ rt2 =>
        cases rt2 with
        | nil => cases p <;> first | (cases ez; done) | (cases p2 <;> cases ez; done)
        | cons _ _ => cases ez
      | nil =>
        cases p with
        | tup xs =>
          cases ez
          cases r1 with
          | tup h1 h2 => exact ⟨_, _, rfl, .inr ⟨by rw [hk]; exact h1, post ρ H _ Stp.refl r (.tup h1 h2)⟩⟩
        | obj n =>
          cases r1 with
          | @obj pa _ e1 =>
            obtain ⟨xs, el, rfl⟩ := Option.map_eq_some_iff.mp (show (lstAt ah n).map PV.tup = some z from ez)
            obtain ⟨ys, l1, l2⟩ := r.lst_at e1 el
            refine ⟨pa, ys, rfl, .inl ⟨by rw [hk]; exact l1, fun t ht => ?_⟩⟩
            have s2 : Stp ρ H ρ (upd H t (.tup ys)) := Stp.fresh ht _
            exact post ρ _ _ s2 (r.fresh ht _) (.tup (SqT.of upd_same) (s2.rpL r.nt l2))
        | _ => cases ez
/-- list of a value: fresh -/
def lqD (dA : Sg → AH → R PV) : Sg → AH → R (List PV) := fun σ h => (dA σ h).bind fun x h => (match x with
    | .tup xs => .ok xs h
    | .obj n => R.ofO h (lstAt h n)
    | _ => .no)
theorem l_list (hk : X.K = Λ.K) (hg : Gl X "list") (hm : X.mg "list" = none) (ha : PE X a (tV Λ W dA)) (hs : isStar a = false) : PE X (.Call (.Name "list" p) [a] [] pos) (tF Λ W (lqD dA)) :=
  (pe_callTy call_list_of hg hm (by decide +kernel) (pa_cons ha pa_nil (starEach_no hs)) (by decide) (by decide) (starEach_no hs) rfl).mono fun σV H Q ⟨ρ, σ, ah, r, rs, post⟩ => ⟨ρ, σ, ah, r, rs, (Post.bindL post).imp fun v H1 ⟨ρ1, q, ah1, s1, r1, rv, _, post⟩ => by
    cases q with
    | tup xs =>
      cases rv with
      | @tup pa ys _ h1 h2 =>
        refine ⟨_, _, rfl, .inr (by rw [hk]; exact h1), fun t ht => ?_⟩
        have s2 : Stp ρ1 H1 ρ1 (upd H1 t (.lst ys)) := Stp.fresh ht _
        exact (show Post Λ _ (RLf Λ H1) ρ1 H1 (.ok xs ah1) Q from post) ρ1 _ _ s2 (r1.fresh ht _) ⟨t, _, rfl, ht, upd_same, r1.notin ht, s2.rpL r1.nt h2⟩
    | obj n =>
      cases rv with
      | @obj pa _ e1 =>
        obtain ⟨xs, el, post⟩ := Post.ofO (show Post Λ _ (RLf Λ H1) ρ1 H1 (R.ofO ah1 (lstAt ah1 n)) Q from post)
        obtain ⟨ys, l1, l2⟩ := r1.lst_at e1 el
        refine ⟨pa, ys, rfl, .inl (by rw [hk]; exact l1), fun t ht => ?_⟩
        have s2 : Stp ρ1 H1 ρ1 (upd H1 t (.lst ys)) := Stp.fresh ht _
        exact post ρ1 _ _ s2 (r1.fresh ht _) ⟨t, _, rfl, ht, upd_same, r1.notin ht, s2.rpL r1.nt l2⟩
    | _ => exact post.elim⟩
end
end NI
end

section
set_option Elab.async false
set_option autoImplicit false
set_option linter.all false
set_option maxRecDepth 100000
set_option maxHeartbeats 4000000
/-! while; raise. -/
namespace NI
open PySem PySem.Spec PyProof.Rows L2
section
variable {Λ : Ln} {X : Cx} {W : WX} {c e a b : PySem.Expr} {dA dB dC : Sg → AH → R PV} {dL : Sg → AH → R (List PV)} {dS : Sg → AH → Y} {pos p : Pos} {ρ : List Addr} {H : Hp}
def whlY (fuel : Nat) (dC : Sg → AH → R PV) (dS : Sg → AH → Y) : Sg → AH → Y := fun σ h => whlF dC dS fuel σ h
theorem y_while {body : List Stmt} {fuel : Nat} (hp : PassesOwn (model X.prog X.w) X.A X.env X.xe) (hc : PV' Λ X W c dC) (hb : PSs X body (tY Λ W dS)) : PS X (.While c body [] pos) (tY Λ W (whlY fuel dC dS)) := by
  refine (ps_while hp hc.t hb).mono fun D σV0 H0 h => ?_
  refine ⟨fun m σV H => ∃ ρ σ ah, RelH Λ ρ H ah ∧ RelS Λ ρ σV H σ ∧ PostY Λ W ρ H (whlF dC dS m σ ah) D, ⟨fuel, h⟩, ?_⟩
  rintro m σV H ⟨ρ, σ, ah, r, rs, post⟩
  cases m with
  | zero => exact post.elim
  | succ m =>
    have post : PostY Λ W ρ H ((dC σ ah).to σ fun b h => match b with
      | .bl true => (match dS σ h with
        | .nx σ2 h2 => whlF dC dS m σ2 h2
        | .ct σ2 h2 => whlF dC dS m σ2 h2
        | .bk σ2 h2 => .nx σ2 h2
        | y => y)
      | .bl false => .nx σ h
      | _ => .no) D := post
    refine ⟨ρ, σ, ah, r, rs, (Post.to r rs post).imp fun x H1 ⟨ρ1, q, ah1, s1, r1, rs1, rx, q1⟩ => ?_⟩
    cases q with
    | bl k =>
      cases rx
      cases k with
      | false => exact ⟨false, rfl, q1 ρ1 H1 σV Stp.refl r1 rs1⟩
      | true =>
        refine ⟨true, rfl, ?_⟩
        show (if true = true then _ else _)
        rw [if_pos rfl]
        refine ⟨fun σV' H' => ∃ ρ σ ah, RelH Λ ρ H' ah ∧ RelS Λ ρ σV' H' σ ∧ PostY Λ W ρ H' (whlF dC dS m σ ah) D, fun σV' H' z => ⟨m, Nat.lt_succ_self _, z⟩, ρ1, σ, ah1, r1, rs1, ?_⟩
        have q1 : PostY Λ W ρ1 H1 (match dS σ ah1 with
          | .nx σ2 h2 => whlF dC dS m σ2 h2
          | .ct σ2 h2 => whlF dC dS m σ2 h2
          | .bk σ2 h2 => .nx σ2 h2
          | y => y) D := q1
        cases e : dS σ ah1 with
        | nx σ2 h2 => rw [e] at q1; exact fun ρ' H' σV' s' r' rs' => ⟨ρ', σ2, h2, r', rs', PostY.step q1 s'⟩
        | ct σ2 h2 => rw [e] at q1; exact fun ρ' H' σV' s' r' rs' => ⟨ρ', σ2, h2, r', rs', PostY.step q1 s'⟩
        | bk σ2 h2 => rw [e] at q1; exact q1
        | rt v h2 => rw [e] at q1; exact q1
        | ex cc fs σ2 h2 => rw [e] at q1; exact q1
        | no => rw [e] at q1; exact q1
    | _ => exact q1.elim
/-- raise of an own class with a text -/
theorem y_raise {x m : Str} {j : Nat} {p2 rp : Pos} {Ci : Nat} {C : Addr} {bmB : List Value} {B newId initId : String} (hc : X.calm = true) (tk : Takes X W) (F : ExcBaseFacts B newId initId bmB) (q : PySem.W.excIn X.K C bmB newId = true) (gC : X.mg x = some (.ref C)) (kC : PySem.W.keepIn X.K (.ref C) = true)
    (r : Raises X (.ref C)) (hg : Gl X x) (hdb : (x == ("__debug__" : Str)) = false) (hC : Λ.ca Ci = some C) : PS X (.Raise (some (.Call (.Name x p) [.Constant (.str m) j p2] [] pos)) none rp) (tY Λ W fun σ h => .ex Ci [] σ h) :=
  (ps_raise hc tk (pmk_own F q gC kC r hg hdb)).mono fun D σV H ⟨ρ, σ, ah, rh, rs, post⟩ => post ρ H none C σV Stp.refl rh rs rfl hC
/-! ### name op= e, o.f op= e -/
def rIp (Λ : Ln) (o : Bo) : TIp := fun x y H Q => ∃ (E : XK) (ρ : List Addr) (p q : PV) (ah : AH), RelH Λ ρ H ah ∧ Rp Λ ρ H x p ∧ Rp Λ ρ H y q ∧ Post Λ E (Rp Λ) ρ H (binS o p q ah) Q
theorem rIp_int {o : Bo} {x y : V} {Q : VK} (h : rIp Λ o x y H Q) : ∃ i j, x = .int i ∧ y = .int j ∧ ((o = .add ∧ Q (.int (i + j)) H) ∨ (o = .sub ∧ Q (.int (i - j)) H)) := by
  obtain ⟨E, ρ, p, q, ah, r, rp, rq, post⟩ := h
  cases p with
  | int i =>
    cases q with
    | int j =>
      cases rp
      cases rq
      cases o with
      | add => exact ⟨i, j, rfl, rfl, .inl ⟨rfl, post ρ H _ Stp.refl r (.int _)⟩⟩
      | sub => exact ⟨i, j, rfl, rfl, .inr ⟨rfl, post ρ H _ Stp.refl r (.int _)⟩⟩
      | _ => exact post.elim
    | _ => exact post.elim
  | _ => exact post.elim
theorem ip_all {op : Operator} {o : Bo} (h : cBo op = some o) : PIp X op (rIp Λ o) := by
  intro pins s σ H x y v u Q I rx ry q
  obtain ⟨i, j, rfl, rfl, q2⟩ := rIp_int q
  rcases q2 with ⟨rfl, q2⟩ | ⟨rfl, q2⟩
  · cases op <;> simp [cBo] at h
    exact ip_add pins s σ H _ _ v u Q I rx ry ⟨i, j, rfl, rfl, q2⟩
  · cases op <;> simp [cBo] at h
    exact ip_sub pins s σ H _ _ v u Q I rx ry ⟨i, j, rfl, rfl, q2⟩
theorem in_all {op : Operator} {o : Bo} (h : cBo op = some o) : InOp X op (rIp Λ o) := fun pins s σ H x y u v Q I rx ry q => ip_all h pins s σ H x y u v Q I rx ry q
def augY (i : Nat) (o : Bo) (dA : Sg → AH → R PV) : Sg → AH → Y := fun σ h => match sget σ i with
      | some x => (dA σ h).to σ fun y h => (binS o x y h).to σ fun z h => .nx (σ.set i (some z)) h
      | none => .no
theorem y_aug {i : Nat} {x : Str} {op : Operator} {o : Bo} {p' : Pos} (ho : cBo op = some o) (hN : X.N.Nodup) (hi : X.N[i]? = some x) (hx : L2.Loc X.env.scope x) (hf : X.fn x = true ∨ X.env.scope.names.lookup x = some .local) (ha : PE X e (tV Λ W dA)) :
    PS X (.AugAssign (.Name x p') op e pos) (tY Λ W (augY i o dA)) :=
  (ps_aug hN hi hx ha (ip_all (Λ := Λ) ho) hf).mono fun D σV H ⟨ρ, σ, ah, r, rs, post⟩ => by
    unfold augY at post
    cases e1 : sget σ i with
    | none => rw [e1] at post; exact post.elim
    | some q =>
      rw [e1] at post
      obtain ⟨v, ev, rv⟩ := rs.sget e1
      refine ⟨v, ev, ρ, σ, ah, r, rs, (Post.to r rs post).imp fun y H1 ⟨ρ1, q2, ah1, s1, r1, rs1, ry, post1⟩ => ?_⟩
      refine ⟨fun c d H' => W c d σV H', ρ1, q, q2, ah1, r1, s1.rp r.nt rv, ry, (Post.to r1 rs1 post1).imp fun z H2 ⟨ρ2, q3, ah2, s2, r2, rs2, rz, post2⟩ => post2 ρ2 H2 _ Stp.refl r2 (rs2.set rz i)⟩
def augfY (mt : Nat → Nat → Option Nat) (f : Nat) (o : Bo) (dA dB : Sg → AH → R PV) : Sg → AH → Y := fun σ h => (dA σ h).to σ fun x h => match fldV h x f with
      | some y => (match insAt h x with
        | some (_, C0, _) => (dB σ h).to σ fun z h => (binS o y z h).to σ fun u h => (match insAt h x with
          | some (_, C1, _) => (match C1 == C0 with
            | true => (match setFld mt h x f u with
              | some h => .nx σ h
              | none => .no)
            | false => .no)
          | none => .no)
        | none => .no)
      | none => .no
theorem y_augf {mt : Nat → Nat → Option Nat} {f : Nat} {nm : Str} {op : Operator} {o : Bo} {p' : Pos} (hk : X.K = Λ.K) (ho : cBo op = some o) (hx : Λ.an f = some nm) (na : NaF Λ mt) (ha : PE X a (tV Λ W dA)) (hb : PE X b (tV Λ W dB)) :
    PS X (.AugAssign (.Attribute a nm p') op b pos) (tY Λ W (augfY mt f o dA dB)) :=
  (ps_fldaug ha hb (in_all (Λ := Λ) ho)).mono fun D σV H ⟨ρ, σ, ah, r, rs, post⟩ => ⟨ρ, σ, ah, r, rs, (Post.to r rs post).imp fun x H1 ⟨ρ1, p, ah1, s1, r1, rs1, rx, post1⟩ => by
    cases e1 : fldV ah1 p f with
    | none => rw [e1] at post1; exact post1.elim
    | some q =>
      rw [e1] at post1
      dsimp only at post1
      cases e0 : insAt ah1 p with
      | none => rw [e0] at post1; exact post1.elim
      | some t0 =>
      obtain ⟨n0, C0, gs0⟩ := t0
      rw [e0] at post1
      dsimp only at post1
      obtain ⟨pa, C, dx, fs, v, h1, h2, h3, h4, h5, h6⟩ : ∃ a C dx fs v, x = .ref a ∧ H1 a = some (.ins C dx fs) ∧ Cls Λ.K C ∧ NoAttr Λ.K C nm ∧ fs.lookup nm = some v ∧ Rp Λ ρ1 H1 v q := by
        rcases fld_at r1 hx rx e1 with z | ⟨pa, C, dx, fs, v, h1, h2, _⟩
        · exact z
        · exfalso
          subst h1
          obtain ⟨rfl, e4⟩ := insAt_ok e0
          cases rx with
          | @obj _ _ ea =>
            obtain ⟨cA, dx', fsV, k1, k2, _⟩ := r1.ob n0 pa _ ea e4
            rw [h2] at k2
            have k3 : HO.ext _ = HO.ins cA dx' fsV := Option.some.inj k2
            cases k3
      subst h1
      have hC : Λ.ca C0 = some C := by
        obtain ⟨rfl, e4⟩ := insAt_ok e0
        cases rx with
        | @obj _ _ ea =>
          obtain ⟨cA, dx', fsV, k1, k2, _⟩ := r1.ob n0 pa _ ea e4
          rw [h2] at k2
          cases k2
          exact k1
      refine ⟨pa, C, dx, fs, v, rfl, h2, by rw [hk]; exact h3, by rw [hk]; exact h4, h5, ρ1, σ, ah1, r1, rs1, (Post.to r1 rs1 post1).imp fun y H2 ⟨ρ2, q2, ah2, s2, r2, rs2, ry, post2⟩ => ?_⟩
      refine ⟨fun c d H' => W c d σV H', ρ2, q, q2, ah2, r2, s2.rp r1.nt h6, ry, (Post.to r2 rs2 post2).imp fun z H3 ⟨ρ3, q3, ah3, s3, r3, rs3, rz, post3⟩ => ?_⟩
      cases e3 : insAt ah3 p with
      | none => rw [e3] at post3; exact post3.elim
      | some t =>
        obtain ⟨n, Ci, gs⟩ := t
        rw [e3] at post3
        dsimp only at post3
        cases ec : Ci == C0 with
        | false => rw [ec] at post3; exact post3.elim
        | true =>
          rw [ec] at post3
          dsimp only at post3
          have ec : Ci = C0 := beq_iff_eq.mp ec
          subst ec
          cases e2 : setFld mt ah3 p f q3 with
          | none => rw [e2] at post3; exact post3.elim
          | some ah4 =>
            rw [e2] at post3
            unfold setFld at e2
            rw [e3] at e2
            obtain ⟨rfl, e4⟩ := insAt_ok e3
            have e2 : (if (decide (gs.length < 100) && (mt Ci f).isNone) = true then some (ah3.set n (.ins Ci (fput gs f q3))) else none) = some ah4 := e2
            cases hc : (decide (gs.length < 100) && (mt Ci f).isNone) with
            | false => rw [hc] at e2; cases e2
            | true =>
              rw [hc] at e2
              cases e2
              obtain ⟨c1, c2⟩ := ba hc
              have c1 := of_decide_eq_true c1
              have c2 : mt Ci f = none := by simpa using c2
              have rx3 : Rp Λ ρ3 H3 (.ref pa) (.obj n) := s3.rp r2.nt (s2.rp r1.nt rx)
              cases rx3 with
              | @obj _ _ ea =>
                obtain ⟨cA, dx', fsV, k1, k2, k3, k4⟩ := r3.ob n pa _ ea e4
                rw [hC] at k1
                cases k1
                refine ⟨dx', fsV, k2, by have := k3.1; omega, ?_⟩
                have s4 : Stp ρ3 H3 ρ3 (upd H3 pa (.ins C dx' (putF nm z fsV))) := Stp.write ea (by rw [k2]; trivial)
                refine post3 ρ3 _ σV s4 (r3.write ea nt_ins ⟨C, dx', _, hC, upd_same, ?_, k4.1, fun g x hg hne => ?_⟩) (rs3.mono s4 r3.nt)
                · exact FR.mono (fun _ _ => s4.tup r3.nt) (fun _ _ z => z) (k3.put hx rz)
                · rw [fget_put] at hne
                  by_cases k : f = g
                  · subst k; rw [hx] at hg; cases hg; exact na Ci C f nm hC hx c2
                  · rw [if_neg k] at hne; exact k4.2 g x hg hne⟩
end
end NI
end

section
set_option Elab.async false
set_option autoImplicit false
set_option linter.all false
set_option maxRecDepth 100000
set_option maxHeartbeats 4000000
/-! An own exception's __init__ that says super().__init__(text); self.f = e: the class stands over ValueError, through own classes. -/
namespace NI
open PySem PySem.Spec PyProof.Rows L2
/-- the context of such an __init__: one cell, the class's -/
def cxS (CX : CXT) (P : Program) (w : World) (K : PySem.W.Frag) (mg : Str → Option Value) (base : Heap) (N : List Str) (env : Env) (A : Around) (outer : List Env) (s : Shared) (H : Hp) (E : XK) : Cx where
  prog := P
  w := w
  K := K
  mg := mg
  base := base
  A := A.deeper env
  N := N
  s_0 := s
  H_0 := H
  env := env
  outer := outer
  stack := env :: outer
  ex := []
  calm := true
  fn := fun _ => false
  pn := []
  xe := fun e s' => wpAny (model P w) (A.deeper env) (leaving env e) (fun _ s'' => CX outer H s E e s'') (fun e' s'' => CX outer H s E e' s'') s'
/-- what the text and the written part say of it -/
structure SupF (K : PySem.W.Frag) (P : Program) (qual slf par : Str) (scope : Scope) (params : Arguments) (cdv : Value) (cc D : Addr) : Prop where
  kind : scope.kind = .function
  co : scope.isCoroutine = false
  gen : scope.isGenerator = false
  nocell : ∀ x ∈ scope.names, x.2 ≠ .cell
  onefree : ∀ x, scope.names.lookup x = some .free → x = "__class__"
  ls : scope.names.lookup slf = some .local
  lp : scope.names.lookup par = some .local
  sup : scope.names.lookup ("super" : Str) = some .globalImplicit
  cls : scope.names.lookup ("__class__" : Str) = some .free
  ne : slf ≠ par
  head : ∃ ar, (params.posonlyargs ++ params.args).head? = some ar ∧ ar.arg = slf
  code : ∃ cda ccl cdd vs ccs file tf, cdv = .ref cda ∧ K.lookup cda = some ⟨ccl, cdd, .fields vs, ccs⟩ ∧ vs[2]? = some (.str file tf) ∧ ((P.main.file : Str) == file) = true
  cd : PySem.W.codeIn K cdv qual = true
  cell : ∃ cl cld csl, K.lookup cc = some ⟨cl, cld, .cell (some (.ref D)), csl⟩
  top : (P.main.scope.names.lookup ("super" : Str)).isSome = false
  opq : PySem.W.nsIn K PySem.cStatics "thirdparty.any" = some none
  up : PySem.W.ks_superIn K D D "__init__" = some (some (.builtin "ValueError.__init__"))
  vE : PySem.W.subIn K (.ref D) (.type "ValueError") = some true
def spS (D : Addr) (f : Str) : Sp := fun vs H Q E => ∃ (a : Addr) (y : V), vs = [.ref a, y] ∧ H a = some (exo a D none) ∧ ∀ dx, H dx = none → dx ≠ a → Q .non (upd (upd H dx (exd dx [(f, y)])) a (exo a D (some dx)))
theorem slotS {slf par x : Str} {i : Nat} {v a y : V} (h1 : [slf, par][i]? = some x) (h2 : (L2.start [slf, par] [a, y])[i]? = some (some v)) : (x = slf ∧ v = a) ∨ (x = par ∧ v = y) := by
  match i, h1, h2 with
  | 0, h1, h2 => cases h1; cases h2; exact .inl ⟨rfl, rfl⟩
  | 1, h1, h2 => cases h1; cases h2; exact .inr ⟨rfl, rfl⟩
  | n + 2, h1, _ => simp at h1
theorem meth_hb {o : PySem.Expr} {m : Str} {apos pos : Pos} {args : List PySem.Expr} {env : Env} (hf : methodCallForm (args.length + ([] : List Keyword).length) (backTo pos (starEach args env)) (backToKw pos (keywordEach [] env)) = true) (hl : (apos.endLine == pos.line) = true) :
    eval (.Call (.Attribute o m apos) args [] pos) env = (do
      let ov ← attributeBase o m env (eval o env)
      standAt apos.atName
      let (f, first) ← holding [ov] (getMethod ov m (do return (← importBound o env).getD true))
      callWith pos f first (backTo pos (starEach args env)) []) := by
  show (do
    let ov ← attributeBase o m env (eval o env)
    standAt apos.atName
    methodCall o m apos pos env ov (args.length + ([] : List Keyword).length) (backTo pos (starEach args env)) (backToKw pos (keywordEach [] env))) = _
  unfold methodCall calleeOf methodCallPos
  simp only [hf, if_true, Bool.not_true, Bool.false_or, hl, pure_bind]
  rfl
theorem initS_ok {CX : CXT} {P : Program} {w : World} {K : PySem.W.Frag} {mg : Str → Option Value} {base : Heap} {k : Nat} {f cc D : Addr} {name qual slf par fld m : Str} {params : Arguments} {scope : Scope} {dV kV doc pm cdv ct oc : Value} {an od : Option Addr}
    {osl : Array (Option Value)} {p0 p1 p2 p3 p4 p5 p6 p7 p8 p9 : Pos} {j : Nat}
    (lk : K.lookup f = some ⟨oc, od, .func (PySem.W.fnX name qual params [.Expr (.Call (.Attribute (.Call (.Name "super" p0) [] [] p1) "__init__" p2) [.Constant (.str m) j p3] [] p4) p5, .Assign [.Attribute (.Name slf p6) fld p7] (.Name par p8) p9] scope [("__class__", cc)] dV kV doc pm an cdv ct), osl⟩)
    (S : SupF K P qual slf par scope params cdv cc D) (T : OexC K D) (hno : PySem.W.findIn K (.ref D) fld = some none) (hmg : mg "super" = none) (hdS : (slf == ("__debug__" : Str)) = false) (hdP : (par == ("__debug__" : Str)) = false) (hcS : (slf == ("__classdict__" : Str)) = false) (hcP : (par == ("__classdict__" : Str)) = false) (hl : (p2.endLine == p4.line) = true) (hm : PyData.strOk m = true) :
    FnOk P w K mg base CX (k + 1) f (PySem.W.fnX name qual params [.Expr (.Call (.Attribute (.Call (.Name "super" p0) [] [] p1) "__init__" p2) [.Constant (.str m) j p3] [] p4) p5, .Assign [.Attribute (.Name slf p6) fld p7] (.Name par p8) p9] scope [("__class__", cc)] dV kV doc pm an cdv ct) [slf, par] (spS D fld) := by
  refine ⟨fun vs H Q E ⟨a, y, e, _⟩ => by rw [e]; rfl, fun A outer s H args us vs Q E hr e0 hb r hsp => ?_⟩
  obtain ⟨a, y, rfl, ha, hq⟩ := hsp
  cases r with | @cons _ u0 _ ur ru r2 => ?_
  cases r2 with | @cons _ u1 _ ur2 ry r3 => ?_
  cases r3
  obtain rfl : u0 = Value.ref a := ru
  have KX : K.In s.heap := e0.mod.kin.keeps fun b o e => (e0.bs b o e).1
  have lim : s.heap.NoLimit := e0.mod.nolimit.keeps fun b o e => (e0.bs b o e).1
  refine PySem.ks_codeAny_call_defAt hr.depth (KX _ _ lk) rfl lim (PySem.W.codeRec_of KX S.cd) rfl hb S.nocell (fun x hx => ?_) (fun h₀ hns hkeep => ?_) S.co S.gen S.kind
  · rcases List.mem_cons.mp hx with rfl | hx
    · exact S.ls
    · rcases List.mem_cons.mp hx with rfl | hx
      · exact S.lp
      · cases hx
  let env : Env := PySem.W.envX qual scope s.heap.objs.size f cdv [("__class__", cc)]
  let X : Cx := cxS CX P w K mg base [slf, par] env A outer s H E
  have envE : PySem.callEnv (PySem.W.fnX name qual params [.Expr (.Call (.Attribute (.Call (.Name "super" p0) [] [] p1) "__init__" p2) [.Constant (.str m) j p3] [] p4) p5, .Assign [.Attribute (.Name slf p6) fld p7] (.Name par p8) p9] scope [("__class__", cc)] dV kV doc pm an cdv ct) s.heap.objs.size f = env := rfl
  rw [envE]
  obtain ⟨cl, cld, csl, hcell⟩ := S.cell
  have cells1 : ∀ x c, env.cells.lookup x = some c → x = "__class__" ∧ c = cc := fun x c h => by
    have h : (if x == ("__class__" : Str) then some cc else none) = some c := by
      have : List.lookup x [(("__class__" : Str), cc)] = some c := h
      simp only [List.lookup] at this
      cases e : x == ("__class__" : Str) with
      | true => rw [e] at this; simpa using this
      | false => rw [e] at this; cases this
    cases e : x == ("__class__" : Str) with
    | true => rw [e] at h; exact ⟨beq_iff_eq.mp e, (Option.some.inj h).symm⟩
    | false => rw [e] at h; cases h
  have hfreeC : H cc = none := (e0.bs cc _ (e0.mod.kin _ _ hcell)).2
  have I1 : Inv X [] (L2.start [slf, par] [.ref a, y]) H { s with heap := h₀, toks := s.toks + 2 } := by
    refine ⟨⟨e0.mod, S.kind, rfl, rfl, Nat.le_refl _, fun y z c h1 h2 => ?_, fun y hy => ?_, fun y c h => (by cases h), fun _ => hr.hd, Around.frames_deeper e0.frames, .inr ⟨rfl, rfl⟩, fun b z => absurd z (by simp [X, cxS]), e0.bs, e0.bsz, fun b _ _ => by simp [X, cxS], fun b z => absurd z (by simp [X, cxS]), e0.funs, e0.frf⟩,
      rfl, e0.bare, Un.kept hkeep, ⟨_, hns, fun i x v h1 h2 h3 => ?_⟩, fun x c h => ?_, e0.hok.fresh (Nat.le_refl _), fun x c h => ?_, fun p hp => absurd (show p ∈ ([] : List (Addr × Obj)) from hp) (by simp), e0.hok.kept hkeep, rfl⟩
    · exact (cells1 y c h1).1.trans (cells1 z c h2).1.symm
    · have hy : scope.names.lookup y = some .cell ∨ scope.names.lookup y = some .free := hy
      rcases hy with hy | hy
      · exact absurd rfl (S.nocell _ (PySem.mem_of_lookup hy))
      · obtain rfl := S.onefree y hy
        exact ⟨cc, rfl⟩
    · rcases slotS h1 h2 with ⟨rfl, rfl⟩ | ⟨rfl, rfl⟩
      · refine ⟨.ref a, rfl, .inl ⟨S.ls, ?_⟩⟩
        show List.lookup x [(par, u1), (x, Value.ref a)] = _
        have e1 : (x == par) = false := by simpa using S.ne
        simp [List.lookup, e1]
      · refine ⟨u1, ry, .inl ⟨S.lp, ?_⟩⟩
        show List.lookup x [(x, u1), (slf, Value.ref a)] = _
        simp [List.lookup]
    · obtain ⟨_, rfl⟩ := cells1 x c h
      exact ⟨_, ⟨_, hkeep _ _ (KX _ _ hcell), rfl⟩⟩
    · obtain ⟨_, rfl⟩ := cells1 x c h
      exact hfreeC
  obtain ⟨cda, ccl, cdd, vs, ccs, file, tf, rfl, hcda, hvs, hfile⟩ := S.code
  obtain ⟨ar, har, eS⟩ := S.head
  obtain ⟨nm, q', Nd, bs, bm, sn, sub, ab, col, dd, k0, k1, k2, k3, k5, hC, hbm⟩ := T.cls
  have hcl : ∃ cd, PySem.W.clsIn K D = some cd := ⟨_, by unfold PySem.W.clsIn; rw [hC]⟩
  have hint : interactive env = false := by
    show (scope.kind == .module && _) = false
    rw [S.kind]; rfl
  refine PySem.ks_wpAt_execs_cons (PySem.ks_wpAt_Expr_any (PySem.ks_wpAt_MethodCall ?_ (meth_hb (by rfl) hl)) hint (by rfl))
  have K1 := I1.kIn
  obtain ⟨cdD, hcD⟩ := hcl
  obtain ⟨t1, hoe⟩ := exo_at I1.hok ha
  refine PySem.ks_wpAt_super_base (env := env) S.sup S.cls (by decide) rfl (K1 _ _ lk) rfl har rfl (K1 _ _ hcda) rfl hvs hfile S.top ?_
  have L1 : ∃ m2, h₀.Ns env.locals m2 ∧ m2 slf = some (.ref a) := ⟨_, hns, by
    show List.lookup slf [(par, u1), (slf, Value.ref a)] = _
    have e1 : (slf == par) = false := by simpa using S.ne
    simp [List.lookup, e1]⟩
  obtain ⟨m2, hn2, hm2⟩ := L1
  obtain ⟨mb, hb1, hb2⟩ := e0.mod.blt
  have bk : ∀ b o, base.get? b = some o → h₀.get? b = some o := fun b o e => hkeep b o (e0.bs b o e).1
  refine PySem.W.ks_loadName_global S.kind S.sup (Calls.loadGlobal_builtin (e0.mod.glob.keeps bk) hmg (hb1.keeps bk) ((hb2 _ (by decide)).trans (by decide +kernel)) ⟨rfl, ?_⟩)
  refine wpAny_loadName_free S.kind S.cls rfl ⟨_, K1 _ _ hcell, rfl⟩ ?_
  rw [eS]
  refine wpAny_loadName_local S.kind S.ls hn2 hm2 ?_
  obtain ⟨oD, hD1, hD2⟩ : ∃ oD, h₀.get? D = some oD ∧ oD.data = .cls cdD := by
    unfold PySem.W.clsIn at hcD
    split at hcD
    · rename_i c d cd' sl ho
      cases hcD
      exact ⟨_, K1 _ _ ho, rfl⟩
    · cases hcD
  refine PySem.ks_wpAny_isType_cls hD1 hD2 ⟨rfl, ?_⟩
  have hsubD : PySem.W.mroIn K D (.ref D) = some true := by
    unfold PySem.W.mroIn
    rw [hcD]
    unfold PySem.W.clsIn at hcD
    rw [hC] at hcD
    cases hcD
    simp
  refine PySem.ks_wpAny_call_super hD1 hD2 hoe rfl (fun c e => by cases e) (PySem.W.looks_mroIn K1 hsubD) (fun h2 hso k2 => ?_)
  have I2 : Inv X [] (L2.start [slf, par] [.ref a, y]) H { s with heap := h2, toks := s.toks + 2 } := I1.kept (t' := s.toks + 2) k2
  have K2 := I2.kIn
  have hoe2 := k2 _ _ hoe
  have J2 : PySem.W.InstAt h2 a { cls := .ref D, dict := none, data := .fields #[.ref t1, .none, .none, .none, .bool false, .none] } D none := ⟨hoe2, rfl, rfl, trivial⟩
  have hal : PySem.W.alongIn K "__init__" ((cdD.mro.dropWhile (· != .ref D)).drop 1) = some (some (.builtin "ValueError.__init__")) := by
    have := S.up
    unfold PySem.W.ks_superIn at this
    rw [hcD] at this
    exact this
  have hmro : PySem.W.Looks (model P w) h2 (mroOf (.ref D)) cdD.mro := fun A Q E s k q => wpAny_bind ((PySem.W.looks_clsIn K2 hcD) A _ E s k (wpAny_pure q))
  refine PySem.W.kxs_getMethod PySem.W.kxs_ValueError hso (PySem.W.looks_opaque K2 S.opq) hmro rfl K2 hal (J2.type.andThen (PySem.W.looks_subIn K2 S.vE)) (PySem.W.ks_ne K2 J2 hcD) (by decide) ?_
  have k3 : ∀ b o, h2.get? b = some o → (h2.push (PySem.W.kxs_mw "ValueError.__init__" a)).get? b = some o := fun b o e => Heap.get?_push_of_some _ e
  have I3 : Inv X [] (L2.start [slf, par] [.ref a, y]) H { s with heap := h2.push (PySem.W.kxs_mw "ValueError.__init__" a), toks := s.toks + 2 + 1 } := I2.kept (t' := s.toks + 2 + 1) k3
  have hu3 : (h2.push (PySem.W.kxs_mw "ValueError.__init__" a)).get? h2.objs.size = some (PySem.W.kxs_mw "ValueError.__init__" a) := Heap.get?_push_at rfl rfl
  refine PySem.W.kxs_callWith (i := "ValueError.__init__") (x := a) (by rfl) ?_
  refine Calls.evalArgs_plain ?_
  have harg : PA X [.Constant (.str m) j p3] (tCons (tC (.str m)) tNil) := pa_cons pe_str pa_nil
  have I3 := I3.pins_of (pins' := [(h2.objs.size, PySem.W.kxs_mw "ValueError.__init__" a)]) fun p hp => by
    simp only [List.mem_singleton] at hp
    subst hp
    exact ⟨hu3, I2.fresh, Nat.ne_of_gt I2.lt, I2.nofs (Nat.le_refl _), fun v z => by cases z⟩
  refine thn (harg.run p4 _ _ _ H (fun vs H1 => vs = [V.str m] ∧ H = H1) I3 ⟨rfl, rfl⟩) fun us s4 hh => ?_
  obtain ⟨vs4, H4, I4, r4, ev, eH⟩ := hh
  subst ev
  subst eH
  cases r4 with | @cons _ v0 _ vr rv0 rvr => ?_
  cases rvr
  -- the wrapper object is an untracked one; it still stands
  have hpin : s4.heap.get? h2.objs.size = some (PySem.W.kxs_mw "ValueError.__init__" a) := (I4.pin (h2.objs.size, PySem.W.kxs_mw "ValueError.__init__" a) (List.mem_append_right _ (List.mem_singleton.mpr rfl))).1
  refine ⟨hpin, ?_⟩
  obtain ⟨t4, hoe4⟩ := exo_at I4.hok ha
  have hC4 := I4.kIn _ _ hC
  obtain ⟨hp4, g4, d4, tk4, os4⟩ := s4
  refine wpAny_call (codeAny_of_tree ?_)
  show wpAny _ (A.deeper env).in1 (callAny (.ref h2.objs.size) ⟨[v0], []⟩) _ _ _
  simp only [callAny]
  refine wpAny_bind (wpAny_load hpin ?_)
  simp only [PySem.W.kxs_mw, show (Value.type "method-wrapper" == Value.type "method" || Value.type "method-wrapper" == Value.type "builtin_function_or_method" || Value.type "method-wrapper" == Value.type "method-wrapper") = true by decide, if_true]
  refine PySem.W.KFB.if_so (by decide) ?_
  refine wpAny_bind (PySem.W.check_bound_init F.excBase_ValueError.toExcCallFacts hC4 hoe4 rfl ?_)
  refine wpAny_bind (wpAny_pure (wpAny_pure ?_))
  refine ⟨plainId_quiet F.excBase_ValueError.init.plain _, codeAny_builtin F.excBase_ValueError.initEntry ?_⟩
  refine PySem.W.exc_init_tree (cls := .ref D) (t0 := t4) (dv := none) (c2 := .none) (c3 := .none) (b4 := .bool false) hoe4 (by show 1 ≤ sizeLine; rw [sizeLine_eq]; omega) (fun h5 k5 e5 _ => ?_)
  have I5 := I4.write (t' := tk4) (x := a) (e := a) (o := exo a D none) (by rw [ha]; exact True.intro) (.inl rfl) k5 ⟨_, e5⟩ (exo_ok e5)
  have eu : upd H a (exo a D none) = H := by
    funext b
    by_cases hb : b = a
    · rw [hb, upd_same, ha]
    · rw [upd_ne hb]
  rw [eu] at I5
  refine PySem.wpAt_of_wpAny ?_
  have vS : Vis X.env.scope slf := .inl S.ls
  have vP : Vis X.env.scope par := .inl S.lp
  have st := pss_one (X := X) (ps_ost (X := X) (f := fld) (p' := p7) (pos := p9) (pe_var (X := X) (i := 0) (pos := p6) (x := slf) rfl vS hdS hcS) (pe_var (X := X) (i := 1) (pos := p8) (x := par) rfl vP hdP hcP) (by rfl))
  refine wpAny_mono (st.run _ _ _ H { nx := fun _ H' => Q .non H', rt := Q } I5 ?_) (fun fl s' hs => ?_) fun e s' hs => hs
  · refine ⟨_, rfl, _, rfl, a, D, rfl, T, hno, .inl ⟨ha, fun dx n ne => hq dx n ne⟩⟩
  have fin : ∀ {pins' : List (Addr × Obj)} {σ' : L2.St} {H' : Hp} {v : V} {u : Value}, Inv X pins' σ' H' s' → RelV v u → Q v H' → CE outer P w H s Q u s' := fun {pins' σ' H' v u} J rv q => ⟨v, H', J.os, J.bare, J.base, J.hok, rv, q⟩
  cases fl with
  | ret u =>
    obtain ⟨v, σ', H', J, rv, q⟩ := hs
    exact fin J rv q
  | next =>
    obtain ⟨σ', H', J, q⟩ := hs
    exact fin (v := V.non) (u := Value.none) J rfl q
  | brk =>
    obtain ⟨_, _, _, q⟩ := hs
    exact False.elim q
  | cont =>
    obtain ⟨_, _, _, q⟩ := hs
    exact False.elim q
end NI
end

section
set_option Elab.async false
set_option autoImplicit false
set_option linter.all false
set_option maxRecDepth 100000
set_option maxHeartbeats 4000000
/-! An own exception class called with one keyword: the class's call, on the machine. -/
namespace NI
open PySem PySem.Spec PyProof.Rows L2 PySem.HandSPX
section
variable {M : Model} {prog : Program} {w : World} {A : Around} {E : Value → Shared → Prop} {R : Result → Shared → Prop} {h : Heap} {g : Array GenState} {d : Drawn} {t : Nat} {os : OsState}
variable {nm q : Str} {C N : Addr} {bs bm bmB : List Value} {hdct : Bool} {sn : List Str} {sub : List Value} {ab : Bool} {col : Option Bool} {dd : Option Addr} {k0 k1 k2 k3 k5 : Option Value} {B newId initId : String}
theorem kwNew (F : ExcBaseFacts B newId initId bmB) (hT : ∀ Y : String, bm.contains (.type Y) = bmB.contains (.type Y)) {kw : List (Str × Value)} {Q : Unit → Shared → Prop}
    (hC : h.get? C = some (excClassObj nm q C N bs bm hdct sn sub ab col dd k0 k1 k2 k3 k5 newId)) (hq : Q () ⟨h, g, d, t, os⟩) : wpAny M A (checkBuiltinCall newId ⟨[.ref C], kw⟩) Q E ⟨h, g, d, t, os⟩ := by
  have c1 : (Value.ref C :: bm).contains (.type B) = true := by rw [List.contains_cons, hT, F.hasB, Bool.or_true]
  have c2 := F.noStar
  simp only [checkBuiltinCall, F.newKind, F.newSplit, F.newRow]
  repeat (first | refine wpAny_loadPart_at hC ?_ | (refine wpAny_isSubtype_exc hC ?_; rw [c1]) | refine wpAny_staticBase_exc hC ?_ | refine wpAny_madeBy_exc hC ?_ | simp only [bne_self_eq_false, Bool.false_eq_true, if_false] | wp_step)
  exact hq
theorem kwMade (F : ExcBaseFacts B newId initId bmB) (hT : ∀ Y : String, bm.contains (.type Y) = bmB.contains (.type Y)) {kw : List (Str × Value)}
    (hC : h.get? C = some (excClassObj nm q C N bs bm hdct sn sub ab col dd k0 k1 k2 k3 k5 newId)) (hq : R (.ok (.ret (.ref (h.objs.size + 1)))) ⟨(h.push (PySem.W.kdv_tup [])).push (excO C h.objs.size), g, d, t, os⟩) :
    codeAny (model prog w) A (.builtin newId ⟨[.ref C], kw⟩) R ⟨h, g, d, t, os⟩ := by
  have c0 := F.ends
  have c1 : (Value.ref C :: bm).contains (.type B) = true := by rw [List.contains_cons, hT, F.hasB, Bool.or_true]
  have c2 : (Value.ref C :: bm).contains (.type "AttributeError") = false := by rw [List.contains_cons, hT, F.noAttr]; rfl
  have c3 : (Value.ref C :: bm).contains (.type "NameError") = false := by rw [List.contains_cons, hT, F.noName]; rfl
  refine codeAny_builtinAt F.entry ?_
  unfold Builtin.«BaseException.__new__»
  refine PySem.wpAt_bind ?_
  show PySem.wpAt _ _ _ (stack >>= _) _ _ _
  refine PySem.wpAt_bind (PySem.wpAt_stack fun p below => PySem.wpAt_of_wpAny ?_)
  wp_walk
  refine PySem.wpAt_of_wpAny ?_
  rw [F.owner]
  repeat (first | with_reducible refine wpAny_madeHere_exc F.canon hC ?_ | with_reducible refine wpAny_loadPart_at hC ?_ | (with_reducible refine wpAny_isSubtype_exc hC ?_; first | rw [c1] | rw [c2] | rw [c3]) | wp_step)
  show R _ _
  rw [Heap.size_push]
  exact hq
theorem kwTypeCall (F : ExcBaseFacts B newId initId bmB) (hT : ∀ Y : String, bm.contains (.type Y) = bmB.contains (.type Y)) {kw : List (Str × Value)} {fI : Addr} {Q : Fin → Shared → Prop}
    (hC : h.get? C = some (excClassObj nm q C N bs bm hdct sn sub ab col dd k0 k1 k2 k3 k5 newId))
    (hi : PySem.W.Looks (model prog w) h (typeLookup (.ref C) "__init__") (some (.ref fI))) (hb : ∀ slf, PySem.W.Looks (model prog w) h (bindSpecial (.ref fI) slf) (.ref fI, [slf]))
    (hq : codeAny (model prog w) A (.call (.ref fI) ⟨[.ref (h.objs.size + 1)], kw⟩)
      (fun r s' => match r with | .ok (.ret v) => v = .none ∧ Q (.done (.ret (.ref (h.objs.size + 1)))) s' | .ok _ => False | .error e => E e s')
      ⟨(h.push (PySem.W.kdv_tup [])).push (excO C h.objs.size), g, d, t, os⟩) :
    wpAny (model prog w) A (Builtin.«type.__call__» ⟨[.ref C], kw⟩) Q E ⟨h, g, d, t, os⟩ := by
  repeat (first | with_reducible refine wpAny_loadPart_at hC ?_ | with_reducible refine wpAny_madeBy_exc hC ?_ | wp_step)
  refine codeAny_call_builtin_code (Code.quiet_builtin _ F.quiet) (kwNew F hT hC ?_)
  refine kwMade F hT hC ?_
  show wpAny _ _ _ _ _ _
  have k : ∀ b o, h.get? b = some o → ((h.push (PySem.W.kdv_tup [])).push (excO C h.objs.size)).get? b = some o := fun b o e => Heap.get?_push_of_some _ (Heap.get?_push_of_some _ e)
  have hC1 := k _ _ hC
  have hg : ((h.push (PySem.W.kdv_tup [])).push (excO C h.objs.size)).get? (h.objs.size + 1) = some (excO C h.objs.size) := by heap_get
  have c1 : (Value.ref C :: bm).contains (.ref C) = true := by simp
  have i1 := hi.keeps k
  have b1 := (hb (.ref (h.objs.size + 1))).keeps k
  unfold isInstance
  repeat (first | with_reducible refine wpAny_loadPart_at hg ?_ | (with_reducible refine wpAny_isSubtype_exc hC1 ?_; rw [c1]) | wp_step)
  show wpAny _ _ (typeLookup (.ref C) _) _ _ _
  refine i1.at ?_
  refine wpAny_holding (wpAny_bind (b1.at ?_))
  refine wpAny_bind ?_
  refine wpAny_call (codeAny_mono hq fun r s' z => ?_)
  rcases r with e | (v | _ | _ | _) <;> first | exact z | exact z.elim | skip
  obtain ⟨rfl, z⟩ := z
  first
    | exact wpAny_pure (wpAny_pure z)
    | (wp_walk; exact z)
theorem kwCheck {kw : List (Str × Value)} {Q : Unit → Shared → Prop} (hC : h.get? C = some (excClassObj nm q C N bs bm hdct sn sub ab col dd k0 k1 k2 k3 k5 newId)) (hq : Q () ⟨h, g, d, t, os⟩) :
    wpAny M A (checkBuiltinCall "type.__call__" ⟨[.ref C], kw⟩) Q E ⟨h, g, d, t, os⟩ := by
  have f3 := tc_sub
  have hT : (⟨h, g, d, t, os⟩ : Shared).TypeIs (.ref C) "type" := ⟨_, hC, rfl⟩
  simp only [checkBuiltinCall, tc_kind, tc_split]
  repeat (any_goals (first | assumption | with_reducible refine wpAny_loadPart_at hC ?_ | with_reducible refine wpAny_onRaise ?_ | with_reducible refine wpAny_map ?_ | wp_step))
theorem kwCall (F : ExcBaseFacts B newId initId bmB) (hT : ∀ Y : String, bm.contains (.type Y) = bmB.contains (.type Y)) {kw : List (Str × Value)} {fI : Addr}
    (hC : h.get? C = some (excClassObj nm q C N bs bm hdct sn sub ab col dd k0 k1 k2 k3 k5 newId))
    (hi : PySem.W.Looks (model prog w) h (typeLookup (.ref C) "__init__") (some (.ref fI))) (hb : ∀ slf, PySem.W.Looks (model prog w) h (bindSpecial (.ref fI) slf) (.ref fI, [slf]))
    (hq : codeAny (model prog w) (A.under (.builtin "type.__call__" ⟨[.ref C], kw⟩)) (.call (.ref fI) ⟨[.ref (h.objs.size + 1)], kw⟩) (PySem.W.InitBack (h.objs.size + 1) R)
      ⟨(h.push (PySem.W.kdv_tup [])).push (excO C h.objs.size), g, d, t, os⟩) :
    codeAny (model prog w) A (.call (.ref C) ⟨[], kw⟩) R ⟨h, g, d, t, os⟩ := by
  have f1 := tc_lookup
  have f2 := tc_bind (.ref C)
  have hTy : (⟨h, g, d, t, os⟩ : Shared).TypeIs (.ref C) "type" := ⟨_, hC, rfl⟩
  refine codeAny_of_tree ?_
  show wpAny _ _ (callAny (.ref C) _) _ _ _
  repeat (any_goals (first | assumption | with_reducible refine wpAny_loadPart_at hC ?_ | wp_step))
  refine ⟨rfl, ?_⟩
  refine codeAny_call_builtin_at (Code.quiet_builtin _ (by decide +kernel)) entry_typeCall ?_
  show wpAny _ _ (checkBuiltinCall "type.__call__" ⟨[.ref C], kw⟩) _ _ _
  refine kwCheck hC ?_
  show wpAny _ _ (Builtin.«type.__call__» ⟨[.ref C], kw⟩) _ _ _
  refine kwTypeCall F hT hC hi hb ?_
  refine codeAny_mono hq fun r s' z => ?_
  rcases r with e | (v | _ | _ | _) <;> exact z
end
/-! ### rules -/
/-- what a new exception with one field is -/
def tExc (C : Addr) (f : Str) (ta : TE) : TE := fun σ H Q => ta σ H fun y H1 => ∀ a dx, H1 a = none → H1 dx = none → dx ≠ a → Q (.ref a) (upd (upd (upd H1 a (exo a C none)) dx (exd dx [(f, y)])) a (exo a C (some dx)))
section
variable {X : Cx} {CX : CXT} {C fI : Addr} {k : Nat} {fd : FuncData} {ps : List Str} {x f par : Str} {e : PySem.Expr} {ta : TE} {p pos kp : Pos}
theorem run_exS (T : OexC X.K C) (iC : PySem.W.findIn X.K (.ref C) "__init__" = some (some (.ref fI))) (tI : PySem.W.typeIn X.K (.ref fI) = some (.type "function"))
    (F1 : FnOk X.prog X.w X.K X.mg X.base CX k fI fd ps (spS C f)) (hr : Room (k + 1) X.A) (hx : Passes CX X (fun _ _ _ => False)) {pins : List (Addr × Obj)} {σ : L2.St} {H : Hp} {s : Shared} {Q : VK} {u : Value} {y : V} {kw : List (Str × Value)} {us : List Value}
    (hk : (us = [u] ∧ kw = []) ∨ (us = [] ∧ kw = [(par, u)]))
    (hb : ∀ (s : Shared) (a : Value), X.K.In s.heap → BindsTo s fd ⟨a :: us, kw⟩ (ps.zip [a, u])) (I : Inv X pins σ H s) (ry : RelV y u)
    (h : ∀ a dx, H a = none → H dx = none → dx ≠ a → Q (.ref a) (upd (upd (upd H a (exo a C none)) dx (exd dx [(f, y)])) a (exo a C (some dx)))) :
    wpAny (model X.prog X.w) X.A (call (.ref C) us kw) (EP X pins σ Q) X.xe s := by
  obtain ⟨nm, q, N, bs, bm, sn, sub, ab, col, dd, k0, k1, k2, k3, k5, hC, hbm⟩ := T.cls
  obtain ⟨hp, g, dr, tk, os⟩ := s
  have hsz : hp.objs.size ≤ hp.objs.size + 1 := Nat.le_succ _
  have hn : H (hp.objs.size + 1) = none := I.hok.fresh hsz
  have r2 : Vals [V.ref (hp.objs.size + 1), y] [Value.ref (hp.objs.size + 1), u] := .cons rfl (.cons ry .nil)
  have sp1 : ∀ h2 : Heap, ∀ H2, H2 = upd H (hp.objs.size + 1) (exo (hp.objs.size + 1) C none) → spS C f [V.ref (hp.objs.size + 1), y] H2 (fun v H3 => v = .non ∧ Q (.ref (hp.objs.size + 1)) H3) (fun _ _ _ => False) := fun h2 H2 e => by
    subst e
    refine ⟨_, y, rfl, upd_same, fun dx n ne => ⟨rfl, h _ dx hn ?_ ne⟩⟩
    rw [upd_ne ne] at n
    exact n
  have go : ∀ (xs : List Value), (∀ b o, hp.get? b = some o → ((hp.push (PySem.W.kdv_tup xs)).push (excO C hp.objs.size)).get? b = some o) →
      codeAny (model X.prog X.w) (X.A.under (.builtin "type.__call__" ⟨.ref C :: us, kw⟩)) (.call (.ref fI) ⟨.ref (hp.objs.size + 1) :: us, kw⟩) (PySem.W.InitBack (hp.objs.size + 1) fun r s' => match r with | .ok (.ret v) => EP X pins σ Q v s' | .ok _ => False | .error e => X.xe e s')
        ⟨(hp.push (PySem.W.kdv_tup xs)).push (excO C hp.objs.size), g, dr, tk, os⟩ := fun xs kk => by
    have hget : ((hp.push (PySem.W.kdv_tup xs)).push (excO C hp.objs.size)).get? (hp.objs.size + 1) = some (excO C hp.objs.size) := by heap_get
    have I2 : Inv X pins σ (upd H (hp.objs.size + 1) (exo (hp.objs.size + 1) C none)) ⟨(hp.push (PySem.W.kdv_tup xs)).push (excO C hp.objs.size), g, dr, tk, os⟩ :=
      I.laid (t' := tk) (a := hp.objs.size + 1) (o := exo (hp.objs.size + 1) C none) (h' := (hp.push (PySem.W.kdv_tup xs)).push (excO C hp.objs.size)) kk hsz (exo_ok hget)
    refine codeAny_mono (F1.run _ X.stack _ _ _ [Value.ref (hp.objs.size + 1), u] _ _ (fun _ _ _ => False) (hr.make C us kw) (I2.env0.make C us kw) (hb _ _ I2.kIn) r2 (sp1 hp _ rfl)) fun r s' hq' => ?_
    cases r with
    | error er => exact hx pins σ _ _ er s' I2 hq'
    | ok fl =>
      cases fl with
      | ret u2 =>
        obtain ⟨v, H2, J, rv, ev, q2⟩ := I2.after hq'
        subst ev
        exact ⟨rv, .ref (hp.objs.size + 1), H2, J, rfl, q2⟩
      | next => exact False.elim hq'
      | brk => exact False.elim hq'
      | cont => exact False.elim hq'
  rcases hk with ⟨rfl, rfl⟩ | ⟨rfl, rfl⟩
  · exact wpAny_call (call_own F.excBase_ValueError (fun Y => refsVE_contains Y bm hbm) (I.kIn _ _ hC) (PySem.W.looks_findIn I.kIn iC) (fun slf => PySem.W.bind_fn I.kIn slf tI) (by show 1 ≤ sizeLine; rw [sizeLine_eq]; omega)
      (go [u] fun b o e => Heap.get?_push_of_some _ (Heap.get?_push_of_some _ e)))
  · exact wpAny_call (kwCall F.excBase_ValueError (fun Y => refsVE_contains Y bm hbm) (I.kIn _ _ hC) (PySem.W.looks_findIn I.kIn iC) (fun slf => PySem.W.bind_fn I.kIn slf tI)
      (go [] fun b o e => Heap.get?_push_of_some _ (Heap.get?_push_of_some _ e)))
theorem pe_exS (T : OexC X.K C) (iC : PySem.W.findIn X.K (.ref C) "__init__" = some (some (.ref fI))) (tI : PySem.W.typeIn X.K (.ref fI) = some (.type "function"))
    (F1 : FnOk X.prog X.w X.K X.mg X.base CX k fI fd ps (spS C f)) (hr : Room (k + 1) X.A) (hx : Passes CX X (fun _ _ _ => False)) (hb : ∀ (s : Shared) (a u : Value), X.K.In s.heap → BindsTo s fd ⟨[a, u], []⟩ (ps.zip [a, u])) (hg : Gl X x) (hm : X.mg x = some (.ref C)) (ha : PE X e ta)
    (hdb : (x == ("__debug__" : Str)) = false) (he : starEach [e] X.env = (false, eval e X.env) :: starEach [] X.env) :
    PE X (.Call (.Name x p) [e] [] pos) (tExc C f ta) := by
  refine ⟨fun pins s σ H Q I h => ?_⟩
  refine wpAny_Call_Name_kw (ld_glob I hg hm ?_ hdb)
  refine PySem.W.callWith_K (h₀ := X.base) I.ok.mod.kin T.kC ?_ he (by rfl)
  rw [he]
  show wpAny _ _ (spliced ((false, eval e X.env) :: backTo pos (starEach [] X.env))) _ _ s
  refine Calls.spliced_cons (thn (ha.run pins s σ H _ I h) fun u s1 ⟨y, H1, I1, r1, q1⟩ => ?_)
  refine Calls.spliced_nil ⟨I1.kIn, ?_⟩
  exact run_exS (par := x) T iC tI F1 hr hx (.inl ⟨rfl, rfl⟩) (fun s a X1 => hb s a u X1) I1 r1 q1
theorem pe_exK (T : OexC X.K C) (iC : PySem.W.findIn X.K (.ref C) "__init__" = some (some (.ref fI))) (tI : PySem.W.typeIn X.K (.ref fI) = some (.type "function"))
    (F1 : FnOk X.prog X.w X.K X.mg X.base CX k fI fd ps (spS C f)) (hr : Room (k + 1) X.A) (hx : Passes CX X (fun _ _ _ => False)) (hb : ∀ (s : Shared) (a u : Value), X.K.In s.heap → BindsTo s fd ⟨[a], [(par, u)]⟩ (ps.zip [a, u])) (hg : Gl X x) (hm : X.mg x = some (.ref C)) (ha : PE X e ta)
    (hdb : (x == ("__debug__" : Str)) = false) :
    PE X (.Call (.Name x p) [] [⟨some par, e, kp⟩] pos) (tExc C f ta) := by
  refine ⟨fun pins s σ H Q I h => ?_⟩
  refine wpAny_Call_Name_kw (ld_glob I hg hm ?_ hdb)
  have hk : PK X [⟨some par, e, kp⟩] (tCons ta tNil) := pk_cons ha pk_nil
  refine PySem.W.callWith_KW0 (h₀ := X.base) I.ok.mod.kin T.kC (by rfl) (thn (hk.run pos pins s σ H (fun vs H1 => match vs with
    | [y] => ∀ a dx, H1 a = none → H1 dx = none → dx ≠ a → Q (.ref a) (upd (upd (upd H1 a (exo a C none)) dx (exd dx [(f, y)])) a (exo a C (some dx)))
    | _ => False) I h) fun us s1 ⟨vs, H1, I1, r1, q1⟩ => ⟨I1.kIn, ?_⟩) (by rfl)
  cases r1 with
  | nil => exact q1.elim
  | @cons y u ys ur ru r2 =>
    cases r2 with
    | nil => exact run_exS T iC tI F1 hr hx (.inr ⟨rfl, rfl⟩) (fun s a X1 => hb s a u X1) I1 ru q1
    | cons _ _ => exact q1.elim
end
end NI
end

section
set_option Elab.async false
set_option autoImplicit false
set_option linter.all false
set_option maxRecDepth 100000
set_option maxHeartbeats 4000000
/-! Exceptions as values: making, isinstance. -/
namespace NI
open PySem PySem.Spec PyProof.Rows L2
section
variable {Λ : Ln} {X : Cx} {W : WX} {e o a b c : PySem.Expr} {es : List PySem.Expr} {dA dB : Sg → AH → R PV} {dL : Sg → AH → R (List PV)} {pos apos p kp : Pos} {ρ : List Addr} {H : Hp} {CX : CXT} {k : Nat} {C f : Addr} {fd : FuncData} {ps : List Str} {sp : Sp} {m x : Str}
/-! ### isinstance -/
def rIsX (K : PySem.W.Frag) : List V → Hp → VK → Prop := fun xs H Q => ∃ (a : Addr) (c : V) (cv : Value) (D : Addr) (b : Bool), xs = [.ref a, c] ∧ (∀ u, RelV c u → u = cv) ∧ ExcC K D ∧ (H a = some (ExO (.ref D) a) ∨ ∃ dd fs, H a = some (exo a D (some dd)) ∧ H dd = some (exd dd fs)) ∧
  PySem.W.kitOne K (.ref D) cv = some b ∧ Q (.bl b) H
theorem clsSome {K : PySem.W.Frag} {D : Addr} (T : ExcC K D) : (PySem.W.clsIn K D).isSome = true := by
  obtain ⟨cd, hc, _⟩ := PySem.W.any_some T.hd
  rw [hc]; rfl
theorem call_isX : CallR X (.builtin "isinstance") (rIsX X.K) := by
  intro pins s σ H xs us Q I r h
  obtain ⟨a, c, cv, D, b, rfl, hcv, T, ho, e, q⟩ := h
  cases r with | @cons _ u0 _ ur rx rr => ?_
  cases rr with | @cons _ u1 _ ur2 rt r3 => ?_
  cases r3
  obtain rfl : u0 = Value.ref a := rx
  obtain rfl := hcv _ rt
  have key : ∀ {oe : Obj} {od : Option Obj}, PySem.W.InstAt s.heap a oe D od → wpAny (model X.prog X.w) X.A (call (.builtin "isinstance") [.ref a, u1]) (EP X pins σ Q) X.xe s := fun {oe od} J =>
    PySem.W.kia_one (PySem.W.kitx_exc (clsSome T) T.hg T.hk T.hs T.ha T.hn T.ht T.hm) I.kIn J e (fun z => nomatch z) fun tk => ⟨.bl b, H, I.kept (t' := tk) fun _ _ z => z, rfl, q⟩
  rcases ho with ho | ⟨dd, fs, ho, hd⟩
  · have y : ObjOk X.prog X.w H s.heap a (ExO (.ref D) a) := I.hok a _ ho
    obtain ⟨⟨oe, vs, h1, z, h2, _⟩, _, _⟩ := y
    obtain ⟨oc, od, oda, osl⟩ := oe
    obtain ⟨z1, z2⟩ := z
    dsimp only at z1 z2 h2
    subst z1 z2 h2
    exact key (od := none) ⟨h1, rfl, rfl, trivial⟩
  · obtain ⟨t1, h1⟩ := exo_at I.hok ho
    obtain ⟨mA, hns, _⟩ := exd_at I.hok hd
    obtain ⟨od, hod, _⟩ := lookIn_ns hns
    exact key (od := some od) ⟨h1, rfl, rfl, hod⟩
/-- isinstance(a, T), T a class of exceptions -/
theorem n_isx {sub : Nat → Nat → Bool} {t : Nat} {cV : V} {cv : Value} (hk : X.K = Λ.K) (hrel : ∀ u, RelV cV u → u = cv) (hsub : ∀ C cA, Λ.xc C = true → Λ.ca C = some cA → ExcC Λ.K cA → PySem.W.kitOne Λ.K (.ref cA) cv = some (sub C t))
    (hg : Gl X "isinstance") (hm : X.mg "isinstance" = none) (hc : PE X c (tC cV)) (hs : isStar a = false) (hs2 : isStar c = false) (ha : PE X a (tV Λ W dA)) :
    PV' Λ X W (.Call (.Name "isinstance" p) [a, c] [] pos) (fun σ h => (dA σ h).bind fun x h => R.ofO h ((isTy sub h x (.own t)).map PV.bl)) := by
  have hall : [a, c].all (fun e => !isStar e) = true := by simp [hs, hs2]
  refine pv_plain ((pe_callB call_isX hg hm (by decide +kernel) (pa_cons ha (pa_cons hc pa_nil (starEach_no hs2)) (starEach_no hs)) (by decide) (by decide) (starEach_no hs) (noStars (stars1 hall).2)).mono fun σV H Q ⟨ρ, σ, ah, r, rs, post⟩ => ⟨ρ, σ, ah, r, rs, (Post.bind post).imp fun v H1 ⟨ρ1, q, ah1, s1, r1, rv, _, q1⟩ => ?_⟩) fun _ => rfl
  obtain ⟨b, eb, q1⟩ := ofB q1 r1
  cases q with
  | obj n =>
    have eb : (ah1[n]?).bind (fun o => isTyO sub o (.own t)) = some b := eb
    cases rv with | @obj a0 _ ea => ?_
    cases eo : ah1[n]? with
    | none => rw [eo] at eb; cases eb
    | some o =>
      rw [eo] at eb
      have eb : isTyO sub o (.own t) = some b := eb
      have ob := r1.ob n a0 o ea eo
      cases o with
      | exc D fs =>
        have eb : some (sub D t) = some b := eb
        cases eb
        obtain ⟨h0, cA, h1, g1, g2, h2⟩ := ob
        refine ⟨a0, cV, cv, cA, _, rfl, hrel, by rw [hk]; exact g1, ?_, by rw [hk]; exact hsub D cA h0 h1 g1, q1⟩
        rcases h2 with ⟨h2, _⟩ | ⟨dd, fsV, _, h3, h4, _⟩
        · exact .inl h2
        · exact .inr ⟨dd, fsV, h3, h4⟩
      | _ => cases eb
  | glo g => cases eb
  | _ => cases eb
/-! ### making -/
/-- X(e), X without __init__ -/
def mkxD (exi : Nat → List PV → Option (List (Nat × PV))) (C : Nat) (dA : Sg → AH → R PV) : Sg → AH → R PV := fun σ h => (dA σ h).bind fun x h => match exi C [x] with
      | some fs => .ok (.obj h.length) (h ++ [.exc C fs])
      | none => .no
theorem nt_ExO {cls : Value} : ∀ ys, ¬ Rd (upd H f (ExO cls f)) f (.tup ys) := fun ys h => by
  rcases h with h | ⟨_, h⟩ <;> rw [upd_same] at h
  · have z : HO.ext _ = HO.tup ys := Option.some.inj h
    cases z
  · have z : HO.ext _ = HO.frz _ _ := Option.some.inj h
    cases z
theorem n_mkx {exi : Nat → List PV → Option (List (Nat × PV))} {Ci : Nat} {bmB : List Value} {B newId initId : String} (hk : X.K = Λ.K) (h0 : Λ.xc Ci = true) (hC : Λ.ca Ci = some C) (T : ExcC Λ.K C) (hexi : ∀ p, exi Ci [p] = none ∨ exi Ci [p] = some [])
    (F : ExcBaseFacts B newId initId bmB) (q : PySem.W.excIn X.K C bmB newId = true) (gC : X.mg x = some (.ref C)) (kC : PySem.W.keepIn X.K (.ref C) = true) (hg : Gl X x) (hs : isStar e = false) (hd : (x == ("__debug__" : Str)) = false) (ha : PE X e (tV Λ W dA)) :
    PV' Λ X W (.Call (.Name x p) [e] [] pos) (mkxD exi Ci dA) :=
  pv_plain ((pe_exc1 F q gC kC hg ha (starEach_no hs) hd).mono fun σV H Q ⟨ρ, σ, ah, r, rs, post⟩ => ⟨ρ, σ, ah, r, rs, (Post.bind post).imp fun v H1 ⟨ρ1, y, ah1, s1, r1, rv, _, q1⟩ a hn => by
    rcases hexi y with e1 | e1
    · rw [e1] at q1; exact q1.elim
    · rw [e1] at q1
      refine q1 (ρ1 ++ [a]) _ _ (Stp.grow hn) (r1.new hn nt_ExO ⟨h0, C, hC, T, fun f x _ z => absurd rfl z, .inl ⟨upd_same, rfl⟩⟩) (.obj ?_)
      rw [← r1.len]; exact app_last _ _⟩) fun _ => rfl
/-- the plain heap takes an exception with one field in -/
theorem exc_grow {ah : AH} {a dx cA : Addr} {Ci fi : Nat} {fld : Str} {v : V} {y : PV} (r : RelH Λ ρ H ah) (h0 : Λ.xc Ci = true) (hC : Λ.ca Ci = some cA) (T : ExcC Λ.K cA) (hf : Λ.an fi = some fld) (hno : PySem.W.findIn Λ.K (.ref cA) fld = some none) (rv : Rp Λ ρ H v y) (ha : H a = none) (hdx : H dx = none) (ne : dx ≠ a) :
    Stp ρ H (ρ ++ [a]) (upd (upd (upd H a (exo a cA none)) dx (exd dx [(fld, v)])) a (exo a cA (some dx))) ∧ RelH Λ (ρ ++ [a]) (upd (upd (upd H a (exo a cA none)) dx (exd dx [(fld, v)])) a (exo a cA (some dx))) (ah ++ [.exc Ci [(fi, y)]]) := by
  have same : ∀ b, b ≠ a → b ≠ dx → (upd (upd (upd H a (exo a cA none)) dx (exd dx [(fld, v)])) a (exo a cA (some dx))) b = H b := fun b h1 h2 => by rw [upd_ne h1, upd_ne h2, upd_ne h1]
  have nn : ∀ {b : Addr} {o : HO}, H b = some o → b ≠ a ∧ b ≠ dx := fun {b o} h => ⟨ne_of_none h ha, ne_of_none h hdx⟩
  have st : ∀ b o, H b = some o → (upd (upd (upd H a (exo a cA none)) dx (exd dx [(fld, v)])) a (exo a cA (some dx))) b = some o := fun b o h => by rw [same b (nn h).1 (nn h).2]; exact h
  have na : a ∉ ρ := r.notin ha
  have nd : dx ∉ ρ := r.notin hdx
  have sq : ∀ (b : Addr) (xs : List V), SqT Λ.K H b xs → SqT Λ.K (upd (upd (upd H a (exo a cA none)) dx (exd dx [(fld, v)])) a (exo a cA (some dx))) b xs := fun b xs h => by
    rcases h with (h | ⟨o, h⟩) | h
    · exact .inl (.inl (st _ _ h))
    · exact .inl (.inr ⟨o, st _ _ h⟩)
    · exact .inr h
  have s : Stp ρ H (ρ ++ [a]) (upd (upd (upd H a (exo a cA none)) dx (exd dx [(fld, v)])) a (exo a cA (some dx))) :=
    ⟨List.prefix_append _ _, fun b o _ h => st b o h, fun b h1 h2 => by
      rcases List.mem_append.mp h1 with h1 | h1
      · exact absurd h1 h2
      · simp at h1; subst h1; exact ha, fun b o u h => st b _ h⟩
  have rv2 : Rp Λ (ρ ++ [a]) (upd (upd (upd H a (exo a cA none)) dx (exd dx [(fld, v)])) a (exo a cA (some dx))) v y := s.rp r.nt rv
  refine ⟨s, r.grow na (fun b hb => same b (fun z => na (z ▸ hb)) fun z => nd (z ▸ hb)) sq (fun d fs _ h => ⟨(nn h).1, st d _ h⟩) (fun xs h => ?_) (by rw [upd_same]; exact fun z => nomatch z) ?_⟩
  · rcases h with h | ⟨_, h⟩ <;> rw [upd_same] at h
    · have z : HO.ext _ = HO.tup xs := Option.some.inj h
      cases z
    · have z : HO.ext _ = HO.frz _ _ := Option.some.inj h
      cases z
  · refine ⟨h0, cA, hC, T, fun g x hg hne => ?_, .inr ⟨dx, [(fld, v)], fun z => ?_, upd_same, by rw [upd_ne ne, upd_same], ?_⟩⟩
    · by_cases z : fi = g
      · subst z; rw [hf] at hg; cases hg; exact hno
      · exact absurd (show (if (fi == g) = true then some y else none) = none from if_neg (by simpa using z)) hne
    · rcases List.mem_append.mp z with z | z
      · exact nd z
      · exact ne (List.mem_singleton.mp z)
    · refine ⟨Nat.le_refl _, fun x w h => ⟨fi, ?_⟩, fun g x hg => ?_⟩
      · by_cases z : (x == fld) = true
        · rw [beq_iff_eq.mp z]; exact hf
        · simp [List.lookup, z] at h
      · show match (if (fi == g) = true then some y else none) with
          | some p => ∃ v', List.lookup x [(fld, v)] = some v' ∧ Rp Λ (ρ ++ [a]) _ v' p
          | none => List.lookup x [(fld, v)] = none
        by_cases z : fi = g
        · subst z
          rw [hf] at hg; cases hg
          rw [if_pos (by simp)]
          exact ⟨v, by simp [List.lookup], rv2⟩
        · rw [if_neg (by simpa using z)]
          have : ¬ (x == fld) = true := fun w => z (Λ.an_inj fi g fld hf (by rw [← beq_iff_eq.mp w]; exact hg))
          simp [List.lookup, this]
theorem mks_imp {exi : Nat → List PV → Option (List (Nat × PV))} {Ci fi : Nat} {fld : Str} (h0 : Λ.xc Ci = true) (hC : Λ.ca Ci = some C) (T : ExcC Λ.K C) (hf : Λ.an fi = some fld) (hno : PySem.W.findIn Λ.K (.ref C) fld = some none) (hexi : ∀ p, exi Ci [p] = none ∨ exi Ci [p] = some [(fi, p)]) {σV : L2.St} {Q : VK}
    (h : tV Λ W (mkxD exi Ci dA) σV H Q) : tExc C fld (tV Λ W dA) σV H Q := by
  obtain ⟨ρ, σ, ah, r, rs, post⟩ := h
  refine ⟨ρ, σ, ah, r, rs, (Post.bind post).imp fun v H1 ⟨ρ1, y, ah1, s1, r1, rv, _, q1⟩ a dx hn hd ne => ?_⟩
  rcases hexi y with e1 | e1
  · rw [e1] at q1; exact q1.elim
  · rw [e1] at q1
    obtain ⟨s2, r2⟩ := exc_grow r1 h0 hC T hf hno rv hn hd ne
    refine q1 _ _ _ s2 r2 (.obj ?_)
    rw [← r1.len]; exact app_last _ _
/-- what is known of a class with such an __init__ -/
structure ExS (Λ : Ln) (X : Cx) (x par : Str) (Ci fi : Nat) (k : Nat) : Prop where
  xc : Λ.xc Ci = true
  ex : ∃ (C fI : Addr) (fd : FuncData) (ps : List Str) (fld : Str), Λ.ca Ci = some C ∧ ExcC Λ.K C ∧ Λ.an fi = some fld ∧ PySem.W.findIn Λ.K (.ref C) fld = some none ∧ OexC X.K C ∧ PySem.W.findIn X.K (.ref C) "__init__" = some (some (.ref fI)) ∧ PySem.W.typeIn X.K (.ref fI) = some (.type "function") ∧
    FnOk X.prog X.w X.K X.mg X.base CX0 k fI fd ps (spS C fld) ∧ (∀ (s : Shared) (a u : Value), X.K.In s.heap → BindsTo s fd ⟨[a, u], []⟩ (ps.zip [a, u])) ∧ (∀ (s : Shared) (a u : Value), X.K.In s.heap → BindsTo s fd ⟨[a], [(par, u)]⟩ (ps.zip [a, u])) ∧ X.mg x = some (.ref C)
theorem n_mkS {exi : Nat → List PV → Option (List (Nat × PV))} {Ci fi : Nat} {par : Str} (S : ExS Λ X x par Ci fi k) (hexi : ∀ p, exi Ci [p] = none ∨ exi Ci [p] = some [(fi, p)]) (hr : Room (k + 1) X.A) (hg : Gl X x) (hs : isStar e = false) (hd : (x == ("__debug__" : Str)) = false) (ha : PE X e (tV Λ W dA)) :
    PV' Λ X W (.Call (.Name x p) [e] [] pos) (mkxD exi Ci dA) := by
  obtain ⟨C, fI, fd, ps, fld, hC, T, hf, hno, O, iC, tI, F1, hb, _, hm⟩ := S.ex
  exact pv_plain ((pe_exS O iC tI F1 hr pass0 hb hg hm ha hd (starEach_no hs)).mono fun σV H Q h => mks_imp S.xc hC T hf hno hexi h) fun _ => rfl
theorem n_mkK {exi : Nat → List PV → Option (List (Nat × PV))} {Ci fi : Nat} {par : Str} (S : ExS Λ X x par Ci fi k) (hexi : ∀ p, exi Ci [p] = none ∨ exi Ci [p] = some [(fi, p)]) (hr : Room (k + 1) X.A) (hg : Gl X x) (hd : (x == ("__debug__" : Str)) = false) (ha : PE X e (tV Λ W dA)) :
    PV' Λ X W (.Call (.Name x p) [] [⟨some par, e, kp⟩] pos) (mkxD exi Ci dA) := by
  obtain ⟨C, fI, fd, ps, fld, hC, T, hf, hno, O, iC, tI, F1, _, hb, hm⟩ := S.ex
  exact pv_plain ((pe_exK O iC tI F1 hr pass0 hb hg hm ha hd).mono fun σV H Q h => mks_imp S.xc hC T hf hno hexi h) fun _ => rfl
end
end NI
end

section
set_option Elab.async false
set_option autoImplicit false
set_option linter.all false
set_option maxRecDepth 100000
set_option maxHeartbeats 2000000
/-! The compile step, with what its proof asks; its soundness. -/
namespace NI
open PySem PySem.Spec PyProof.Rows L2
def grd {α : Type} (c : Bool) (x : Option α) : Option α := match c with
  | true => x
  | false => none
theorem grd_some {α : Type} {c : Bool} {x : Option α} {y : α} (h : grd c x = some y) : c = true ∧ x = some y := by
  cases c with
  | true => exact ⟨rfl, h⟩
  | false => cases h
theorem bnd {α β : Type} {x : Option α} {f : α → Option β} {y : β} (h : x.bind f = some y) : ∃ a, x = some a ∧ f a = some y := Option.bind_eq_some_iff.mp h
/-- where one stands: the names by slot, the scope, the own names that are cells -/
structure Wk where
  N : List Str
  sc : Scope
  own : List Str
def Wk.slot (W : Wk) (x : Str) : Option Nat := match W.sc.names.lookup x with
  | some .local => ixS x W.N
  | some .cell => ixS x W.N
  | some .free => ixS x W.N
  | _ => none
def Wk.gl (W : Wk) (x : Str) : Bool := W.sc.names.lookup x == some .globalImplicit
def Wk.tgt (W : Wk) (x : Str) : Option Nat := match W.sc.names.lookup x with
  | some .local => ixS x W.N
  | some .cell => grd (W.own.contains x) (ixS x W.N)
  | _ => none
theorem ixS_at : ∀ {x : Str} {l : List Str} {i : Nat}, ixS x l = some i → l[i]? = some x
  | x, [], i, h => by cases h
  | x, y :: r, i, h => by
    unfold ixS at h
    split at h
    · rename_i e
      cases h
      rw [beq_iff_eq.mp e]; rfl
    · obtain ⟨j, h1, rfl⟩ := Option.map_eq_some_iff.mp h
      simpa using ixS_at h1
def dbg : Str := "__debug__"
def okName (x : Str) : Bool := !(x == ("__debug__" : Str)) && !(x == ("__classdict__" : Str)) && !(x == ("__name__" : Str))
def notStarE : E → Bool
  | .star _ => false
  | _ => true
def constOk : Const → Bool
  | .str x => PyData.strOk x && decide (x.length ≤ maxSize)
  | _ => true
def slE : E → List Nat
  | .var i => [i]
  | .tup es => slE es
  | .cons a b => slE a ++ slE b
  | _ => []
def pureT : E → Bool
  | .var _ => true
  | .tup es => pureT es
  | .cons a b => pureT a && pureT b
  | .nil => true
  | _ => false
/-- the block of a comprehension -/
def ownsOf (N : List Str) (scope : Scope) : List (Str × Nat) := (scope.names.filter fun p => p.2 == .local || p.2 == .cell).filterMap fun p => (ixS p.1 N).map fun i => (p.1, i)
def blkOkB (N : List Str) (sc scope : Scope) : Bool :=
  scope.kind == .function && (scope.names.all fun y => scope.names.lookup y.1 == some y.2) &&
  (scope.names.all fun y => !(y.2 == .free) || sc.names.lookup y.1 == some .cell || sc.names.lookup y.1 == some .free)
theorem ownsOf_ix {N : List Str} {scope : Scope} : ∀ p ∈ ownsOf N scope, N[p.2]? = some p.1 := fun p h => by
  unfold ownsOf at h
  obtain ⟨q, _, h2⟩ := List.mem_filterMap.mp h
  obtain ⟨i, h3, h4⟩ := Option.map_eq_some_iff.mp h2
  subst h4
  exact ixS_at h3
theorem ixS_some : ∀ {x : Str} {N : List Str}, x ∈ N → ∃ i, ixS x N = some i
  | x, [], h => by cases h
  | x, y :: r, h => by
    unfold ixS
    split
    · exact ⟨0, rfl⟩
    · rename_i ne
      rcases List.mem_cons.mp h with e | h
      · exact absurd (beq_iff_eq.mpr e) ne
      · obtain ⟨i, e⟩ := ixS_some h
        exact ⟨i + 1, by rw [e]; rfl⟩
theorem blkOk_of {N : List Str} {sc scope : Scope} (h : blkOkB N sc scope = true) : BlkOk N sc scope (ownsOf N scope) := by
  obtain ⟨h, h3⟩ := ba h
  obtain ⟨h1, h2⟩ := ba h
  refine ⟨beq_iff_eq.mp h1, fun y hy => beq_iff_eq.mp (List.all_eq_true.mp h2 y hy), ownsOf_ix, fun y hy e => ?_, fun y hy e => ?_⟩
  · have q := List.all_eq_true.mp h3 y hy
    simp only [e, beq_self_eq_true, Bool.not_true, Bool.false_or, Bool.or_eq_true, beq_iff_eq] at q
    exact q
  · by_cases hn : y.1 ∈ N
    · left
      obtain ⟨i, ei⟩ := ixS_some hn
      refine List.mem_map.mpr ⟨(y.1, i), ?_, rfl⟩
      unfold ownsOf
      refine List.mem_filterMap.mpr ⟨y, List.mem_filter.mpr ⟨hy, ?_⟩, by rw [ei]; rfl⟩
      rcases e with e | e <;> rw [e] <;> rfl
    · exact .inr hn
def relS (scope sc : Scope) : Scope :=
  { scope with names := scope.names.map fun (n, k) => if (k == .free && sc.kind == .function && sc.names.lookup n == some .cell) then (n, .cell) else (n, k) }
def Wk.blk (W : Wk) (scope : Scope) : Wk := ⟨W.N, relS scope W.sc, (scope.names.filter fun p => scope.names.lookup p.1 == some .cell).map (·.1)⟩
def _root_.NI.Stx.exc (S : Stx) (x : Str) : Option Nat := match atS x S.cls with
  | some (i, true) => some i
  | _ => none
abbrev Rec := Pl → Wk → PySem.Expr → Option E
section
variable (S : Stx) (rec : Rec)
def kArg (W : Wk) : PySem.Expr → Option E
  | .Starred a _ => (rec .v W a).bind fun a => some (.star a)
  | e => (rec .v W e).bind fun a => grd (notStarE a) (some a)
def kArgs (W : Wk) : List PySem.Expr → Option E
  | [] => some .nil
  | e :: es => (kArg rec W e).bind fun a => (kArgs W es).bind fun r => some (.cons a r)
def noStarB (es : List PySem.Expr) : Bool := es.all fun e => !isStar e
def kB (W : Wk) (k : Bool) : List PySem.Expr → Option E
  | [] => none
  | [a] => rec .v W a
  | a :: b :: r => (rec .v W a).bind fun x => (kB W k (b :: r)).bind fun y => some (if k then .and x y else .or x y)
def kPart (W : Wk) : Option PySem.Expr → Option E
  | none => some (.con .non)
  | some e => (rec .v W e).bind fun a => match a with
    | .con .non => none
    | a => some a
def tyB (x : Str) : Option Ty := if x == ("int" : Str) then some .int else if x == ("bool" : Str) then some .bool else if x == ("str" : Str) then some .str
    else if x == ("tuple" : Str) then some .tuple else if x == ("list" : Str) then some .list else none
/-- calls of names that are no variables -/
def kCall (W : Wk) (f : Str) (as : List PySem.Expr) : Option E := match S.fn f with
  | some g => grd (noStarB as) ((kArgs rec W as).bind fun l => some (.call g l []))
  | none => if f == ("len" : Str) then (match as with
      | [a] => grd (noStarB as) (match isL a with
        | true => (rec .l W a).bind fun ir => (match ir with
          | .new l => some (.bq .len (.new l))
          | _ => none)
        | false => (kArgs rec W [a]).bind fun l => some (.bf .len l))
      | _ => none)
    else if f == ("any" : Str) || f == ("all" : Str) then (match as with
      | [a] => grd (!isStar a) ((rec .l W a).bind fun ir => match ir with
        | .new l => some (.bq (if f == ("any" : Str) then .any else .all) (.new l))
        | _ => none)
      | _ => none)
    else if f == ("tuple" : Str) then (match as with
      | [a] => grd (!isStar a) (match isL a with
        | true => (rec .l W a).bind fun ir => (match ir with
          | .new l => some (.bq .tuple (.new l))
          | _ => none)
        | false => (kArgs rec W [a]).bind fun l => some (.bf .tuple l))
      | _ => none)
    else if f == ("int" : Str) then (match as with
      | [a] => grd (noStarB as) ((kArgs rec W as).bind fun l => some (.bf .int l))
      | _ => none)
    else if f == ("isinstance" : Str) then (match as with
      | [a, .Name t _] => grd (!isStar a && W.gl t && okName t && (S.fn t).isNone) ((tyB t).bind fun t => (rec .v W a).bind fun x => some (.isi x [t]))
      | _ => none)
    else none
/-- exceptions that are made, isinstance of a class of exceptions, str of a figure -/
def kExc (W : Wk) (f : Str) (as : List PySem.Expr) : Option E := match as with
  | [a] => (match atS f S.exs with
    | some (Ci, _, _) => grd (!isStar a) ((rec .v W a).bind fun x => grd (notStarE x) (some (.mkx Ci (.cons x .nil))))
    | none => (match S.exc f with
      | some Ci => grd (!isStar a) ((rec .v W a).bind fun x => grd (notStarE x) (some (.mkx Ci (.cons x .nil))))
      | none => grd (f == ("str" : Str) && !isStar a && (S.fn f).isNone) ((kArgs rec W [a]).bind fun l => some (.bf .str l))))
  | [a, .Name t _] => grd (f == ("isinstance" : Str) && (S.fn f).isNone && !isStar a && W.gl t && okName t) ((atS t S.exts).bind fun n => (rec .v W a).bind fun x => some (.isi x [.own n]))
  | _ => none
def kExcK (W : Wk) (f par : Str) (e : PySem.Expr) : Option E := match atS f S.exs with
  | some (Ci, _, p) => grd (p == par) ((rec .v W e).bind fun x => grd (notStarE x) (some (.mkx Ci (.cons x .nil))))
  | none => none
def kMeth (W : Wk) (o : PySem.Expr) (m : Str) (as : List PySem.Expr) (ap cp : Pos) : Option E := grd (apLine ap cp && baseOk o) (match S.isMth m with
  | true => grd (noStarB as && decide (as.length < 30)) ((atS m S.attrs).bind fun mi => (rec .v W o).bind fun x => (kArgs rec W as).bind fun l => some (.mth x mi l []))
  | false => match as with
    | [] => grd (m == ("pop" : Str)) ((rec .v W o).bind fun x => some (.bm x .pop .nil))
    | [a] => grd (noStarB [a]) (if m == ("append" : Str) then (rec .v W o).bind fun x => (kArgs rec W [a]).bind fun l => some (.bm x .append l)
      else if m == ("pop" : Str) then (rec .v W o).bind fun x => (kArgs rec W [a]).bind fun l => some (.bm x .popAt l)
      else none)
    | _ => none)
where
  apLine (ap cp : Pos) : Bool := ap.endLine == cp.line
  baseOk : PySem.Expr → Bool
    | .Call (.Name x _) [] [] _ => !(x == ("super" : Str))
    | _ => true
def kNew (W : Wk) (e : PySem.Expr) : Option E := (rec .l W e).bind fun ir => match ir with
  | .new l => some (.new l)
  | _ => none
def kV (W : Wk) : PySem.Expr → Option E
  | .Name x _ => grd (okName x) (match W.slot x with
    | some i => some (.var i)
    | none => grd (W.gl x) ((atS x S.csts).bind fun c => some (.cst c)))
  | .Constant c _ _ => grd (constOk c) ((cConst c).bind fun p => some (.con p))
  | .Tuple es _ _ => (kArgs rec W es).bind fun l => some (.tup l)
  | .UnaryOp .USub a _ => (rec .v W a).bind fun x => some (.neg x)
  | .UnaryOp .Not a _ => (rec .v W a).bind fun x => some (.not x)
  | .BoolOp .And es _ => kB rec W true es
  | .BoolOp .Or es _ => kB rec W false es
  | .IfExp c a b _ => (rec .v W c).bind fun c => (rec .v W a).bind fun a => (rec .v W b).bind fun b => some (.ite c a b)
  | .Compare a [op] [b] _ => (cCo op).bind fun o => grd (!behindInMarks op b) (match isL a || isL b with
    | true => (rec .l W a).bind fun x => (rec .l W b).bind fun y => some (.cmpq o x y)
    | false => (rec .v W a).bind fun x => (rec .v W b).bind fun y => some (.cmp o x y))
  | .Compare a [o1, o2] [b, c] _ => (cCo o1).bind fun p1 => (cCo o2).bind fun p2 => grd (!lastMarks [o1, o2] [b, c]) ((rec .v W a).bind fun x => (rec .v W b).bind fun y => (rec .v W c).bind fun z => some (.chn p1 p2 x y z))
  | .Subscript a b _ => (match b with
    | .Slice lo hi none _ => (rec .v W a).bind fun x => (kPart rec W lo).bind fun y => (kPart rec W hi).bind fun z => some (.slc x y z)
    | b => grd (!isSlice b) (match isL a with
      | true => (rec .l W a).bind fun ir => (match ir with
        | .new l => (rec .v W b).bind fun y => some (.ixn l y)
        | _ => none)
      | false => (rec .v W a).bind fun x => (rec .v W b).bind fun y => some (.ix x y)))
  | .Call (.Name f p) as [] pos => grd (W.gl f && okName f) (match isL (.Call (.Name f p) as [] pos) with
    | true => kNew rec W (.Call (.Name f p) as [] pos)
    | false => (match kExc S rec W f as with
      | some ir => some ir
      | none => kCall S rec W f as))
  | .Call (.Name f p) [] [⟨some par, e, kp⟩] pos => grd (W.gl f && okName f) (kExcK S rec W f par e)
  | .Attribute o f _ => grd (kMeth.baseOk o) ((atS f S.attrs).bind fun i => (rec .v W o).bind fun x => some (.fld x i))
  | .Call (.Attribute o m ap) as [] cp => kMeth S rec W o m as ap cp
  | .List es p => kNew rec W (.List es p)
  | .ListComp e gs sc p => kNew rec W (.ListComp e gs sc p)
  | .BinOp a o b p => (match isL (.BinOp a o b p) with
    | true => kNew rec W (.BinOp a o b p)
    | false => (cBo o).bind fun o => (rec .v W a).bind fun x => (rec .v W b).bind fun y => some (.bin o x y))
  | _ => none
def kVal (W : Wk) (e : PySem.Expr) : Option E := (rec .v W e).bind fun a => some (.val a)
def kIfs (W : Wk) : List PySem.Expr → Option E
  | [] => some .nil
  | [c] => (rec .v W c).bind fun x => some (.cons x .nil)
  | _ => none
def isSetE : PySem.Expr → Bool
  | .Set _ _ _ => true
  | _ => false
def kLc (W : Wk) (elt tg it : PySem.Expr) (ifs : List PySem.Expr) (scope : Scope) : Option E :=
  grd (blkOkB W.N W.sc scope && !isSetE it) ((rec .q W it).bind fun q => (rec .v (W.blk scope) elt).bind fun x => (rec .t (W.blk scope) tg).bind fun t => (kIfs rec (W.blk scope) ifs).bind fun c =>
    grd (pureT t && ((slE t).all fun i => ((ownsOf W.N scope).map (·.2)).contains i)) (some (.new (.lc x t q c ((ownsOf W.N scope).map (·.2))))))
def kL (W : Wk) : PySem.Expr → Option E
  | .List es _ => (kArgs rec W es).bind fun l => some (.new (.lst l))
  | .ListComp elt [⟨tg, it, ifs, 0⟩] scope _ => kLc rec W elt tg it ifs scope
  | .BinOp a .Add b p => (match isL a && isL b with
    | true => (rec .l W a).bind fun x => (rec .l W b).bind fun y => (match x, y with
      | .new x, .new y => some (.new (.ladd x y))
      | _, _ => none)
    | false => kVal rec W (.BinOp a .Add b p))
  | .BinOp a .Mult b p => (match isL a with
    | true => (rec .l W a).bind fun x => (rec .v W b).bind fun y => (match x with
      | .new x => some (.new (.lmul x y))
      | _ => none)
    | false => kVal rec W (.BinOp a .Mult b p))
  | .Call (.Name f p) as [] pos => (match f == ("list" : Str) with
    | true => grd (W.gl f && noStarB as && (S.fn f).isNone) (match as with
      | [a] => (rec .v W a).bind fun x => some (.new (.lof x))
      | _ => none)
    | false => (match isL (.Call (.Name f p) as [] pos) with
      | true => none
      | false => kVal rec W (.Call (.Name f p) as [] pos)))
  | e => (match isL e with
    | true => none
    | false => kVal rec W e)
def kQ (W : Wk) : PySem.Expr → Option E
  | .Call (.Name f p) as [] pos => (match f == ("range" : Str) with
    | true => grd (W.gl f && noStarB as && (S.fn f).isNone) (match as with
      | [a] => (rec .v W a).bind fun x => some (.rng x)
      | [a, b] => (rec .v W a).bind fun x => (rec .v W b).bind fun y => some (.rng2 x y)
      | _ => none)
    | false => (match isL (.Call (.Name f p) as [] pos) with
      | true => none
      | false => kVal rec W (.Call (.Name f p) as [] pos)))
  | e => (match isL e with
    | true => kNew rec W e
    | false => kVal rec W e)
def kTs (W : Wk) : List PySem.Expr → Option E
  | [] => some .nil
  | e :: es => grd (!isStar e) ((rec .t W e).bind fun a => (kTs W es).bind fun r => some (.cons a r))
def kT (W : Wk) : PySem.Expr → Option E
  | .Name x _ => (W.tgt x).bind fun i => some (.var i)
  | .Tuple es _ _ => (kTs rec W es).bind fun l => grd (pureT l) (some (.tup l))
  | .Subscript a b _ => grd (!isSlice b && !isStar b) ((rec .v W a).bind fun x => (rec .v W b).bind fun y => some (.ix x y))
  | _ => none
def kStep : Rec := fun pl W e => match pl with
  | .v => kV S rec W e
  | .l => kL S rec W e
  | .q => kQ S rec W e
  | .t => kT rec W e
  | .d => none
end
def kE (S : Stx) : Nat → Rec
  | 0 => fun _ _ _ => none
  | n + 1 => kStep S (kE S n)
end NI
end

section
set_option Elab.async false
set_option autoImplicit false
set_option linter.all false
set_option maxRecDepth 100000
set_option maxHeartbeats 4000000
/-! The compile step is sound. -/
namespace NI
open PySem PySem.Spec PyProof.Rows L2
def bltNames : List Str := ["len", "int", "isinstance", "range", "bool", "str", "tuple", "list", "any", "all"]
/-- an own class of exceptions, made of a text alone -/
structure ExF (Λ : Ln) (K : PySem.W.Frag) (mg : Str → Option Value) (x : Str) (Ci : Nat) : Prop where
  ex : ∃ (C : Addr) (bmB : List Value) (B newId initId : String), Λ.ca Ci = some C ∧ ExcBaseFacts B newId initId bmB ∧ PySem.W.excIn K C bmB newId = true ∧ mg x = some (.ref C) ∧ PySem.W.keepIn K (.ref C) = true ∧
    PySem.W.subIn K (.ref C) (.type "BaseException") = some true ∧ PySem.W.typeIn K (.ref C) = some (.type "type")
/-- what is known of where one stands -/
structure Cw (Λ : Ln) (S : Stx) (Γ : G) (W : Wk) (X : Cx) (Wx : WX) : Prop where
  fx : Fx Λ X
  calm : X.calm = true
  nd : X.N.Nodup
  N : X.N = W.N
  sc : X.env.scope = W.sc
  own : ∀ x ∈ W.own, X.fn x = true
  pass : ∀ σ, PassesAt (L2.CX X.prog X.w) X σ (WE Wx σ)
  fn : ∀ x g, S.fn x = some g → ∃ f fd ps k, X.mg x = some (.ref f) ∧ PySem.W.keepIn X.K (.ref f) = true ∧ FnOk X.prog X.w X.K X.mg X.base (L2.CX X.prog X.w) k f fd ps (spO Λ (Γ.fn g) ps.length) ∧
    (∀ vs h, Γ.fn g vs h = .no ∨ vs.length = ps.length) ∧ Room k X.A ∧ Binds X.K fd ps []
  cst : ∀ x c, atS x S.csts = some c → Γ.cst c = none ∨ ∃ p v u, Γ.cst c = some p ∧ X.mg x = some u ∧ RelV v u ∧ ∀ ρ H, Rp Λ ρ H v p
  blt : ∀ x, S.fn x = none → x ∈ bltNames → X.mg x = none
  att : ∀ x i, atS x S.attrs = some i → Λ.an i = some x
  exc : ∀ x Ci, S.exc x = some Ci → (Γ.exi Ci [] = none ∨ Γ.exi Ci [] = some []) ∧ ExF Λ X.K X.mg x Ci
  exv : ∀ x Ci, S.exc x = some Ci → Λ.xc Ci = true ∧ (∀ p, Γ.exi Ci [p] = none ∨ Γ.exi Ci [p] = some []) ∧ ∀ C, Λ.ca Ci = some C → ExcC Λ.K C
  exs : ∀ x Ci fi par, atS x S.exs = some (Ci, fi, par) → (∀ p, Γ.exi Ci [p] = none ∨ Γ.exi Ci [p] = some [(fi, p)]) ∧ ∃ k, ExS Λ X x par Ci fi k ∧ Room (k + 1) X.A
  ext : ∀ t n, atS t S.exts = some n → ∃ cV cv, (∀ u, RelV cV u → u = cv) ∧ RelV cV cv ∧ (∀ C cA, Λ.xc C = true → Λ.ca C = some cA → ExcC Λ.K cA → PySem.W.kitOne Λ.K (.ref cA) cv = some (Γ.sub C n)) ∧ (X.mg t = some cv ∨ (X.mg t = none ∧ bootBuiltins t = some cv))
  mtf : MtF Λ X (L2.CX X.prog X.w) Γ.mt Γ.fn
  naf : NaF Λ Γ.mt
section
variable {Λ : Ln} {S : Stx} {Γ : G} {W : Wk} {X : Cx} {Wx : WX}
theorem passF : ∀ σ, PassesAt (L2.CX X.prog X.w) X σ (WE Wf σ) := fun σ pins H s e s' I c => by
  obtain ⟨a, B, sI, pins', σ', H', cls, d, ex, _, _, _, _, _, _, _, w⟩ := XE.of_call (W := Wf) I (fun _ _ _ h => h.elim) c
  exact w.elim
theorem Cw.f (c : Cw Λ S Γ W X Wx) : Cw Λ S Γ W X Wf := { c with pass := passF }
theorem Cw.blk (c : Cw Λ S Γ W X Wx) (s : Shared) (H : Hp) (scope : Scope) (C : Addr) (cl : List (Str × Addr)) (fp : List Addr) : Cw Λ S Γ (W.blk scope) (X.blk s H scope (compEnvC scope cl C X.env) fp) Wf where
  fx := ⟨c.fx.k, c.fx.p, c.fx.w, c.fx.u⟩
  calm := c.calm
  nd := c.nd
  N := c.N
  sc := by
    show relabel scope X.env = relS scope W.sc
    unfold relabel relS Env.kindOf
    rw [c.sc]
  own := fun x hx => by
    obtain ⟨p, hp, rfl⟩ := List.mem_map.mp hx
    exact (List.mem_filter.mp hp).2
  pass := passF
  fn := c.fn
  cst := c.cst
  blt := c.blt
  att := c.att
  exc := c.exc
  exv := c.exv
  exs := fun x Ci fi par h => let ⟨h1, k, s, r⟩ := c.exs x Ci fi par h; ⟨h1, k, ⟨s.xc, s.ex⟩, r⟩
  ext := c.ext
  mtf := c.mtf
  naf := c.naf
def SV (Λ : Ln) (S : Stx) (Γ : G) (W : Wk) (e : PySem.Expr) (ir : E) : Prop := ∀ X Wx, Cw Λ S Γ W X Wx → PV' Λ X Wx e ((den Γ ir).v none)
def PlainT (e : PySem.Expr) : Prop := ∀ env whole, isTrue e env whole = (do let v ← whole; standAt e.pos; holding [v] (truthy v))
def SL (Λ : Ln) (S : Stx) (Γ : G) (W : Wk) (e : PySem.Expr) (ir : E) : Prop := (∃ l, ir = .new l ∧ PlainT e ∧ ∀ X Wx, Cw Λ S Γ W X Wx → PE X e (tF Λ Wx ((den Γ l).L none))) ∨ ∃ a, ir = .val a ∧ SV Λ S Γ W e a
def SQ (Λ : Ln) (S : Stx) (Γ : G) (W : Wk) (e : PySem.Expr) (ir : E) : Prop := ∀ X Wx tg, Cw Λ S Γ W X Wx → PI X tg e (tI Λ Wx ((den Γ ir).Q none))
def ST (Λ : Ln) (S : Stx) (Γ : G) (W : Wk) (e : PySem.Expr) (ir : E) : Prop := ∀ X Wx, Cw Λ S Γ W X Wx → PG X e (tT Λ Wx (slE ir) fun v σ h => (den Γ ir).A v none σ h)
def Snd (Λ : Ln) (S : Stx) (Γ : G) : Pl → Wk → PySem.Expr → E → Prop := fun pl W e ir => match pl with
  | .v => SV Λ S Γ W e ir
  | .l => SL Λ S Γ W e ir
  | .q => SQ Λ S Γ W e ir
  | .t => ST Λ S Γ W e ir
  | .d => True
/-! ### names -/
theorem Cw.gl (c : Cw Λ S Γ W X Wx) {x : Str} (h : W.gl x = true) : Gl X x := by
  show X.env.scope.names.lookup x = _
  rw [c.sc]; exact beq_iff_eq.mp h
theorem slot_ok (c : Cw Λ S Γ W X Wx) {x : Str} {i : Nat} (h : W.slot x = some i) : X.N[i]? = some x ∧ Vis X.env.scope x := by
  unfold Vis
  rw [c.sc, c.N]
  unfold Wk.slot at h
  split at h
  · rename_i e; exact ⟨ixS_at h, .inl e⟩
  · rename_i e; exact ⟨ixS_at h, .inr (.inl e)⟩
  · rename_i e; exact ⟨ixS_at h, .inr (.inr e)⟩
  · cases h
theorem tgt_ok (c : Cw Λ S Γ W X Wx) {x : Str} {i : Nat} (h : W.tgt x = some i) : X.N[i]? = some x ∧ L2.Loc X.env.scope x ∧ (X.fn x = true ∨ X.env.scope.names.lookup x = some .local) := by
  unfold L2.Loc
  rw [c.sc, c.N]
  unfold Wk.tgt at h
  split at h
  · rename_i e; exact ⟨ixS_at h, .inl e, .inr e⟩
  · rename_i e
    obtain ⟨h1, h2⟩ := grd_some h
    exact ⟨ixS_at h2, .inr e, .inl (c.own x (by simpa using h1))⟩
  · cases h
theorem okName_ok {x : Str} (h : okName x = true) : (x == ("__debug__" : Str)) = false ∧ (x == ("__classdict__" : Str)) = false ∧ x ≠ "__name__" := by
  obtain ⟨h, h3⟩ := ba h
  obtain ⟨h1, h2⟩ := ba h
  refine ⟨by simpa using h1, by simpa using h2, fun e => ?_⟩
  rw [e] at h3; exact absurd h3 (by decide)
theorem star_no {ir : E} (h : notStarE ir = true) : (den Γ ir).star = false := by
  cases ir <;> first | rfl | cases h
/-! ### rows -/
variable {rec : Rec} (IH : ∀ pl W e ir, rec pl W e = some ir → Snd Λ S Γ pl W e ir)
include IH
theorem kArgs_ok : ∀ (es : List PySem.Expr) (l : E), kArgs rec W es = some l → ∀ X Wx, Cw Λ S Γ W X Wx → PA X es (tVs Λ Wx ((den Γ l).vs none))
  | [], l, h, X, Wx, c => by cases h; exact a_nil
  | e :: es, l, h, X, Wx, c => by
    unfold kArgs at h
    obtain ⟨a, h1, h⟩ := bnd h
    obtain ⟨r, h2, h⟩ := bnd h
    cases h
    have ihr := kArgs_ok es r h2 X Wx c
    unfold kArg at h1
    split at h1
    · obtain ⟨x, h3, h1⟩ := bnd h1
      cases h1
      exact a_star c.fx.k (IH .v W _ x h3 X Wx c).v ihr
    · rename_i ns
      obtain ⟨x, h3, h1⟩ := bnd h1
      obtain ⟨h4, h5⟩ := grd_some h1
      cases h5
      have q := a_cons (IH .v W e a h3 X Wx c).v ihr (by cases e <;> first | rfl | exact absurd rfl (ns _ _))
      have e2 : (den Γ (.cons a r)).vs none = consD ((den Γ a).v none) ((den Γ r).vs none) := by
        show (fun σ h => match (den Γ a).star with
          | true => ((den Γ a).vs none σ h).bind fun xs h => ((den Γ r).vs none σ h).bind fun vs h => R.ok (xs ++ vs) h
          | false => ((den Γ a).v none σ h).bind fun x h => ((den Γ r).vs none σ h).bind fun vs h => R.ok (x :: vs) h) = _
        rw [star_no h4]; rfl
      rw [e2]; exact q
theorem kB_ok (k : Bool) : ∀ (es : List PySem.Expr) (ir : E), kB rec W k es = some ir → ∀ X Wx, Cw Λ S Γ W X Wx → PB Λ X Wx (if k then .And else .Or) es ((den Γ ir).v none)
  | [], ir, h, _, _, _ => by cases h
  | [a], ir, h, X, Wx, c => by
    have q := IH .v W a ir h X Wx c
    cases k
    · exact pb_or1 q
    · exact pb_and1 q
  | a :: b :: r, ir, h, X, Wx, c => by
    unfold kB at h
    obtain ⟨x, h1, h⟩ := bnd h
    obtain ⟨y, h2, h⟩ := bnd h
    have q := IH .v W a x h1 X Wx c
    have q2 := kB_ok k (b :: r) y h2 X Wx c
    cases k
    · cases h; exact n_or q q2
    · cases h; exact n_and q q2
theorem kPart_ok {o : Option PySem.Expr} {ir : E} (h : kPart rec W o = some ir) : ∀ X Wx, Cw Λ S Γ W X Wx → PO X o (tO Λ Wx fun σ h => partD ir ((den Γ ir).v) none σ h) := fun X Wx c => by
  cases o with
  | none => cases h; exact o_none
  | some e =>
    obtain ⟨a, h1, h⟩ := bnd h
    have q := o_some (IH .v W e a h1 X Wx c).v
    have e3 : a = ir ∧ ∀ z : a = .con .non, False := by
      split at h
      · cases h
      · rename_i ne
        cases h
        exact ⟨rfl, ne⟩
    obtain ⟨rfl, ne⟩ := e3
    · have e2 : (fun σ h => partD a ((den Γ a).v) none σ h) = fun σ h => ((den Γ a).v none σ h).bind fun x h => (match x with
        | .int i => .ok (some i) h
        | _ => .no) := by
        funext σ h
        unfold partD
        split
        · exact (ne rfl).elim
        · rfl
      rw [e2]; exact q
omit IH in
theorem isL_plain {e : PySem.Expr} (h : isL e = true) : PlainT e := by
  cases e <;> first | exact fun _ _ => rfl | (simp [isL] at h; done)
theorem kNew_ok {e : PySem.Expr} {ir : E} (h : kNew rec W e = some ir) : SV Λ S Γ W e ir ∧ ∃ l, ir = .new l ∧ ∀ X Wx, Cw Λ S Γ W X Wx → PE X e (tF Λ Wx ((den Γ l).L none)) := by
  obtain ⟨x, h1, h⟩ := bnd h
  have q := IH .l W e x h1
  split at h
  · rename_i l
    cases h
    rcases q with ⟨l', e1, pl, q⟩ | ⟨a, e1, _⟩
    · cases e1
      exact ⟨fun X Wx c => n_new (q X Wx c) (pl X.env), l, rfl, q⟩
    · cases e1
  · cases h
end
end NI
end

section
set_option Elab.async false
set_option autoImplicit false
set_option linter.all false
set_option maxRecDepth 100000
set_option maxHeartbeats 4000000
namespace NI
open PySem PySem.Spec PyProof.Rows L2
theorem base_ok {o : PySem.Expr} {m : Str} {env : Env} {w : Sem Value} (h : kMeth.baseOk o = true) : attributeBase o m env w = w := by
  cases o with
  | Call f as ks p =>
    cases f with
    | Name x q =>
      cases as with
      | cons _ _ => rfl
      | nil =>
        cases ks with
        | cons _ _ => rfl
        | nil =>
          have h1 : (x != ("super" : Str)) = true := h
          unfold attributeBase
          simp only [h1, Bool.true_or, if_true]
    | _ => rfl
  | _ => rfl
theorem plainIx_of {b : PySem.Expr} (h : isSlice b = false) : PlainIx b := fun o i => by
  cases b <;> first | rfl | cases h
theorem foldSet_of {e : PySem.Expr} {env : Env} (h : isSetE e = false) (x : Value) : foldedSetIterable e env x = pure x := by
  cases e <;> first | rfl | cases h
theorem isTys1 {sub : Nat → Nat → Bool} {h : AH} {x : PV} {t : Ty} : isTys sub h x [t] = isTy sub h x t := by
  unfold isTys
  cases isTy sub h x t with
  | none => rfl
  | some b => cases b <;> rfl
theorem tyB_ok {x : Str} {t : Ty} (h : tyB x = some t) : ∃ T, tyName t = some T ∧ bootBuiltins x = some (.type T) ∧ x ∈ bltNames := by
  unfold tyB at h
  split at h
  · rename_i e; cases h; rw [beq_iff_eq.mp e]; exact ⟨_, rfl, by decide +kernel, by decide⟩
  split at h
  · rename_i e; cases h; rw [beq_iff_eq.mp e]; exact ⟨_, rfl, by decide +kernel, by decide⟩
  split at h
  · rename_i e; cases h; rw [beq_iff_eq.mp e]; exact ⟨_, rfl, by decide +kernel, by decide⟩
  split at h
  · rename_i e; cases h; rw [beq_iff_eq.mp e]; exact ⟨_, rfl, by decide +kernel, by decide⟩
  split at h
  · rename_i e; cases h; rw [beq_iff_eq.mp e]; exact ⟨_, rfl, by decide +kernel, by decide⟩
  · cases h
section
variable {Λ : Ln} {S : Stx} {Γ : G} {W : Wk} {X : Cx} {Wx : WX} {rec : Rec} (IH : ∀ pl W e ir, rec pl W e = some ir → Snd Λ S Γ pl W e ir)
include IH
theorem kCall_ok {f : Str} {as : List PySem.Expr} {ir : E} {p pos : Pos} (h : kCall S rec W f as = some ir) (hg : W.gl f = true) (hn : okName f = true) : SV Λ S Γ W (.Call (.Name f p) as [] pos) ir := fun X Wx c => by
  obtain ⟨n1, n2, n3⟩ := okName_ok hn
  unfold kCall at h
  split at h
  · rename_i g eg
    obtain ⟨hs, h⟩ := grd_some h
    obtain ⟨l, hl, h⟩ := bnd h
    cases h
    obtain ⟨fa, fd, ps, k, h1, h2, h3, h4, h5, h6⟩ := c.fn f g eg
    have ha := kArgs_ok IH as l hl X Wx c
    cases as with
    | nil =>
      cases hl
      exact n_call0 h3 h4 h5 (c.gl hg) h1 h2 h6 c.pass n1
    | cons e es => exact n_call h3 h4 h5 (c.gl hg) h1 h2 h6 c.pass n1 hs ha
  · rename_i eg
    split at h
    · rename_i ef
      have ef := beq_iff_eq.mp ef
      subst ef
      split at h
      · rename_i a
        obtain ⟨hs, h⟩ := grd_some h
        have hs1 : isStar a = false := by simpa [noStarB] using hs
        split at h
        · obtain ⟨ir', hl, h⟩ := bnd h
          split at h
          · rename_i l
            cases h
            rcases IH .l W a _ hl with ⟨l', e1, _, q⟩ | ⟨a', e1, q⟩
            · cases e1
              have e2 : (den Γ (.bq .len (.new l))).v none = bqlD .len ((den Γ l).L none) := by
                show (fun σ h => (((den Γ l).L none σ h).bind fun xs h => R.ok (xs, Gd.none) h).bind fun xs h => R.ofO h (bqV .len xs.1)) = _
                funext σ h
                unfold bqlD
                rw [R.bind_assoc]; rfl
              rw [e2]
              exact n_lenl c.fx.k (c.gl hg) (c.blt _ eg (by decide)) (q X Wx c) hs1
            · cases e1
          · cases h
        · obtain ⟨l, hl, h⟩ := bnd h
          cases h
          exact n_blt (b_len c.fx) (c.gl hg) (c.blt _ eg (by decide)) (by decide +kernel) n3 n1 hs (kArgs_ok IH _ l hl X Wx c)
      · cases h
    split at h
    · rename_i ef
      split at h
      · rename_i a
        obtain ⟨hs, h⟩ := grd_some h
        have hs : isStar a = false := by simpa using hs
        obtain ⟨ir', hl, h⟩ := bnd h
        split at h
        · rename_i l
          cases h
          rcases IH .l W a _ hl with ⟨l', e1, _, q⟩ | ⟨a', e1, q⟩
          · cases e1
            have e2 : ∀ b : Bf, (den Γ (.bq b (.new l))).v none = bqlD b ((den Γ l).L none) := fun b => by
              show (fun σ h => (((den Γ l).L none σ h).bind fun xs h => R.ok (xs, Gd.none) h).bind fun xs h => R.ofO h (bqV b xs.1)) = _
              funext σ h
              unfold bqlD
              rw [R.bind_assoc]; rfl
            rcases Bool.or_eq_true_iff.mp ef with e3 | e3
            · have e3 := beq_iff_eq.mp e3
              subst e3
              rw [if_pos (beq_self_eq_true _), e2]
              exact n_any c.fx.k c.calm (c.gl hg) (c.blt _ eg (by decide)) (q X Wx c) hs
            · have e3 := beq_iff_eq.mp e3
              subst e3
              rw [if_neg (by decide), e2]
              exact n_all c.fx.k c.calm (c.gl hg) (c.blt _ eg (by decide)) (q X Wx c) hs
          · cases e1
        · cases h
      · cases h
    split at h
    · rename_i ef
      have ef := beq_iff_eq.mp ef
      subst ef
      split at h
      · rename_i a
        obtain ⟨hs, h⟩ := grd_some h
        have hs : isStar a = false := by simpa using hs
        split at h
        · obtain ⟨ir', hl, h⟩ := bnd h
          split at h
          · rename_i l
            cases h
            rcases IH .l W a _ hl with ⟨l', e1, _, q⟩ | ⟨a', e1, q⟩
            · cases e1
              have e2 : (den Γ (.bq .tuple (.new l))).v none = bqlD .tuple ((den Γ l).L none) := by
                show (fun σ h => (((den Γ l).L none σ h).bind fun xs h => R.ok (xs, Gd.none) h).bind fun xs h => R.ofO h (bqV .tuple xs.1)) = _
                funext σ h
                unfold bqlD
                rw [R.bind_assoc]; rfl
              rw [e2]
              exact n_tupl c.fx.k (c.gl hg) (c.blt _ eg (by decide)) (q X Wx c) hs
            · cases e1
          · cases h
        · obtain ⟨l, hl, h⟩ := bnd h
          cases h
          exact n_blty (b_tuple c.fx.k) (c.gl hg) (c.blt _ eg (by decide)) (by decide +kernel) n3 n1 (by simp [hs]) (kArgs_ok IH _ l hl X Wx c)
      · cases h
    split at h
    · rename_i ef
      have ef := beq_iff_eq.mp ef
      subst ef
      split at h
      · rename_i a
        obtain ⟨hs, h⟩ := grd_some h
        obtain ⟨l, hl, h⟩ := bnd h
        cases h
        exact n_blty b_int (c.gl hg) (c.blt _ eg (by decide)) (by decide +kernel) n3 n1 hs (kArgs_ok IH _ l hl X Wx c)
      · cases h
    split at h
    · rename_i ef
      have ef := beq_iff_eq.mp ef
      subst ef
      split at h
      · rename_i a t tp
        obtain ⟨hs, h⟩ := grd_some h
        obtain ⟨ty, ht, h⟩ := bnd h
        obtain ⟨x, hx, h⟩ := bnd h
        cases h
        obtain ⟨hs, s4⟩ := ba hs
        obtain ⟨hs, s3⟩ := ba hs
        obtain ⟨s1, s2⟩ := ba hs
        obtain ⟨T, t1, t2, t3⟩ := tyB_ok ht
        obtain ⟨m1, m2, m3⟩ := okName_ok s3
        have q := n_isi (p := p) (pos := pos) (sub := Γ.sub) c.fx t1 (c.gl hg) (c.blt _ eg (by decide)) (pe_bltn (pos := tp) (c.gl s2) (c.blt _ (by simpa using s4) t3) t2 (show RelV (.ty T) (.type T) from rfl) m3 m1) (by simpa using s1) rfl (IH .v W a x hx X Wx c).v
        have e2 : (den Γ (.isi x [ty])).v none = fun σ h => ((den Γ x).v none σ h).bind fun y h => R.ofO h ((isTy Γ.sub h y ty).map PV.bl) := by
          show (fun σ h => ((den Γ x).v none σ h).bind fun y h => R.ofO h ((isTys Γ.sub h y [ty]).map PV.bl)) = _
          funext σ h
          congr 1
          funext y h
          rw [isTys1]
        rw [e2]; exact q
      · cases h
    · cases h
theorem kMeth_ok {o : PySem.Expr} {m : Str} {as : List PySem.Expr} {ir : E} {ap cp : Pos} (h : kMeth S rec W o m as ap cp = some ir) : SV Λ S Γ W (.Call (.Attribute o m ap) as [] cp) ir := fun X Wx c => by
  unfold kMeth at h
  obtain ⟨h0, h⟩ := grd_some h
  obtain ⟨hl, hb⟩ := ba h0
  have hl : (ap.endLine == cp.line) = true := hl
  split at h
  · obtain ⟨h1, h⟩ := grd_some h
    obtain ⟨hs, hlen⟩ := ba h1
    have hlen := of_decide_eq_true hlen
    obtain ⟨mi, hmi, h⟩ := bnd h
    obtain ⟨x, hx, h⟩ := bnd h
    obtain ⟨l, hl2, h⟩ := bnd h
    cases h
    have hn := c.att m mi hmi
    have few : methodCallForm (as.length + ([] : List Keyword).length) (backTo cp (starEach as X.env)) (backToKw cp (keywordEach [] X.env)) = true := by
      unfold methodCallForm
      have h1 : (backTo cp (starEach as X.env)).all (fun x => !x.1) = true := by
        have q := noStars (pos := cp) (env := X.env) hs
        rw [List.any_eq_false] at q
        exact List.all_eq_true.mpr fun y hy => by simpa using q y hy
      rw [h1]
      show (true && true && decide (as.length + 0 + 0 < 30)) = true
      simpa using hlen
    cases as with
    | nil =>
      cases hl2
      exact n_mth0 c.fx.k hn c.mtf c.pass (IH .v W o x hx X Wx c).v (base_ok hb) hl
    | cons e es => exact n_mth c.fx.k hn c.mtf c.pass (IH .v W o x hx X Wx c).v (kArgs_ok IH _ l hl2 X Wx c) hs (base_ok hb) few hl
  split at h
  · obtain ⟨em, h⟩ := grd_some h
    have em := beq_iff_eq.mp em
    subst em
    obtain ⟨x, hx, h⟩ := bnd h
    cases h
    exact n_lm0 PySem.F.slot_list_pop PySem.F.plainAttrs_list PySem.F.type_list_pop m_pop (IH .v W o x hx X Wx c).v (base_ok hb) hl
  · rename_i a h_
    obtain ⟨hs, k1⟩ := grd_some h
    have few : ((backTo cp (starEach [a] X.env)).all (fun x => !x.1) && (backToKw cp (keywordEach [] X.env)).all (fun x => x.1.isSome)
      && decide ([a].length + ([] : List Keyword).length + (if ([] : List Keyword).isEmpty then 0 else 1) < 30)) = true := by
      rw [starEach_no (stars1 hs).1]; rfl
    split at k1
    · rename_i em
      have em := beq_iff_eq.mp em
      subst em
      obtain ⟨x, hx, k1⟩ := bnd k1
      obtain ⟨l, hl2, k1⟩ := bnd k1
      cases k1
      exact n_lm PySem.F.slot_list_append PySem.F.plainAttrs_list PySem.F.type_list_append m_append (IH .v W o x hx X Wx c).v (kArgs_ok IH _ l hl2 X Wx c) (base_ok hb) hs few hl
    split at k1
    · rename_i em
      have em := beq_iff_eq.mp em
      subst em
      obtain ⟨x, hx, k1⟩ := bnd k1
      obtain ⟨l, hl2, k1⟩ := bnd k1
      cases k1
      exact n_lm PySem.F.slot_list_pop PySem.F.plainAttrs_list PySem.F.type_list_pop m_popAt (IH .v W o x hx X Wx c).v (kArgs_ok IH _ l hl2 X Wx c) (base_ok hb) hs few hl
    · cases k1
  · cases h
omit IH in
theorem mkx_ir {Ci : Nat} {x : E} (h : notStarE x = true) : (den Γ (.mkx Ci (.cons x .nil))).v none = mkxD Γ.exi Ci ((den Γ x).v none) := by
  show (fun (σ : Sg) (h : AH) => ((match (den Γ x).star with
          | true => ((den Γ x).vs none σ h).bind fun xs h => (R.ok ([] : List PV) h).bind fun vs h => R.ok (xs ++ vs) h
          | false => ((den Γ x).v none σ h).bind fun y h => (R.ok ([] : List PV) h).bind fun vs h => R.ok (y :: vs) h) : R (List PV)).bind fun vs h => (match Γ.exi Ci vs with
      | some fs => R.ok (PV.obj h.length) (h ++ [AO.exc Ci fs])
      | none => R.no)) = _
  rw [star_no h]
  funext σ h
  unfold mkxD
  cases (den Γ x).v none σ h <;> rfl
theorem kExc_ok {f : Str} {as : List PySem.Expr} {ir : E} {p pos : Pos} (h : kExc S rec W f as = some ir) (hg : W.gl f = true) (hn : okName f = true) : SV Λ S Γ W (.Call (.Name f p) as [] pos) ir := fun X Wx c => by
  obtain ⟨n1, n2, n3⟩ := okName_ok hn
  unfold kExc at h
  split at h
  · rename_i a
    split at h
    · rename_i Ci fi par ee
      obtain ⟨hs, h⟩ := grd_some h
      have hs : isStar a = false := by simpa using hs
      obtain ⟨x, hx, h⟩ := bnd h
      obtain ⟨ns, h⟩ := grd_some h
      cases h
      obtain ⟨h1, k, s, r⟩ := c.exs _ _ _ _ ee
      rw [mkx_ir ns]
      exact n_mkS s h1 r (c.gl hg) hs n1 (IH .v W a x hx X Wx c).v
    · split at h
      · rename_i Ci ee
        obtain ⟨hs, h⟩ := grd_some h
        have hs : isStar a = false := by simpa using hs
        obtain ⟨x, hx, h⟩ := bnd h
        obtain ⟨ns, h⟩ := grd_some h
        cases h
        obtain ⟨h1, h2, h3⟩ := c.exv _ _ ee
        obtain ⟨_, ⟨Ca, bmB, B, newId, initId, f1, f2, f3, f4, f5, f6, f7⟩⟩ := c.exc _ _ ee
        rw [mkx_ir ns]
        exact n_mkx c.fx.k h1 f1 (h3 _ f1) h2 f2 f3 f4 f5 (c.gl hg) hs n1 (IH .v W a x hx X Wx c).v
      · obtain ⟨g0, g5⟩ := grd_some h
        obtain ⟨g1, nf⟩ := ba g0
        obtain ⟨g2, gs⟩ := ba g1
        have ef := beq_iff_eq.mp g2
        have hs : isStar a = false := by simpa using gs
        clear h
        subst ef
        obtain ⟨l, hl, g6⟩ := bnd g5
        cases g6
        exact n_blty b_str (c.gl hg) (c.blt _ (by simpa using nf) (by decide)) (by decide +kernel) n3 n1 (by simp [hs]) (kArgs_ok IH _ l hl X Wx c)
  · rename_i a t tp
    obtain ⟨g0, g5⟩ := grd_some h
    obtain ⟨g1, s3⟩ := ba g0
    obtain ⟨g2, s2⟩ := ba g1
    obtain ⟨g3, gs⟩ := ba g2
    obtain ⟨g4, nf⟩ := ba g3
    have ef := beq_iff_eq.mp g4
    have hs : isStar a = false := by simpa using gs
    clear h
    subst ef
    obtain ⟨n, ht, g6⟩ := bnd g5
    obtain ⟨x, hx, g7⟩ := bnd g6
    cases g7
    obtain ⟨m1, m2, m3⟩ := okName_ok s3
    obtain ⟨cV, cv, k1, k2, k3, k4⟩ := c.ext _ _ ht
    have hc : PE X (.Name t tp) (tC cV) := by
      rcases k4 with k4 | ⟨k4, k5⟩
      · exact pe_glob (c.gl s2) k4 k2 m1
      · exact pe_bltn (c.gl s2) k4 k5 k2 m3 m1
    have q := n_isx (p := p) (pos := pos) (sub := Γ.sub) (t := n) c.fx.k k1 k3 (c.gl hg) (c.blt _ (by simpa using nf) (by decide)) hc hs rfl (IH .v W a x hx X Wx c).v
    have e2 : (den Γ (.isi x [.own n])).v none = fun σ h => ((den Γ x).v none σ h).bind fun y h => R.ofO h ((isTy Γ.sub h y (.own n)).map PV.bl) := by
      show (fun σ h => ((den Γ x).v none σ h).bind fun y h => R.ofO h ((isTys Γ.sub h y [.own n]).map PV.bl)) = _
      funext σ h
      congr 1
      funext y h
      rw [isTys1]
    rw [e2]; exact q
  · cases h
theorem kExcK_ok {f par : Str} {e : PySem.Expr} {ir : E} {p pos kp : Pos} (h : kExcK S rec W f par e = some ir) (hg : W.gl f = true) (hn : okName f = true) : SV Λ S Γ W (.Call (.Name f p) [] [⟨some par, e, kp⟩] pos) ir := fun X Wx c => by
  obtain ⟨n1, n2, n3⟩ := okName_ok hn
  unfold kExcK at h
  split at h
  · rename_i Ci fi q ee
    obtain ⟨hp, h⟩ := grd_some h
    have hp := beq_iff_eq.mp hp
    obtain ⟨x, hx, g5⟩ := bnd h
    obtain ⟨ns, g6⟩ := grd_some g5
    cases g6
    subst hp
    obtain ⟨h1, k, s, r⟩ := c.exs _ _ _ _ ee
    rw [mkx_ir ns]
    exact n_mkK s h1 r (c.gl hg) n1 (IH .v W e x hx X Wx c).v
  · cases h
theorem kV_ok {e : PySem.Expr} {ir : E} (h : kV S rec W e = some ir) : SV Λ S Γ W e ir := by
  unfold kV at h
  split at h
  · -- a name
    rename_i x p
    obtain ⟨hn, h⟩ := grd_some h
    obtain ⟨n1, n2, n3⟩ := okName_ok hn
    split at h
    · rename_i i ei
      cases h
      intro X Wx c
      obtain ⟨h1, h2⟩ := slot_ok c ei
      exact n_var h1 h2 n1 n2
    · obtain ⟨hg, h⟩ := grd_some h
      obtain ⟨k, hk, h⟩ := bnd h
      cases h
      intro X Wx c
      rcases c.cst x k hk with e0 | ⟨q, v, u, e0, h1, h2, h3⟩
      · have e2 : (den Γ (.cst k)).v none = fun _ _ => R.no := by
          show (fun (_ : Sg) h => R.ofO h (Γ.cst k)) = _
          rw [e0]; rfl
        rw [e2]
        exact pv_plain ⟨fun pins s σ H Q I ⟨_, _, _, _, _, post⟩ => post.elim⟩ fun _ => rfl
      · have e2 : (den Γ (.cst k)).v none = fun _ h => R.ok q h := by
          show (fun (_ : Sg) h => R.ofO h (Γ.cst k)) = _
          rw [e0]; rfl
        rw [e2]
        exact n_glob (c.gl hg) h1 h2 h3 n1
  · rename_i k j p
    obtain ⟨hk, h⟩ := grd_some h
    obtain ⟨q, hq, h⟩ := bnd h
    cases h
    exact fun X Wx c => n_con (j := true) hq fun x e => by
      subst e
      obtain ⟨k1, k2⟩ := ba hk
      exact ⟨k1, of_decide_eq_true k2⟩
  · rename_i es k p
    obtain ⟨l, hl, h⟩ := bnd h
    cases h
    exact fun X Wx c => n_tup (kArgs_ok IH es l hl X Wx c)
  · obtain ⟨x, hx, h⟩ := bnd h
    cases h
    exact fun X Wx c => n_neg (IH .v W _ x hx X Wx c).v
  · obtain ⟨x, hx, h⟩ := bnd h
    cases h
    exact fun X Wx c => n_not (IH .v W _ x hx X Wx c)
  · exact fun X Wx c => (kB_ok IH true _ ir h X Wx c).pv
  · exact fun X Wx c => (kB_ok IH false _ ir h X Wx c).pv
  · obtain ⟨x, hx, h⟩ := bnd h
    obtain ⟨y, hy, h⟩ := bnd h
    obtain ⟨z, hz, h⟩ := bnd h
    cases h
    exact fun X Wx c => n_ite (IH .v W _ x hx X Wx c) (IH .v W _ y hy X Wx c) (IH .v W _ z hz X Wx c)
  · -- one comparison
    rename_i a op b p
    obtain ⟨o, ho, h⟩ := bnd h
    obtain ⟨hm, h⟩ := grd_some h
    have hm : behindInMarks op b = false := by simpa using hm
    split at h
    · obtain ⟨x, hx, h⟩ := bnd h
      obtain ⟨y, hy, h⟩ := bnd h
      cases h
      intro X Wx c
      have right : PE X b (tG Λ Wx (RLs Λ) ((den Γ y).L none)) := by
        rcases IH .l W b y hy with ⟨l, e1, _, q⟩ | ⟨b', e1, q⟩
        · subst e1; exact pe_weak (q X Wx c)
        · subst e1; exact l_val (q X Wx c).v
      rcases IH .l W a x hx with ⟨l, e1, _, q⟩ | ⟨a', e1, q⟩
      · subst e1; exact n_cq c.fx ho (q X Wx c) right hm
      · subst e1; exact n_cqv c.fx ho (q X Wx c).v right hm
    · obtain ⟨x, hx, h⟩ := bnd h
      obtain ⟨y, hy, h⟩ := bnd h
      cases h
      exact fun X Wx c => n_cmp c.fx ho (IH .v W _ x hx X Wx c).v (IH .v W _ y hy X Wx c).v hm
  · rename_i a o1 o2 b c' p
    obtain ⟨p1, h1, h⟩ := bnd h
    obtain ⟨p2, h2, h⟩ := bnd h
    obtain ⟨hm, h⟩ := grd_some h
    obtain ⟨x, hx, h⟩ := bnd h
    obtain ⟨y, hy, h⟩ := bnd h
    obtain ⟨z, hz, h⟩ := bnd h
    cases h
    exact fun X Wx c => n_chn c.fx h1 h2 (IH .v W _ x hx X Wx c).v (IH .v W _ y hy X Wx c).v (IH .v W _ z hz X Wx c).v (by simpa using hm)
  · -- a subscript
    rename_i a b p
    split at h
    · obtain ⟨x, hx, h⟩ := bnd h
      obtain ⟨y, hy, h⟩ := bnd h
      obtain ⟨z, hz, h⟩ := bnd h
      cases h
      exact fun X Wx c => n_slc c.fx.k (IH .v W _ x hx X Wx c).v (kPart_ok IH hy X Wx c) (kPart_ok IH hz X Wx c)
    · obtain ⟨hs, h⟩ := grd_some h
      have hs : isSlice b = false := by simpa using hs
      split at h
      · obtain ⟨x, hx, h⟩ := bnd h
        split at h
        · rename_i l
          obtain ⟨y, hy, h⟩ := bnd h
          cases h
          intro X Wx c
          rcases IH .l W a _ hx with ⟨l', e1, _, q⟩ | ⟨a', e1, q⟩
          · cases e1; exact n_ixn (q X Wx c) (IH .v W _ y hy X Wx c).v (plainIx_of hs)
          · cases e1
        · cases h
      · obtain ⟨x, hx, h⟩ := bnd h
        obtain ⟨y, hy, h⟩ := bnd h
        cases h
        exact fun X Wx c => n_ix c.fx (IH .v W _ x hx X Wx c).v (IH .v W _ y hy X Wx c).v (plainIx_of hs)
  · obtain ⟨hg, h⟩ := grd_some h
    obtain ⟨g1, g2⟩ := ba hg
    split at h
    · exact (kNew_ok IH h).1
    · split at h
      · rename_i ee
        cases h
        exact kExc_ok IH ee g1 g2
      · exact kCall_ok IH h g1 g2
  · obtain ⟨hg, h⟩ := grd_some h
    obtain ⟨g1, g2⟩ := ba hg
    exact kExcK_ok IH h g1 g2
  · rename_i o f p
    obtain ⟨hb, h⟩ := grd_some h
    obtain ⟨i, hi, h⟩ := bnd h
    obtain ⟨x, hx, h⟩ := bnd h
    cases h
    exact fun X Wx c => n_fld c.fx.k (c.att f i hi) (IH .v W o x hx X Wx c).v (base_ok hb)
  · exact kMeth_ok IH h
  · exact (kNew_ok IH h).1
  · exact (kNew_ok IH h).1
  · rename_i a o b p
    split at h
    · exact (kNew_ok IH h).1
    · obtain ⟨o', ho, h⟩ := bnd h
      obtain ⟨x, hx, h⟩ := bnd h
      obtain ⟨y, hy, h⟩ := bnd h
      cases h
      exact fun X Wx c => pv_plain (n_bin c.fx.k ho (IH .v W _ x hx X Wx c).v (IH .v W _ y hy X Wx c).v) fun _ => rfl
  · cases h
/-! ### fresh lists, walks, targets -/
theorem kVal_ok {e : PySem.Expr} {ir : E} (h : kVal rec W e = some ir) : ∃ a, ir = .val a ∧ SV Λ S Γ W e a := by
  obtain ⟨a, ha, h⟩ := bnd h
  cases h
  exact ⟨a, rfl, IH .v W e a ha⟩
theorem kIfs_ok {ifs : List PySem.Expr} {ir : E} (h : kIfs rec W ifs = some ir) : ∀ X Wx, Cw Λ S Γ W X Wx → PTs X ifs (tG Λ Wx (fun _ _ b b' => b = b') ((den Γ ir).T none)) := fun X Wx c => by
  unfold kIfs at h
  split at h
  · cases h
    refine ⟨fun pins s σ H Q I ⟨ρ, sg, ah, r, rs, post⟩ => pts_nil.run pins s σ H Q I ?_⟩
    exact post ρ H true Stp.refl r rfl
  · rename_i e
    obtain ⟨x, hx, h⟩ := bnd h
    cases h
    have q := pts_one (IH .v W e x hx X Wx c).t
    refine ⟨fun pins s σ H Q I h => q.run pins s σ H Q I ?_⟩
    obtain ⟨ρ, sg, ah, r, rs, post⟩ := h
    refine ⟨ρ, sg, ah, r, rs, (Post.bind post).imp fun v H1 ⟨ρ1, p, ah1, s1, r1, rv, _, q1⟩ => ?_⟩
    cases p with
    | bl b =>
      cases rv
      cases b with
      | true => exact ⟨true, rfl, q1 ρ1 H1 true Stp.refl r1 rfl⟩
      | false => exact ⟨false, rfl, q1 ρ1 H1 false Stp.refl r1 rfl⟩
    | _ => exact q1.elim
  · cases h
theorem kLc_ok {elt tg it : PySem.Expr} {ifs : List PySem.Expr} {scope : Scope} {ir : E} {pos : Pos} (h : kLc rec W elt tg it ifs scope = some ir) : SL Λ S Γ W (.ListComp elt [⟨tg, it, ifs, 0⟩] scope pos) ir := by
  unfold kLc at h
  obtain ⟨h0, h⟩ := grd_some h
  obtain ⟨b1, b2⟩ := ba h0
  obtain ⟨q, hq, h⟩ := bnd h
  obtain ⟨x, hx, h⟩ := bnd h
  obtain ⟨t, ht, h⟩ := bnd h
  obtain ⟨cc, hc, h⟩ := bnd h
  obtain ⟨h1, h⟩ := grd_some h
  obtain ⟨p1, p2⟩ := ba h1
  cases h
  refine .inl ⟨_, rfl, fun _ _ => rfl, fun X Wx c => ?_⟩
  refine n_lc (sl := slE t) (own := ownsOf W.N scope) c.calm c.nd (IH .q W it q hq X Wx tg c) ?_ ?_ ?_ ?_ ?_ (foldSet_of (by simpa using b2))
  · rw [c.N, c.sc]; exact blkOk_of b1
  · intro i hi
    have := List.all_eq_true.mp p2 i hi
    simpa using this
  · exact fun s H C cl fp => IH .t (W.blk scope) tg t ht _ _ (c.blk s H scope C cl fp)
  · exact fun s H C cl fp => kIfs_ok IH hc _ _ (c.blk s H scope C cl fp)
  · exact fun s H C cl fp => (IH .v (W.blk scope) elt x hx _ _ (c.blk s H scope C cl fp)).v
theorem kL_ok {e : PySem.Expr} {ir : E} (h : kL S rec W e = some ir) : SL Λ S Γ W e ir := by
  unfold kL at h
  split at h
  · rename_i es p
    obtain ⟨l, hl, h⟩ := bnd h
    cases h
    exact .inl ⟨_, rfl, fun _ _ => rfl, fun X Wx c => l_lst (kArgs_ok IH es l hl X Wx c)⟩
  · exact kLc_ok IH h
  · rename_i a b p
    split at h
    · obtain ⟨x, hx, h⟩ := bnd h
      obtain ⟨y, hy, h⟩ := bnd h
      split at h
      · rename_i x y _ _
        cases h
        rcases IH .l W a _ hx with ⟨l, e1, _, q⟩ | ⟨a', e1, q⟩
        · cases e1
          rcases IH .l W b _ hy with ⟨l2, e2, _, q2⟩ | ⟨b', e2, q2⟩
          · cases e2
            exact .inl ⟨_, rfl, fun _ _ => rfl, fun X Wx c => l_add (q X Wx c) (q2 X Wx c)⟩
          · cases e2
        · cases e1
      · cases h
    · exact .inr (kVal_ok IH h)
  · rename_i a b p
    split at h
    · obtain ⟨x, hx, h⟩ := bnd h
      obtain ⟨y, hy, h⟩ := bnd h
      split at h
      · rename_i x _
        cases h
        rcases IH .l W a _ hx with ⟨l, e1, _, q⟩ | ⟨a', e1, q⟩
        · cases e1
          exact .inl ⟨_, rfl, fun _ _ => rfl, fun X Wx c => l_mul (q X Wx c) (IH .v W b y hy X Wx c).v⟩
        · cases e1
      · cases h
    · exact .inr (kVal_ok IH h)
  · rename_i f p as pos
    split at h
    · rename_i ef
      have ef := beq_iff_eq.mp ef
      subst ef
      obtain ⟨h0, h⟩ := grd_some h
      obtain ⟨h0, nf⟩ := ba h0
      obtain ⟨g1, g2⟩ := ba h0
      have nf : S.fn "list" = none := by simpa using nf
      split at h
      · obtain ⟨x, hx, h⟩ := bnd h
        cases h
        exact .inl ⟨_, rfl, fun _ _ => rfl, fun X Wx c => l_list c.fx.k (c.gl g1) (c.blt _ nf (by decide)) (IH .v W _ x hx X Wx c).v (stars1 g2).1⟩
      · cases h
    · split at h
      · cases h
      · exact .inr (kVal_ok IH h)
  · split at h
    · cases h
    · exact .inr (kVal_ok IH h)
theorem kQ_ok {e : PySem.Expr} {ir : E} (h : kQ S rec W e = some ir) : SQ Λ S Γ W e ir := by
  unfold kQ at h
  split at h
  · rename_i f p as pos
    split at h
    · rename_i ef
      have ef := beq_iff_eq.mp ef
      subst ef
      obtain ⟨h0, h⟩ := grd_some h
      obtain ⟨h0, nf⟩ := ba h0
      obtain ⟨g1, g2⟩ := ba h0
      have nf : S.fn "range" = none := by simpa using nf
      split at h
      · obtain ⟨x, hx, h⟩ := bnd h
        cases h
        exact fun X Wx tg c => i_rng (c.gl g1) (c.blt _ nf (by decide)) (IH .v W _ x hx X Wx c).v (stars1 g2).1
      · obtain ⟨x, hx, h⟩ := bnd h
        obtain ⟨y, hy, h⟩ := bnd h
        cases h
        exact fun X Wx tg c => i_rng2 (c.gl g1) (c.blt _ nf (by decide)) (IH .v W _ x hx X Wx c).v (IH .v W _ y hy X Wx c).v (stars1 g2).1 (stars1 (stars1 g2).2).1
      · cases h
    · split at h
      · cases h
      · obtain ⟨a, e1, q⟩ := kVal_ok IH h
        subst e1
        exact fun X Wx tg c => i_val c.fx.k (q X Wx c).v
  · split at h
    · obtain ⟨_, l, e1, q⟩ := kNew_ok IH h
      subst e1
      exact fun X Wx tg c => i_new c.fx.k (q X Wx c)
    · obtain ⟨a, e1, q⟩ := kVal_ok IH h
      subst e1
      exact fun X Wx tg c => i_val c.fx.k (q X Wx c).v
end
/-! ### targets that only set slots raise nothing -/
def NoEx {α : Type} (x : R α) : Prop := ∀ c fs h, x ≠ .ex c fs h
theorem pureT_noex {Γ : G} : ∀ (ir : E), pureT ir = true → (∀ v σ h, NoEx ((den Γ ir).A v none σ h)) ∧ ∀ vs σ h, NoEx ((den Γ ir).As vs none σ h)
  | .var i, _ => ⟨fun v σ h c fs h' e => (by cases e), fun vs σ h c fs h' e => (by cases e)⟩
  | .nil, _ => ⟨fun v σ h c fs h' e => (by cases e), fun vs σ h c fs h' e => (by cases vs <;> cases e)⟩
  | .tup es, p => by
    have ih := (pureT_noex (Γ := Γ) es p).2
    refine ⟨fun v σ h c fs h' e => ?_, fun vs σ h c fs h' e => (by cases e)⟩
    have e : (match v with
        | .tup vs => if (vs.length == lenE es) = true then (den Γ es).As vs none σ h else .no
        | .obj n => (match lsOnly h n with
          | some vs => if (vs.length == lenE es) = true then (den Γ es).As vs none σ h else .no
          | none => .no)
        | _ => .no) = R.ex c fs h' := e
    split at e
    · split at e
      · exact ih _ _ _ _ _ _ e
      · cases e
    · split at e
      · split at e
        · exact ih _ _ _ _ _ _ e
        · cases e
      · cases e
    · cases e
  | .cons a b, p => by
    obtain ⟨p1, p2⟩ := ba (show (pureT a && pureT b) = true from p)
    have ih1 := (pureT_noex (Γ := Γ) a p1).1
    have ih2 := (pureT_noex (Γ := Γ) b p2).2
    refine ⟨fun v σ h c fs h' e => (by cases e), fun vs σ h c fs h' e => ?_⟩
    cases vs with
    | nil => cases e
    | cons v vs =>
      have e : ((den Γ a).A v none σ h).bind (fun σ h => (den Γ b).As vs none σ h) = R.ex c fs h' := e
      cases e1 : (den Γ a).A v none σ h with
      | ok σ1 h1 => rw [e1] at e; exact ih2 _ _ _ _ _ _ e
      | ex c1 fs1 h1 => exact ih1 _ _ _ _ _ _ e1
      | no => rw [e1] at e; cases e
section
variable {Λ : Ln} {S : Stx} {Γ : G} {W : Wk} {X : Cx} {Wx : WX} {rec : Rec}
theorem pg_lift {tg : PySem.Expr} {sl : List Nat} {D : PV → Sg → AH → R Sg} (h : PG X tg (tT Λ Wf sl D)) (n : ∀ v σ h, NoEx (D v σ h)) : PG X tg (tT Λ Wx sl D) :=
  h.mono fun v σV H Q ⟨ρ, p, σ, ah, r, rs, rp, post⟩ => ⟨ρ, p, σ, ah, r, rs, rp, by
    cases e : D p σ ah with
    | ok a ah1 => rw [e] at post; exact post
    | ex c fs ah1 => exact absurd e (n _ _ _ _ _ _)
    | no => rw [e] at post; exact post⟩
theorem assignEach_no {e : PySem.Expr} {es : List PySem.Expr} {env : Env} (h : isStar e = false) : assignEach (e :: es) env = (false, assign e env) :: assignEach es env := by
  cases e <;> first | rfl | cases h
theorem kTs_ok (IH : ∀ pl W e ir, rec pl W e = some ir → Snd Λ S Γ pl W e ir) : ∀ (es : List PySem.Expr) (l : E), kTs rec W es = some l → ∀ X Wx, Cw Λ S Γ W X Wx → PGs X es (tTs Λ Wf (slE l) fun vs σ h => (den Γ l).As vs none σ h) ∧ (assignEach es X.env).length = lenE l ∧ (assignEach es X.env).findIdx? (·.1) = none
  | [], l, h, X, Wx, c => by
    cases h
    exact ⟨t_nil, rfl, rfl⟩
  | e :: es, l, h, X, Wx, c => by
    unfold kTs at h
    obtain ⟨hs, h⟩ := grd_some h
    have hs : isStar e = false := by simpa using hs
    obtain ⟨a, ha, h⟩ := bnd h
    obtain ⟨r, hr, h⟩ := bnd h
    cases h
    obtain ⟨q1, q2, q3⟩ := kTs_ok IH es r hr X Wx c
    refine ⟨t_cons (IH .t W e a ha X Wf c.f) q1 (by rw [assignEach_no hs]; rfl), ?_, ?_⟩
    · rw [assignEach_no hs, List.length_cons, q2]; rfl
    · rw [assignEach_no hs, List.findIdx?_cons]
      simp only [Bool.false_eq_true, if_false]
      rw [q3]; rfl
theorem kT_ok (IH : ∀ pl W e ir, rec pl W e = some ir → Snd Λ S Γ pl W e ir) {e : PySem.Expr} {ir : E} (h : kT rec W e = some ir) : ST Λ S Γ W e ir := by
  unfold kT at h
  split at h
  · obtain ⟨i, hi, h⟩ := bnd h
    cases h
    intro X Wx c
    obtain ⟨h1, h2, h3⟩ := tgt_ok c hi
    exact t_name c.nd h1 h2 h3
  · rename_i es k p
    obtain ⟨l, hl, h⟩ := bnd h
    obtain ⟨pt, h⟩ := grd_some h
    cases h
    intro X Wx c
    obtain ⟨q1, q2, q3⟩ := kTs_ok IH es l hl X Wx c
    exact pg_lift (t_tup c.fx.k c.calm q1 q2 q3) (pureT_noex (Γ := Γ) (.tup l) pt).1
  · rename_i a b p
    obtain ⟨hs, h⟩ := grd_some h
    obtain ⟨x, hx, h⟩ := bnd h
    obtain ⟨y, hy, h⟩ := bnd h
    cases h
    intro X Wx c
    obtain ⟨s1, s2⟩ := ba hs
    exact t_sub c.fx (IH .v W a x hx X Wx c).v (IH .v W b y hy X Wx c).v (by
      intro v
      cases b <;> first | rfl | (cases s1; done))
  · cases h
theorem kStep_ok (IH : ∀ pl W e ir, rec pl W e = some ir → Snd Λ S Γ pl W e ir) : ∀ pl W e ir, kStep S rec pl W e = some ir → Snd Λ S Γ pl W e ir := fun pl W e ir h => by
  cases pl with
  | v => exact kV_ok IH h
  | l => exact kL_ok IH h
  | q => exact kQ_ok IH h
  | t => exact kT_ok IH h
  | d => trivial
theorem kE_ok : ∀ (n : Nat) (pl : Pl) (W : Wk) (e : PySem.Expr) (ir : E), kE S n pl W e = some ir → Snd Λ S Γ pl W e ir
  | 0, _, _, _, _, h => by cases h
  | n + 1, pl, W, e, ir, h => kStep_ok (kE_ok n) pl W e ir h
end
end NI
end

section
set_option Elab.async false
set_option autoImplicit false
set_option linter.all false
set_option maxRecDepth 100000
set_option maxHeartbeats 4000000
/-! The compile step for statements, and its soundness. -/
namespace NI
open PySem PySem.Spec PyProof.Rows L2
def isComp : PySem.Expr → Bool
  | .ListComp _ _ _ _ => true
  | .SetComp _ _ _ _ => true
  | .DictComp _ _ _ _ _ => true
  | _ => false
theorem sw_no {e : PySem.Expr} {t : Option PySem.Expr} {l : Nat} {env : Env} (h : isComp e = false) : swapsWith e t l env = pure false := by
  cases e <;> first | rfl | cases h
theorem sw_other {e t : PySem.Expr} {l : Nat} {env : Env} (h : (match t with | .Name _ _ => false | _ => true) = true) : swapsWith e (some t) l env = pure false := by
  cases t <;> first | (cases h; done) | (cases e <;> rfl)
/-- a comprehension that goes straight into a local -/
def swB (sc scope : Scope) (x : Str) (p q : Pos) : Bool := sc.kind == .function && sc.names.lookup x == some .local && p.line == q.line && !(scope.names.any fun (n, k) => n == x && (k == .local || k == .cell))
/-- a, b = u, v with plain locals -/
def parB (W : Wk) (x y : Str) (px py : Pos) (a b : PySem.Expr) : Bool := W.sc.kind == .function && W.sc.names.lookup x == some .local && W.sc.names.lookup y == some .local && py.line == px.line && !(x == y) && !isStar a && !isStar b &&
  !([a, b].all (foldedForSure 8)) && !([a, b].all (constantsAlone 8))
theorem sw_par {W : Wk} {x y : Str} {px py pt : Pos} {a b : PySem.Expr} {kt k2 : Nat} {pt2 : Pos} {env : Env} (he : env.scope = W.sc) (h : parB W x y px py a b = true) :
    swappedStores [.Tuple [.Name x px, .Name y py] kt pt] (.Tuple [a, b] k2 pt2) env = pure (some [x, y]) := by
  unfold parB at h
  obtain ⟨h, h9⟩ := ba h
  obtain ⟨h, h8⟩ := ba h
  obtain ⟨h, h7⟩ := ba h
  obtain ⟨h, h6⟩ := ba h
  obtain ⟨h, h5⟩ := ba h
  obtain ⟨h, h4⟩ := ba h
  obtain ⟨h, h3⟩ := ba h
  obtain ⟨h1, h2⟩ := ba h
  have k1 : env.kindOf x = some .local := by unfold Env.kindOf; rw [he]; exact beq_iff_eq.mp h2
  have k2 : env.kindOf y = some .local := by unfold Env.kindOf; rw [he]; exact beq_iff_eq.mp h3
  have kb : env.blockKind = .function := by unfold Env.blockKind; rw [he, beq_iff_eq.mp h1]; rfl
  have ne : ¬ x = y := fun e => by rw [e] at h5; simp at h5
  have st : ([a, b].any fun | .Starred .. => true | _ => false) = false := by
    have s1 : isStar a = false := by simpa using h6
    have s2 : isStar b = false := by simpa using h7
    cases a <;> first | (cases s1; done) | (cases b <;> first | rfl | (cases s2; done))
  have nt : ∀ b : Bool, (!b) = true → b = false := fun b h => by cases b <;> first | rfl | cases h
  have h8 : [a, b].all (foldedForSure 8) = false := nt _ h8
  have h9 : [a, b].all (constantsAlone 8) = false := nt _ h9
  have ln : (py.line == px.line) = true := h4
  unfold swappedStores
  simp only [List.length_cons, List.length_nil, kb, st, h8, h9, List.filterMap_cons, List.filterMap_nil, k1, k2, List.head?_cons, Option.map_some, Option.getD_some, Expr.pos, ln, beq_self_eq_true, Bool.and_self, if_true]
  simp [List.eraseDups_cons, ne, Ne.symm ne]
  have s1 : isStar a = false := nt _ h6
  have s2 : isStar b = false := nt _ h7
  intro z
  exfalso
  rcases z with z | z
  · cases a <;> first | (cases s1; done) | cases z
  · cases b <;> first | (cases s2; done) | cases z
section
variable (S : Stx) (fe : Nat)
def stuckS : NI.S := .expr .nil
def kAsg (W : Wk) (t e : PySem.Expr) (pos : Pos) : Option NI.S := match t with
  | .Name x p => (match e with
    | .ListComp elt [⟨tg, it, ifs, 0⟩] scope q => (match swB W.sc scope x p q with
      | true => (ixS x W.N).bind fun i => (kLc (kE S fe) W elt tg it ifs scope).bind fun ir => some (.asg (.var i) ir)
      | false => none)
    | e => grd (!isComp e) ((W.tgt x).bind fun i => (kE S fe .v W e).bind fun ir => some (.asg (.var i) ir)))
  | .Tuple ts kt pt => (match e with
    | .Tuple vs _ _ => (match ts, vs with
      | [.Name x px, .Name y py], [a, b] => grd (parB W x y px py a b) ((ixS x W.N).bind fun i => (ixS y W.N).bind fun j => (kArgs (kE S fe) W [a, b]).bind fun l => some (.par [i, j] l))
      | _, _ => none)
    | e => (kE S fe .t W (.Tuple ts kt pt)).bind fun t => (kE S fe .v W e).bind fun ir => some (.asg t ir))
  | .Subscript a b p => (kE S fe .t W (.Subscript a b p)).bind fun t => (kE S fe .v W e).bind fun ir => some (.asg t ir)
  | .Attribute o f _ => grd (kMeth.baseOk o) ((atS f S.attrs).bind fun i => (kE S fe .v W o).bind fun x => (kE S fe .v W e).bind fun ir => some (.asg (.fld x i) ir))
  | _ => none
abbrev RecS := Wk → List Stmt → Option NI.S
def kSt (rec : RecS) (W : Wk) (s : Stmt) : Option NI.S := match s with
  | .Pass _ => some .skip
  | .Break _ => some .brk
  | .Continue _ => some .cnt
  | .Return none _ => some (.ret (.con .non))
  | .Return (some e) _ => (kE S fe .v W e).bind fun ir => some (.ret ir)
  | .Expr e _ => (match e with
    | .Constant (.str _) _ _ => some .skip
    | e => grd (!isComp e) ((kE S fe .v W e).bind fun ir => some (.expr ir)))
  | .Assign [t] e pos => kAsg S fe W t e pos
  | .Raise (some (.Call (.Name x _) [.Constant (.str _) _ _] [] _)) none _ => grd (W.gl x && okName x) ((S.exc x).bind fun C => some (.raise C .nil))
  | .While c b [] _ => (kE S fe .v W c).bind fun c => (rec W b).bind fun b => some (.whl c b)
  | .AugAssign (.Name x _) op e _ => (cBo op).bind fun o => (W.tgt x).bind fun i => (kE S fe .v W e).bind fun ir => some (.aug i o ir)
  | .AugAssign (.Attribute a f _) op e _ => grd (kMeth.baseOk a) ((cBo op).bind fun o => (atS f S.attrs).bind fun i => (kE S fe .v W a).bind fun x => (kE S fe .v W e).bind fun ir => some (.augf x i o ir))
  | .If c a b _ => (kE S fe .v W c).bind fun c => (rec W a).bind fun a => (rec W b).bind fun b => some (.ite c a b)
  | .For t i b [] _ => grd (!isSetE i) ((kE S fe .t W t).bind fun t => (kE S fe .q W i).bind fun i => (rec W b).bind fun b => some (.for_ t i b))
  | _ => none
def kGo (rec : RecS) (W : Wk) : List Stmt → Option NI.S
  | [] => some .skip
  | [s] => some ((kSt S fe rec W s).getD stuckS)
  | s :: r => (kGo rec W r).bind fun b => some (.seq ((kSt S fe rec W s).getD stuckS) b)
def kSs : Nat → RecS
  | 0 => fun _ _ => none
  | n + 1 => fun W ss => kGo S fe (kSs n) W ss
end
section
variable {Λ : Ln} {S : Stx} {Γ : G} {W : Wk} {X : Cx} {Wx : WX} {fe : Nat}
def SS (Λ : Ln) (S : Stx) (Γ : G) (W : Wk) (ss : List Stmt) (ir : NI.S) : Prop := ∀ X Wx, Cw Λ S Γ W X Wx → PassesOwn (model X.prog X.w) X.A X.env X.xe ∧ Takes X Wx → PSs X ss (tY Λ Wx ((dens Γ ir).r none))
def S1 (Λ : Ln) (S : Stx) (Γ : G) (W : Wk) (s : Stmt) (ir : NI.S) : Prop := ∀ X Wx, Cw Λ S Γ W X Wx → PassesOwn (model X.prog X.w) X.A X.env X.xe ∧ Takes X Wx → PS X s (tY Λ Wx ((dens Γ ir).r none))
theorem stuck_ok {s : Stmt} : S1 Λ S Γ W s stuckS := fun X Wx c po => ⟨fun pins s σ H D I ⟨ρ, sg, ah, r, rs, post⟩ => post.elim⟩
theorem lcIr {l : E} : (den Γ (.new l)).v none = newD ((den Γ l).L none) := rfl
theorem kAsg_ok {t e : PySem.Expr} {pos : Pos} {ir : NI.S} (h : kAsg S fe W t e pos = some ir) : S1 Λ S Γ W (.Assign [t] e pos) ir := by
  have IH := kE_ok (Λ := Λ) (S := S) (Γ := Γ) fe
  unfold kAsg at h
  split at h
  · rename_i x p
    split at h
    · rename_i elt tg it ifs scope q
      split at h
      · rename_i sw
        obtain ⟨i, hi, h⟩ := bnd h
        obtain ⟨ir', hl, h⟩ := bnd h
        cases h
        obtain ⟨sw, s4⟩ := ba sw
        obtain ⟨sw, s3⟩ := ba sw
        obtain ⟨s1, s2⟩ := ba sw
        unfold kLc at hl
        obtain ⟨h0, h⟩ := grd_some hl
        obtain ⟨b1, b2⟩ := ba h0
        obtain ⟨qi, hq, h⟩ := bnd h
        obtain ⟨xe, hx, h⟩ := bnd h
        obtain ⟨te, ht, h⟩ := bnd h
        obtain ⟨cc, hc, h⟩ := bnd h
        obtain ⟨h1, h⟩ := grd_some h
        obtain ⟨p1, p2⟩ := ba h1
        cases h
        intro X Wx c po
        have hyl : X.env.scope.names.lookup x = some .local := by rw [c.sc]; exact beq_iff_eq.mp s2
        refine y_setLc (sl := slE te) (own := ownsOf W.N scope) c.calm c.nd (by rw [c.N]; exact ixS_at hi) hyl ?_ (IH .q W it qi hq X Wx tg c) ?_ ?_ ?_ ?_ ?_ (foldSet_of (by simpa using b2))
        · exact sw_true (by rw [c.sc]; exact beq_iff_eq.mp s1) hyl s3 (by simpa using s4)
        · rw [c.N, c.sc]; exact blkOk_of b1
        · intro i hi
          have := List.all_eq_true.mp p2 i hi
          simpa using this
        · exact fun s H C cl fp => IH .t (W.blk scope) tg te ht _ _ (c.blk s H scope C cl fp)
        · exact fun s H C cl fp => kIfs_ok IH hc _ _ (c.blk s H scope C cl fp)
        · exact fun s H C cl fp => (IH .v (W.blk scope) elt xe hx _ _ (c.blk s H scope C cl fp)).v
      · cases h
    · obtain ⟨hc, h⟩ := grd_some h
      obtain ⟨i, hi, h⟩ := bnd h
      obtain ⟨ir', hl, h⟩ := bnd h
      cases h
      intro X Wx c po
      obtain ⟨h1, h2, h3⟩ := tgt_ok c hi
      exact y_set c.nd h1 h2 h3 (IH .v W _ ir' hl X Wx c).v (sw_no (by simpa using hc))
  · rename_i ts kt pt
    split at h
    · split at h
      · rename_i vs k2 p2 x px y py a b
        obtain ⟨hp, h⟩ := grd_some h
        obtain ⟨i, hi, h⟩ := bnd h
        obtain ⟨j, hj, h⟩ := bnd h
        obtain ⟨l, hl, h⟩ := bnd h
        cases h
        intro X Wx c po
        have hxl : X.env.scope.names.lookup x = some .local := by
          rw [c.sc]; unfold parB at hp; simp only [Bool.and_eq_true, beq_iff_eq] at hp; exact hp.1.1.1.1.1.1.1.2
        have hyl : X.env.scope.names.lookup y = some .local := by
          rw [c.sc]; unfold parB at hp; simp only [Bool.and_eq_true, beq_iff_eq] at hp; exact hp.1.1.1.1.1.1.2
        have hne : ¬ x = y := by
          unfold parB at hp; simp only [Bool.and_eq_true, Bool.not_eq_true', beq_eq_false_iff_ne] at hp; exact hp.1.1.1.1.2
        have a1 : X.N[i]? = some x := by rw [c.N]; exact ixS_at hi
        have a2 : X.N[j]? = some y := by rw [c.N]; exact ixS_at hj
        have hij : i ≠ j := fun e => by subst e; rw [a1] at a2; exact hne (Option.some.inj a2)
        refine (ps_par c.calm c.nd a1 a2 hij hxl hyl (kArgs_ok IH _ l hl X Wx c) (sw_par c.sc hp)).mono fun D σV H ⟨ρ, σ, ah, r, rs, post⟩ => ?_
        refine ⟨ρ, σ, ah, r, rs, (Post.to r rs post).imp fun us H1 ⟨ρ1, ps, ah1, s1, r1, rs1, rp, q⟩ => ?_⟩
        have q : PostY Λ Wx ρ1 H1 (match setAll σ [i, j] ps with
          | some σ => .nx σ ah1
          | none => .no) D := q
        cases rp with
        | nil => exact q.elim
        | cons r1' t1 =>
          cases t1 with
          | nil => exact q.elim
          | cons r2' t2 =>
            cases t2 with
            | cons _ _ => exact q.elim
            | nil => exact ⟨_, _, rfl, q ρ1 H1 _ Stp.refl r1 ((rs1.set r1' i).set r2' j)⟩
      · cases h
    · rename_i ne
      obtain ⟨t, ht, h⟩ := bnd h
      obtain ⟨ir', hl, h⟩ := bnd h
      cases h
      intro X Wx c po
      refine y_asg (IH .v W _ ir' hl X Wx c).v (IH .t W _ t ht X Wx c) (show swapsWith e (some (.Tuple ts kt pt)) pos.line X.env = pure false from sw_other rfl) ?_ rfl
      cases e <;> first | rfl | exact absurd rfl (ne _ _ _)
  · rename_i a b p
    obtain ⟨t, ht, h⟩ := bnd h
    obtain ⟨ir', hl, h⟩ := bnd h
    cases h
    intro X Wx c po
    exact y_asg (IH .v W _ ir' hl X Wx c).v (IH .t W _ t ht X Wx c) (show swapsWith e (some (.Subscript a b p)) pos.line X.env = pure false from sw_other rfl) (by cases e <;> rfl) rfl
  · obtain ⟨hb, h⟩ := grd_some h
    obtain ⟨i, hi, h⟩ := bnd h
    obtain ⟨x, hx, h⟩ := bnd h
    obtain ⟨ir', hl, h⟩ := bnd h
    cases h
    exact fun X Wx c po => y_fld c.fx.k (c.att _ i hi) c.naf (IH .v W _ x hx X Wx c).v (IH .v W _ ir' hl X Wx c).v (sw_other rfl)
  · cases h
theorem kSt_ok {rec : RecS} (IS : ∀ W ss ir, rec W ss = some ir → SS Λ S Γ W ss ir) {s : Stmt} {ir : NI.S} (h : kSt S fe rec W s = some ir) : S1 Λ S Γ W s ir := by
  have IH := kE_ok (Λ := Λ) (S := S) (Γ := Γ) fe
  unfold kSt at h
  split at h
  · cases h; exact fun X Wx c po => y_pass
  · cases h; exact fun X Wx c po => y_brk
  · cases h; exact fun X Wx c po => y_cnt
  · cases h; exact fun X Wx c po => y_retN
  · obtain ⟨ir', hl, h⟩ := bnd h
    cases h
    exact fun X Wx c po => y_ret (IH .v W _ ir' hl X Wx c).v
  · split at h
    · cases h; exact fun X Wx c po => y_doc
    · obtain ⟨hc, h⟩ := grd_some h
      obtain ⟨ir', hl, h⟩ := bnd h
      cases h
      exact fun X Wx c po => y_expr (IH .v W _ ir' hl X Wx c).v (sw_no (by simpa using hc))
  · exact kAsg_ok h
  · obtain ⟨g, h⟩ := grd_some h
    obtain ⟨g1, g2⟩ := ba g
    obtain ⟨C, hC, h⟩ := bnd h
    cases h
    intro X Wx c po
    obtain ⟨n1, n2, n3⟩ := okName_ok g2
    obtain ⟨hx, ⟨Ca, bmB, B, newId, initId, f1, f2, f3, f4, f5, f6, f7⟩⟩ := c.exc _ C hC
    refine (y_raise c.calm po.2 f2 f3 f4 f5 (raises_own f6 f7) (c.gl g1) n1 f1).mono fun D σV H ⟨ρ, σ, ah, r, rs, post⟩ => ⟨ρ, σ, ah, r, rs, ?_⟩
    have post : PostY Λ Wx ρ H (match Γ.exi C [] with
      | some fs => .ex C fs σ ah
      | none => .no) D := post
    rcases hx with hx | hx
    · rw [hx] at post; exact post.elim
    · rw [hx] at post; exact post
  · obtain ⟨c', hc, h⟩ := bnd h
    obtain ⟨b', hb, h⟩ := bnd h
    cases h
    exact fun X Wx c po => y_while po.1 (IH .v W _ c' hc X Wx c) (IS W _ b' hb X Wx c po)
  · obtain ⟨o, ho, h⟩ := bnd h
    obtain ⟨i, hi, h⟩ := bnd h
    obtain ⟨ir', hl, h⟩ := bnd h
    cases h
    intro X Wx c po
    obtain ⟨h1, h2, h3⟩ := tgt_ok c hi
    exact y_aug ho c.nd h1 h2 h3 (IH .v W _ ir' hl X Wx c).v
  · obtain ⟨hb, h⟩ := grd_some h
    obtain ⟨o, ho, h⟩ := bnd h
    obtain ⟨i, hi, h⟩ := bnd h
    obtain ⟨x, hx, h⟩ := bnd h
    obtain ⟨ir', hl, h⟩ := bnd h
    cases h
    exact fun X Wx c po => y_augf c.fx.k ho (c.att _ i hi) c.naf (IH .v W _ x hx X Wx c).v (IH .v W _ ir' hl X Wx c).v
  · obtain ⟨c', hc, h⟩ := bnd h
    obtain ⟨a', ha, h⟩ := bnd h
    obtain ⟨b', hb, h⟩ := bnd h
    cases h
    exact fun X Wx c po => y_if (IH .v W _ c' hc X Wx c) (IS W _ a' ha X Wx c po) (IS W _ b' hb X Wx c po)
  · obtain ⟨hs, h⟩ := grd_some h
    obtain ⟨t', ht, h⟩ := bnd h
    obtain ⟨i', hi, h⟩ := bnd h
    obtain ⟨b', hb, h⟩ := bnd h
    cases h
    exact fun X Wx c po => y_for po.1 c.calm (IH .q W _ i' hi X Wx _ c) (IH .t W _ t' ht X Wx c) (IS W _ b' hb X Wx c po) (foldSet_of (by simpa using hs))
  · cases h
theorem getD_ok {rec : RecS} (IS : ∀ W ss ir, rec W ss = some ir → SS Λ S Γ W ss ir) {s : Stmt} : S1 Λ S Γ W s ((kSt S fe rec W s).getD stuckS) := by
  cases e : kSt S fe rec W s with
  | none => exact stuck_ok
  | some ir => exact kSt_ok IS e
theorem go_ok {rec : RecS} (IS : ∀ W ss ir, rec W ss = some ir → SS Λ S Γ W ss ir) : ∀ (ss : List Stmt) (ir : NI.S), kGo S fe rec W ss = some ir → SS Λ S Γ W ss ir
  | [], ir, h => by cases h; exact fun X Wx c po => ys_nil
  | [s], ir, h => by cases h; exact fun X Wx c po => ys_one (getD_ok IS X Wx c po)
  | s :: s2 :: r, ir, h => by
    obtain ⟨b, hb, h⟩ := bnd (show (kGo S fe rec W (s2 :: r)).bind (fun b => some (.seq ((kSt S fe rec W s).getD stuckS) b)) = some ir from h)
    cases h
    exact fun X Wx c po => ys_cons (getD_ok IS X Wx c po) (go_ok IS (s2 :: r) b hb X Wx c po)
theorem kSs_ok : ∀ (n : Nat) (W : Wk) (ss : List Stmt) (ir : NI.S), kSs S fe n W ss = some ir → SS Λ S Γ W ss ir
  | 0, _, _, _, h => by cases h
  | n + 1, W, ss, ir, h => go_ok (kSs_ok n) ss ir h
end
end NI
end

section
set_option Elab.async false
set_option autoImplicit false
set_option linter.all false
set_option maxRecDepth 100000
set_option maxHeartbeats 4000000
/-! Defs; the table by levels. -/
namespace NI
open PySem PySem.Spec PyProof.Rows L2
/-- a class of exceptions with an __init__ of one field, as it stands in the written part -/
structure ExM (Λ : Ln) (mg : Str → Option Value) (x par : Str) (Ci fi : Nat) : Prop where
  xc : Λ.xc Ci = true
  ex : ∃ (C fI : Addr) (fd : FuncData) (ps : List Str) (fld : Str), Λ.ca Ci = some C ∧ ExcC Λ.K C ∧ Λ.an fi = some fld ∧ PySem.W.findIn Λ.K (.ref C) fld = some none ∧ OexC Λ.K C ∧ PySem.W.findIn Λ.K (.ref C) "__init__" = some (some (.ref fI)) ∧ PySem.W.typeIn Λ.K (.ref fI) = some (.type "function") ∧
    (∀ base, FnOk Λ.P Λ.w Λ.K mg base CX0 1 fI fd ps (spS C fld)) ∧ (∀ (s : Shared) (a u : Value), Λ.K.In s.heap → BindsTo s fd ⟨[a, u], []⟩ (ps.zip [a, u])) ∧ (∀ (s : Shared) (a u : Value), Λ.K.In s.heap → BindsTo s fd ⟨[a], [(par, u)]⟩ (ps.zip [a, u])) ∧ mg x = some (.ref C)
/-- what is known of the module for a level of callees -/
structure Md (Λ : Ln) (S : Stx) (mg : Str → Option Value) (base : Heap) (k : Nat) (Γ : G) : Prop where
  fn : ∀ x g, S.fn x = some g → ∃ f fd ps, mg x = some (.ref f) ∧ PySem.W.keepIn Λ.K (.ref f) = true ∧ FnOk Λ.P Λ.w Λ.K mg base (L2.CX Λ.P Λ.w) k f fd ps (spO Λ (Γ.fn g) ps.length) ∧
    (∀ vs h, Γ.fn g vs h = .no ∨ vs.length = ps.length) ∧ Binds Λ.K fd ps []
  cst : ∀ x c, atS x S.csts = some c → Γ.cst c = none ∨ ∃ p v u, Γ.cst c = some p ∧ mg x = some u ∧ RelV v u ∧ ∀ ρ H, Rp Λ ρ H v p
  blt : ∀ x, S.fn x = none → x ∈ bltNames → mg x = none
  att : ∀ x i, atS x S.attrs = some i → Λ.an i = some x
  exc : ∀ x Ci, S.exc x = some Ci → (Γ.exi Ci [] = none ∨ Γ.exi Ci [] = some []) ∧ ExF Λ Λ.K mg x Ci
  exv : ∀ x Ci, S.exc x = some Ci → Λ.xc Ci = true ∧ (∀ p, Γ.exi Ci [p] = none ∨ Γ.exi Ci [p] = some []) ∧ ∀ C, Λ.ca Ci = some C → ExcC Λ.K C
  exs : ∀ x Ci fi par, atS x S.exs = some (Ci, fi, par) → (∀ p, Γ.exi Ci [p] = none ∨ Γ.exi Ci [p] = some [(fi, p)]) ∧ ExM Λ mg x par Ci fi
  ext : ∀ t n, atS t S.exts = some n → ∃ cV cv, (∀ u, RelV cV u → u = cv) ∧ RelV cV cv ∧ (∀ C cA, Λ.xc C = true → Λ.ca C = some cA → ExcC Λ.K cA → PySem.W.kitOne Λ.K (.ref cA) cv = some (Γ.sub C n)) ∧ (mg t = some cv ∨ (mg t = none ∧ bootBuiltins t = some cv))
  mt : ∀ C cA m nm g, Λ.ca C = some cA → Λ.an m = some nm → Γ.mt C m = some g → ∃ f fd ps, Meth Λ.K cA nm f ∧ FnOk Λ.P Λ.w Λ.K mg base (L2.CX Λ.P Λ.w) k f fd ps (spO Λ (Γ.fn g) ps.length) ∧
    (∀ vs h, Γ.fn g vs h = .no ∨ vs.length = ps.length) ∧ Binds Λ.K fd ps []
  naf : NaF Λ Γ.mt
/-- a def with its length kept -/
def fnR (np : Nat) (Γ : G) (n : Nat) (ir : NI.S) : List PV → AH → R PV := fun vs h => match vs.length == np with
  | true => runD Γ n ir vs h
  | false => .no
theorem fnR_len {np n : Nat} {Γ : G} {ir : NI.S} (vs : List PV) (h : AH) : fnR np Γ n ir vs h = .no ∨ vs.length = np := by
  unfold fnR
  cases e : vs.length == np with
  | true => exact .inr (beq_iff_eq.mp e)
  | false => exact .inl rfl
section
variable {Λ : Ln} {S : Stx} {Γ : G}
theorem relS_start {ρ : List Addr} {H : Hp} {N : List Str} {vs : List V} {ps : List PV} (r : RpL Λ ρ H vs ps) : RelS Λ ρ (L2.start N vs) H (ps.map some ++ List.replicate (N.length - ps.length) none) := by
  have hl := r.length
  refine ⟨by simp [L2.start, hl], fun i p e => ?_⟩
  by_cases hi : i < ps.length
  · rw [List.getElem?_append_left (by simpa using hi), List.getElem?_map] at e
    obtain ⟨q, e1, e2⟩ := Option.map_eq_some_iff.mp e
    cases e2
    obtain ⟨v, e3, rv⟩ := r.get e1
    refine ⟨v, ?_, rv⟩
    unfold L2.start
    rw [List.getElem?_append_left (by rw [List.length_map, hl]; exact hi), List.getElem?_map, e3]; rfl
  · rw [List.getElem?_append_right (by simpa using hi)] at e
    have := List.mem_of_getElem? e
    simp [List.mem_replicate] at this
theorem def_ok {mg : Str → Option Value} {base : Heap} {k fe ns : Nat} {f : Addr} {fd : FuncData} {name qual : Str} {params : Arguments} {body : List Stmt} {scope : Scope} {dvs : List V} {kws : List (Str × V)} {N ps : List Str} {own : List Str} {ir : NI.S}
    (F : FunD Λ.K name qual params body scope dvs kws f fd) (Sc : FnScope N ps scope) (hir : kSs S fe ns ⟨N, scope, own⟩ body = some ir) (M : Md Λ S mg base k Γ) (hk1 : 1 ≤ k) :
    FnOk Λ.P Λ.w Λ.K mg base (L2.CX Λ.P Λ.w) (k + 2) f fd ps (spO Λ (fnR ps.length Γ N.length ir) ps.length) := by
  refine F.ok (k := k + 1) Sc (fun vs H Q E h => ?_) fun cdv A outer s H vs Q E hr h => ?_
  · obtain ⟨ρ, qs, ah, hl, _⟩ := h
    exact hl
  obtain ⟨ρ, qs, ah, hl, r, rv, post⟩ := h
  let X := cxOf (L2.CX Λ.P Λ.w) Λ.P Λ.w Λ.K mg base N qual scope f cdv A outer s H E
  have tk : Takes X (fun cls d _ H => E cls d H) := takes_of (X := X) (E := E) rfl rfl rfl rfl
  have c : Cw Λ S Γ ⟨N, scope, own⟩ X (fun cls d _ H => E cls d H) := {
    fx := ⟨rfl, rfl, rfl, by have := hr.un; show (A.deeper (envOfC qual scope s.heap.objs.size f cdv)).units + 100 < cLine; omega⟩
    calm := rfl
    nd := Sc.nd
    N := rfl
    sc := rfl
    own := fun _ _ => rfl
    pass := fun σ => passAt tk σ
    fn := fun x g hg => by
      obtain ⟨f', fd, ps', h1, h2, h3, h4, h5⟩ := M.fn x g hg
      exact ⟨f', fd, ps', k, h1, h2, h3, h4, hr.mono (Nat.le_succ _), h5⟩
    cst := M.cst
    blt := M.blt
    att := M.att
    exc := M.exc
    exv := M.exv
    exs := fun x Ci fi par h => by
      obtain ⟨h1, m1, C, fI, fd, ps', fld, m2, m3, m4, m5, m6, m7, m8, m9, m10, m11, m12⟩ := M.exs x Ci fi par h
      exact ⟨h1, 1, ⟨m1, C, fI, fd, ps', fld, m2, m3, m4, m5, m6, m7, m8, m9 base, m10, m11, m12⟩, hr.mono (by omega)⟩
    ext := M.ext
    mtf := fun C cA m nm g h1 h2 h3 => by
      obtain ⟨f', fd, ps', k1, k2, k3, k4⟩ := M.mt C cA m nm g h1 h2 h3
      exact ⟨f', fd, ps', k, k1, k2, k3, hr.mono (Nat.le_succ _), k4⟩
    naf := M.naf }
  have po : PassesOwn (model X.prog X.w) X.A X.env X.xe := passes_of (X := X) rfl
  refine ⟨_, kSs_ok (Λ := Λ) (Γ := Γ) ns _ body ir hir X _ c ⟨po, tk⟩, ρ, _, ah, r, relS_start (N := N) rv, ?_⟩
  have hq : qs.length = ps.length := by rw [← rv.length]; exact hl
  have post : Post Λ E (Rp Λ) ρ H (runD Γ N.length ir qs ah) Q := by
    unfold fnR at post
    rw [beq_iff_eq.mpr hq] at post
    exact post
  unfold runD at post
  cases e : (dens Γ ir).r none (qs.map some ++ List.replicate (N.length - qs.length) none) ah with
  | nx σ h1 => rw [e] at post; exact fun ρ' H' σV s1 r1 _ => post ρ' H' _ s1 r1 .non
  | rt v h1 => rw [e] at post; exact fun ρ' H' u s1 r1 rv1 => post ρ' H' u s1 r1 rv1
  | ex cc fs σ h1 => rw [e] at post; exact fun ρ' H' d cA σV s1 r1 _ xr ec => post ρ' H' d cA s1 r1 xr ec
  | bk σ h1 => rw [e] at post; exact post.elim
  | ct σ h1 => rw [e] at post; exact post.elim
  | no => rw [e] at post; exact post.elim
/-- a promise of nothing -/
theorem fn_no {P : Program} {w : World} {K : PySem.W.Frag} {mg : Str → Option Value} {base : Heap} {CX : CXT} {k : Nat} {f : Addr} {fd : FuncData} {ps : List Str} {n : Nat} : FnOk P w K mg base CX k f fd ps (spO Λ (fun _ _ => .no) n) :=
  ⟨fun vs H Q E ⟨_, _, _, _, _, _, post⟩ => post.elim, fun A outer s H args us vs Q E _ _ _ _ ⟨_, _, _, _, _, _, post⟩ => post.elim⟩
end
/-! ### the table -/
/-- a def: its number of parameters, of names, its body -/
structure Df where
  np : Nat
  n : Nat
  ir : NI.S
structure Tx where
  defs : Nat → Option Df
  cst : Nat → Option PV
  mt : Nat → Nat → Option Nat
  ini : Nat → Option Nat
  sub : Nat → Nat → Bool
  exi : Nat → List PV → Option (List (Nat × PV))
  fuel : Nat
def Tx.g (T : Tx) (fn : Nat → List PV → AH → R PV) : G := ⟨T.cst, fn, T.mt, T.ini, T.sub, T.exi, T.fuel⟩
def Tx.fn (T : Tx) : Nat → Nat → List PV → AH → R PV
  | 0, _ => fun _ _ => .no
  | d + 1, g => match T.defs g with
    | some D => fnR D.np (T.g (T.fn d)) D.n D.ir
    | none => fun _ _ => .no
/-- a def of the text, as it stands in the written part -/
structure DefI (Λ : Ln) (S : Stx) (T : Tx) (mg : Str → Option Value) (g : Nat) (f : Addr) (fd : FuncData) (ps : List Str) : Prop where
  kp : PySem.W.keepIn Λ.K (.ref f) = true
  bd : Binds Λ.K fd ps []
  ok : (T.defs g = none) ∨ ∃ (name qual : Str) (params : Arguments) (body : List Stmt) (scope : Scope) (dvs : List V) (kws : List (Str × V)) (N own : List Str) (ir : NI.S) (fe ns : Nat),
    FunD Λ.K name qual params body scope dvs kws f fd ∧ FnScope N ps scope ∧ kSs S fe ns ⟨N, scope, own⟩ body = some ir ∧ T.defs g = some ⟨ps.length, N.length, ir⟩
structure Mod' (Λ : Ln) (S : Stx) (T : Tx) (mg : Str → Option Value) : Prop where
  fn : ∀ x g, S.fn x = some g → ∃ f fd ps, mg x = some (.ref f) ∧ DefI Λ S T mg g f fd ps
  cst : ∀ x c, atS x S.csts = some c → T.cst c = none ∨ ∃ p v u, T.cst c = some p ∧ mg x = some u ∧ RelV v u ∧ ∀ ρ H, Rp Λ ρ H v p
  blt : ∀ x, S.fn x = none → x ∈ bltNames → mg x = none
  att : ∀ x i, atS x S.attrs = some i → Λ.an i = some x
  exc : ∀ x Ci, S.exc x = some Ci → (T.exi Ci [] = none ∨ T.exi Ci [] = some []) ∧ ExF Λ Λ.K mg x Ci
  exv : ∀ x Ci, S.exc x = some Ci → Λ.xc Ci = true ∧ (∀ p, T.exi Ci [p] = none ∨ T.exi Ci [p] = some []) ∧ ∀ C, Λ.ca Ci = some C → ExcC Λ.K C
  exs : ∀ x Ci fi par, atS x S.exs = some (Ci, fi, par) → (∀ p, T.exi Ci [p] = none ∨ T.exi Ci [p] = some [(fi, p)]) ∧ ExM Λ mg x par Ci fi
  ext : ∀ t n, atS t S.exts = some n → ∃ cV cv, (∀ u, RelV cV u → u = cv) ∧ RelV cV cv ∧ (∀ C cA, Λ.xc C = true → Λ.ca C = some cA → ExcC Λ.K cA → PySem.W.kitOne Λ.K (.ref cA) cv = some (T.sub C n)) ∧ (mg t = some cv ∨ (mg t = none ∧ bootBuiltins t = some cv))
  mt : ∀ C cA m nm g, Λ.ca C = some cA → Λ.an m = some nm → T.mt C m = some g → ∃ f fd ps, Meth Λ.K cA nm f ∧ DefI Λ S T mg g f fd ps
  naf : NaF Λ T.mt
section
variable {Λ : Ln} {S : Stx} {T : Tx} {mg : Str → Option Value} {base : Heap}
theorem tx_len {d g : Nat} {ps : List Str} (h : T.defs g = none ∨ ∃ n ir, T.defs g = some ⟨ps.length, n, ir⟩) (vs : List PV) (ah : AH) : T.fn d g vs ah = .no ∨ vs.length = ps.length := by
  cases d with
  | zero => exact .inl rfl
  | succ d =>
    rcases h with h | ⟨n, ir, h⟩
    · left
      unfold Tx.fn
      rw [h]
    · have e : T.fn (d + 1) g = fnR ps.length (T.g (T.fn d)) n ir := by
        show (match T.defs g with | some D => fnR D.np (T.g (T.fn d)) D.n D.ir | none => fun _ _ => .no) = _
        rw [h]
      rw [e]
      exact fnR_len vs ah
theorem defI_cases {g : Nat} {f : Addr} {fd : FuncData} {ps : List Str} (D : DefI Λ S T mg g f fd ps) : T.defs g = none ∨ ∃ n ir, T.defs g = some ⟨ps.length, n, ir⟩ := by
  rcases D.ok with h | ⟨_, _, _, _, _, _, _, N, _, ir, _, _, _, _, _, h⟩
  · exact .inl h
  · exact .inr ⟨_, _, h⟩
/-- each level keeps its promise, and what the next one asks -/
theorem table_ok (M : Mod' Λ S T mg) : ∀ d : Nat, (∀ (g : Nat) (f : Addr) (fd : FuncData) (ps : List Str), DefI Λ S T mg g f fd ps → FnOk Λ.P Λ.w Λ.K mg base (L2.CX Λ.P Λ.w) (2 * d + 2) f fd ps (spO Λ (T.fn d g) ps.length)) ∧ Md Λ S mg base (2 * d + 2) (T.g (T.fn d)) := by
  have up : ∀ d, (∀ (g : Nat) (f : Addr) (fd : FuncData) (ps : List Str), DefI Λ S T mg g f fd ps → FnOk Λ.P Λ.w Λ.K mg base (L2.CX Λ.P Λ.w) (2 * d + 2) f fd ps (spO Λ (T.fn d g) ps.length)) → Md Λ S mg base (2 * d + 2) (T.g (T.fn d)) := fun d h => {
    fn := fun x g hx => by
      obtain ⟨f, fd, ps, h1, D⟩ := M.fn x g hx
      exact ⟨f, fd, ps, h1, D.kp, h g f fd ps D, tx_len (defI_cases D), D.bd⟩
    cst := M.cst
    blt := M.blt
    att := M.att
    exc := M.exc
    exv := M.exv
    exs := M.exs
    ext := M.ext
    mt := fun C cA m nm g h1 h2 h3 => by
      obtain ⟨f, fd, ps, k1, D⟩ := M.mt C cA m nm g h1 h2 h3
      exact ⟨f, fd, ps, k1, h g f fd ps D, tx_len (defI_cases D), D.bd⟩
    naf := M.naf }
  intro d
  induction d with
  | zero =>
    have h0 : ∀ (g : Nat) (f : Addr) (fd : FuncData) (ps : List Str), DefI Λ S T mg g f fd ps → FnOk Λ.P Λ.w Λ.K mg base (L2.CX Λ.P Λ.w) (2 * 0 + 2) f fd ps (spO Λ (T.fn 0 g) ps.length) := fun g f fd ps _ => fn_no
    exact ⟨h0, up 0 h0⟩
  | succ d ih =>
    have h1 : ∀ (g : Nat) (f : Addr) (fd : FuncData) (ps : List Str), DefI Λ S T mg g f fd ps → FnOk Λ.P Λ.w Λ.K mg base (L2.CX Λ.P Λ.w) (2 * (d + 1) + 2) f fd ps (spO Λ (T.fn (d + 1) g) ps.length) := fun g f fd ps D => by
      rcases D.ok with h | ⟨name, qual, params, body, scope, dvs, kws, N, own, ir, fe, ns, F, Sc, hir, h⟩
      · have e : T.fn (d + 1) g = fun _ _ => .no := by
          show (match T.defs g with | some D => fnR D.np (T.g (T.fn d)) D.n D.ir | none => fun _ _ => .no) = _
          rw [h]
        rw [e]; exact fn_no
      · have e : T.fn (d + 1) g = fnR ps.length (T.g (T.fn d)) N.length ir := by
          show (match T.defs g with | some D => fnR D.np (T.g (T.fn d)) D.n D.ir | none => fun _ _ => .no) = _
          rw [h]
        rw [e]
        exact def_ok F Sc hir ih.2 (by omega)
    exact ⟨h1, up (d + 1) h1⟩
end
end NI
end

section
set_option Elab.async false
set_option autoImplicit false
set_option linter.all false
set_option maxRecDepth 100000
set_option maxHeartbeats 4000000
/-! Pure calls: with data alone a def may be reckoned on the empty plain heap. -/
namespace NI
open PySem PySem.Spec PyProof.Rows L2
section
variable {Λ : Ln} {ρ ρ' : List Addr} {H H' : Hp}
mutual
theorem rp_data : ∀ (n : Nat) (p : PV) (v : V), isData n p = true → Rp Λ ρ H v p → Rp Λ ρ' H v p
  | n, .non, _, _, r => by cases r; exact .non
  | n, .bl b, _, _, r => by cases r; exact .bl b
  | n, .int i, _, _, r => by cases r; exact .int i
  | n, .str s, _, _, r => by
    cases r with
    | str x _ e k l => exact .str x s e k l
  | 0, .tup xs, _, h, _ => by simp [isData] at h
  | n + 1, .tup xs, _, h, r => by
    cases r with
    | tup h1 h2 => exact .tup h1 (rp_datas n xs _ (by simpa [isData] using h) h2)
  | n, .obj _, _, h, _ => by cases n <;> simp [isData] at h
  | n, .glo _, _, h, _ => by cases n <;> simp [isData] at h
theorem rp_datas : ∀ (n : Nat) (ps : List PV) (vs : List V), areData n ps = true → RpL Λ ρ H vs ps → RpL Λ ρ' H vs ps
  | n, [], _, _, r => by cases r; exact .nil
  | n, p :: ps, _, h, r => by
    cases r with
    | cons r1 r2 =>
      have hb := ba (show (isData n p && areData n ps) = true from by simpa [areData] using h)
      exact .cons (rp_data n p _ hb.1 r1) (rp_datas n ps _ hb.2 r2)
end
theorem relH_nil : RelH Λ [] H [] := ⟨rfl, List.nodup_nil, (fun _ h => nomatch h), (fun _ h => nomatch h), (fun n a o h1 _ => by cases h1)⟩
/-- what the plain heap holds is no exception's dict -/
theorem RelH.noxd {ah : AH} (r : RelH Λ ρ H ah) {a : Addr} (ha : a ∈ ρ) {fs : List (Str × V)} : H a ≠ some (.xd fs) := fun e => by
  obtain ⟨n, hn⟩ := List.mem_iff_getElem?.mp ha
  have hl : n < ah.length := by rw [← r.len]; exact (List.getElem?_eq_some_iff.mp hn).1
  have ob := r.ob n a _ hn (List.getElem?_eq_getElem hl)
  generalize ah[n] = o at ob
  cases o with
  | lst xs => obtain ⟨ys, h1, _⟩ := ob; rw [e] at h1; cases h1
  | frz xs => obtain ⟨ys, o, h1, _⟩ := ob; rw [e] at h1; cases h1
  | dct kvs =>
    obtain ⟨u, h1, h2⟩ := ob
    rw [e] at h1
    cases h1
    rcases h2 with ⟨_, z, _⟩ | ⟨_, z, _⟩ <;> cases z
  | frd kvs => obtain ⟨o, u, h1, _⟩ := ob; rw [e] at h1; cases h1
  | ins C gs => obtain ⟨_, _, _, _, h1, _⟩ := ob; rw [e] at h1; cases h1
  | exc C gs =>
    obtain ⟨_, cA, _, _, _, h2⟩ := ob
    rcases h2 with ⟨h2, _⟩ | ⟨dd, fsV, _, h2, _, _⟩
    · rw [e] at h2
      have z2 : HO.xd fs = HO.ext _ := Option.some.inj h2
      cases z2
    · rw [e] at h2
      have z2 : HO.xd fs = HO.ext _ := Option.some.inj h2
      cases z2
/-- from the empty plain heap back to the one that was -/
theorem back {ah : AH} (r : RelH Λ ρ H ah) (s : Stp [] H ρ' H') : Stp ρ H ρ H' ∧ RelH Λ ρ H' ah := by
  have same : ∀ b ∈ ρ, H' b = H b := fun b hb => by
    cases e : H b with
    | none => exact absurd e (r.tr b hb)
    | some o => exact s.stay b o (fun z => nomatch z) e
  refine ⟨⟨List.prefix_rfl, fun a o _ e => s.stay a o (fun z => nomatch z) e, fun a h1 h2 => absurd h1 h2, s.fz⟩, r.keep same (fun a xs q => s.tup (fun a h => nomatch h) q) fun d fs _ n2 => s.stay d _ (fun z => nomatch z) n2⟩
/-- the same on any plain heap -/
def pur (fn : List PV → AH → R PV) : List PV → AH → R PV := fun vs h => match areData 32 vs with
  | true => (match fn vs [] with
    | .ok p _ => (match isData 32 p with
      | true => .ok p h
      | false => .no)
    | .ex c fs _ => (match areData 32 (fs.map (·.2)) with
      | true => .ex c fs h
      | false => .no)
    | .no => .no)
  | false => fn vs h
theorem fr_data {fsV : List (Str × V)} {fs : List (Nat × PV)} (hd : areData 32 (fs.map (·.2)) = true) (h : FR Λ ρ H fsV fs) : FR Λ ρ' H fsV fs := by
  refine ⟨h.1, h.2.1, fun f x e => ?_⟩
  have q := h.2.2 f x e
  cases g : fget fs f with
  | none => rw [g] at q; exact q
  | some w =>
    rw [g] at q
    obtain ⟨v, e1, r⟩ := q
    refine ⟨v, e1, rp_data 32 w v ?_ r⟩
    have : ∀ fs : List (Nat × PV), areData 32 (fs.map (·.2)) = true → fget fs f = some w → isData 32 w = true := fun fs => by
      induction fs with
      | nil => intro _ z; cases z
      | cons p r ih =>
        intro hd z
        have hb := ba (show (isData 32 p.2 && areData 32 (r.map (·.2))) = true from by simpa [areData] using hd)
        have z : (if p.1 == f then some p.2 else fget r f) = some w := z
        by_cases k : (p.1 == f) = true
        · rw [if_pos k] at z; cases z; exact hb.1
        · rw [if_neg k] at z; exact ih hb.2 z
    exact this fs hd g
theorem pur_ok {fn : List PV → AH → R PV} {n : Nat} {vs : List V} {Q : VK} {E : XK} (h : spO Λ (pur fn) n vs H Q E) : spO Λ fn n vs H Q E := by
  obtain ⟨ρ, ps, ah, hl, r, rv, post⟩ := h
  unfold pur at post
  cases hd : areData 32 ps with
  | false => rw [hd] at post; exact ⟨ρ, ps, ah, hl, r, rv, post⟩
  | true =>
    rw [hd] at post
    dsimp only at post
    refine ⟨[], ps, [], hl, relH_nil, rp_datas 32 ps vs hd rv, ?_⟩
    cases e : fn ps [] with
    | no => rw [e] at post; exact post.elim
    | ok p ah1 =>
      rw [e] at post
      dsimp only at post
      cases hp : isData 32 p with
      | false => rw [hp] at post; exact post.elim
      | true =>
        rw [hp] at post
        intro ρ' H' b s _ rb
        obtain ⟨s2, r2⟩ := back r s
        exact post ρ H' b s2 r2 (rp_data 32 p b hp rb)
    | ex c fs ah1 =>
      rw [e] at post
      dsimp only at post
      cases hp : areData 32 (fs.map (·.2)) with
      | false => rw [hp] at post; exact post.elim
      | true =>
        rw [hp] at post
        intro ρ' H' d cA s _ xr ec
        obtain ⟨s2, r2⟩ := back r s
        refine post ρ H' d cA s2 r2 ?_ ec
        cases d with
        | none => exact xr
        | some dd =>
          obtain ⟨nd, fsV, h1, h2⟩ := xr
          exact ⟨fun z => r2.noxd z h1, fsV, h1, fr_data hp h2⟩
end
end NI
end

section
set_option Elab.async false
set_option autoImplicit false
set_option linter.all false
set_option maxRecDepth 100000
set_option maxHeartbeats 4000000
/-! The join: a Hook of one's own, facts of exceptions read off the written part, the law's end. -/
namespace NI
open PySem PySem.Spec PyProof.Rows L2
/-! ### the Hook -/
def asX (g : Addr → Option Obj) : Nat → List Addr
  | 0 => [mainGlobals, cStatics]
  | n + 1 => He.growD g (asX g n)
abbrev InW : Type := Option (Str × Str × Arguments × FuncBody × Scope × Addr × List Str × Addr)
/-- an exception class's own __init__ -/
structure IniD where
  cls : Str
  name : Str
  qual : Str
  params : Arguments
  body : List Stmt
  scope : Scope
def iAd (K : PySem.W.Frag) (x : Str) : Addr := He.ma K (He.ga K x) "__init__"
def inW (K : PySem.W.Frag) (x : Str) : InW := match K.lookup (iAd K x) with
  | some ⟨_, _, .func fd, _⟩ => some (fd.name, fd.qualname, fd.params, fd.body, fd.scope, fd.globals, fd.closure.map (·.1), fd.builtins)
  | _ => none
def IniD.val (d : IniD) : InW := some (d.name, d.qual, d.params, .stmts d.body, d.scope, mainGlobals, ["__class__"], builtinsNs)
/-- its closure is its class, its code is of this text -/
def IniD.ok (P : Program) (K : PySem.W.Frag) (d : IniD) : Bool := match K.lookup (iAd K d.cls) with
  | some ⟨_, _, .func fd, _⟩ => (match fd.closure, fd.code with
    | [(_, cc)], .ref cda => (match K.lookup cc, K.lookup cda with
      | some ⟨_, _, .cell (some (.ref D)), _⟩, some ⟨_, _, .fields vs, _⟩ => decide (D = He.ga K d.cls) && decide (fd.defaults = Value.none) && PySem.W.codeIn K fd.code d.qual && (match (vs[2]? : Option Value) with
        | some (Value.str file _) => ((P.main.file : Str) == file)
        | _ => false)
      | _, _ => false)
    | _, _ => false)
  | _ => false
abbrev AlX : Type := Bool × List He.FnW × List InW
abbrev ExF' : Type := PySem.W.Frag → Bool
def obsX (P : Program) (fa : List He.Fa) (fx : List ExF') (fn : List He.DefD) (fi : List IniD) (K : PySem.W.Frag) : AlX :=
  ((fa.all fun f => f.ok K) && ((fx.all fun f => f K) && ((fn.all fun d => d.ok K) && fi.all fun d => d.ok P K)), fn.map fun d => He.fnW K d.at_, fi.map fun d => inW K d.cls)
def valX (fn : List He.DefD) (fi : List IniD) : AlX := (true, fn.map He.DefD.val, fi.map IniD.val)
def SaysX (P : Program) (fa : List He.Fa) (fx : List ExF') (fn : List He.DefD) (fi : List IniD) (K : PySem.W.Frag) : Prop := obsX P fa fx fn fi K = valX fn fi
def obsXG (n : Nat) (P : Program) (fa : List He.Fa) (fx : List ExF') (fn : List He.DefD) (fi : List IniD) (g : Addr → Option Obj) : AlX := obsX P fa fx fn fi (He.frG g (asX g n))
def hookX (n : Nat) (P : Program) (fa : List He.Fa) (fx : List ExF') (fn : List He.DefD) (fi : List IniD) : PySem.W.Hook where
  α := AlX
  obs := fun s => obsXG n P fa fx fn fi s.heap.get?
  val := fun _ => valX fn fi
  says := fun _ h => ∃ K : PySem.W.Frag, K.In h ∧ SaysX P fa fx fn fi K
  of := fun _ _ e => ⟨_, He.frG_in, e⟩
  keeps := fun _ _ _ ⟨K, hK, c⟩ k => ⟨K, PySem.W.Frag.In.keeps hK k, c⟩
theorem obsXG_eq {n : Nat} {P : Program} {fa : List He.Fa} {fx : List ExF'} {fn : List He.DefD} {fi : List IniD} {g : Addr → Option Obj} {s : Shared} (h : ∀ a, g a = s.heap.get? a) : obsXG n P fa fx fn fi g = (hookX n P fa fx fn fi).obs s := by
  have e : g = s.heap.get? := funext h
  rw [e]; rfl
section
variable {P : Program} {fa : List He.Fa} {fx : List ExF'} {fn : List He.DefD} {fi : List IniD} {K : PySem.W.Frag}
theorem SaysX.bits (c : SaysX P fa fx fn fi K) : (fa.all fun f => f.ok K) = true ∧ (fx.all fun f => f K) = true ∧ (fn.all fun d => d.ok K) = true ∧ (fi.all fun d => d.ok P K) = true := by
  have e : ((fa.all fun f => f.ok K) && ((fx.all fun f => f K) && ((fn.all fun d => d.ok K) && fi.all fun d => d.ok P K))) = true := congrArg (fun z : AlX => z.1) c
  obtain ⟨h1, e⟩ := ba e
  obtain ⟨h2, e⟩ := ba e
  obtain ⟨h3, h4⟩ := ba e
  exact ⟨h1, h2, h3, h4⟩
theorem SaysX.fact (c : SaysX P fa fx fn fi K) {f : He.Fa} (h : f ∈ fa) : f.ok K = true := List.all_eq_true.mp c.bits.1 f h
theorem SaysX.xact (c : SaysX P fa fx fn fi K) {f : ExF'} (i : Nat) (h : fx[i]? = some f) : f K = true := List.all_eq_true.mp c.bits.2.1 f (List.mem_of_getElem? h)
theorem SaysX.def_ (c : SaysX P fa fx fn fi K) (i : Nat) {d : He.DefD} (h : fn[i]? = some d) : ∃ fd, FunD K d.name d.qual d.params d.body d.scope (d.dvs K) (d.kws K) (He.fAd K d.at_) fd := by
  have e : fn.map (fun d => He.fnW K d.at_) = fn.map He.DefD.val := congrArg (fun z : AlX => z.2.1) c
  have e2 : (fn.map fun d => He.fnW K d.at_)[i]? = (fn.map He.DefD.val)[i]? := by rw [e]
  rw [List.getElem?_map, List.getElem?_map, h] at e2
  exact He.DefD.funD (Option.some.inj e2) (List.all_eq_true.mp c.bits.2.2.1 d (List.mem_of_getElem? h))
/-- an __init__ as it stands behind the top -/
structure InF (P : Program) (K : PySem.W.Frag) (d : IniD) : Prop where
  ex : ∃ (oc : Value) (od : Option Addr) (kV doc pm : Value) (an : Option Addr) (cda : Addr) (ct : Value) (osl : Array (Option Value)) (cc : Addr),
    K.lookup (iAd K d.cls) = some ⟨oc, od, .func (PySem.W.fnX d.name d.qual d.params d.body d.scope [("__class__", cc)] .none kV doc pm an (.ref cda) ct), osl⟩ ∧ PySem.W.codeIn K (.ref cda) d.qual = true ∧
    (∃ cl cld csl, K.lookup cc = some ⟨cl, cld, .cell (some (.ref (He.ga K d.cls))), csl⟩) ∧ (∃ ccl cdd vs ccs file tf, K.lookup cda = some ⟨ccl, cdd, .fields vs, ccs⟩ ∧ vs[2]? = some (.str file tf) ∧ ((P.main.file : Str) == file) = true)
theorem IniD.inF {d : IniD} (e : inW K d.cls = d.val) (c : d.ok P K = true) : InF P K d := by
  unfold inW at e
  unfold IniD.ok at c
  cases q : K.lookup (iAd K d.cls) with
  | none => rw [q] at c; cases c
  | some o =>
    obtain ⟨oc, od, dt, osl⟩ := o
    rw [q] at c e
    cases dt with
    | func fd =>
      obtain ⟨n1, n2, n3, n4, n5, n6, n7, n8, n9, n10, n11, n12, n13, n14, n15⟩ := fd
      have e2 : (some (n1, n2, n3, n4, n5, n6, n7.map (·.1), n15) : InW) = some (d.name, d.qual, d.params, FuncBody.stmts d.body, d.scope, mainGlobals, [("__class__" : Str)], builtinsNs) := e
      simp only [Option.some.injEq, Prod.mk.injEq] at e2
      obtain ⟨h1, h2, h3, h4, h5, h6, h7, h8⟩ := e2
      subst h1 h2 h3 h4 h5 h6 h8
      dsimp only at c
      split at c
      · rename_i _ _ y cc cda
        split at c
        · rename_i a1 a2 D a3 b1 b2 vs b3 l1 l2
          obtain ⟨c, c3⟩ := ba c
          obtain ⟨c, c2⟩ := ba c
          obtain ⟨c1, c0⟩ := ba c
          have c1 := of_decide_eq_true c1
          have c0 : n8 = Value.none := of_decide_eq_true c0
          subst c1 c0
          split at c3
          · rename_i file tf hv
            have hy : y = ("__class__" : Str) := by simpa using h7
            subst hy
            exact ⟨oc, od, n9, n10, n11, n12, cda, n14, osl, cc, q, c2, ⟨_, _, _, l1⟩, _, _, _, _, _, _, l2, hv, c3⟩
          · cases c3
        · cases c
      · cases c
    | _ => cases c
theorem SaysX.ini (c : SaysX P fa fx fn fi K) (i : Nat) {d : IniD} (h : fi[i]? = some d) : InF P K d := by
  have e : fi.map (fun d => inW K d.cls) = fi.map IniD.val := congrArg (fun z : AlX => z.2.2) c
  have e2 : (fi.map fun d => inW K d.cls)[i]? = (fi.map IniD.val)[i]? := by rw [e]
  rw [List.getElem?_map, List.getElem?_map, h] at e2
  exact IniD.inF (Option.some.inj e2) (List.all_eq_true.mp c.bits.2.2.2 d (List.mem_of_getElem? h))
end
/-! ### exceptions' classes -/
def eqVO (a b : Option (Option Value)) : Bool := decide (a = b)
def excCB (x : Str) : ExF' := fun K => let C := He.ga K x
  He.eqO (PySem.W.findIn K (.ref C) "__getattribute__") (some (some (.builtin "BaseException.__getattribute__"))) && (He.eqO (PySem.W.findIn K (.ref C) "__getattr__") (some none) && (decide (PySem.W.subIn K (.ref C) (.type "BaseException") = some true) &&
    (PySem.W.hasDictIn K C && (He.eqO (PySem.W.findIn K (.ref C) "__class__") (some (some (.builtin "object.__class__"))) && (He.eqO (PySem.W.specialIn K (.builtin "object.__class__") "__get__") (some (some (.builtin "getset_descriptor.__get__"))) &&
    (decide (PySem.W.takesIn K (.builtin "object.__class__") = some true) && decide (PySem.W.mroIn K C (.type "object") = some true)))))))
theorem excCB_ok {x : Str} {K : PySem.W.Frag} (h : excCB x K = true) : ExcC K (He.ga K x) := by
  unfold excCB at h
  obtain ⟨h1, h⟩ := ba h
  obtain ⟨h2, h⟩ := ba h
  obtain ⟨h3, h⟩ := ba h
  obtain ⟨h4, h⟩ := ba h
  obtain ⟨h5, h⟩ := ba h
  obtain ⟨h6, h⟩ := ba h
  obtain ⟨h7, h8⟩ := ba h
  exact ⟨He.eqO_ok h1, He.eqO_ok h2, of_decide_eq_true h3, h4, He.eqO_ok h5, He.eqO_ok h6, of_decide_eq_true h7, of_decide_eq_true h8⟩
/-- a class over ValueError, through own ones -/
def oexB (x : Str) : ExF' := fun K => let C := He.ga K x
  (match K.lookup C with
  | some ⟨.type "type", _, .cls cd, sl⟩ => (match cd.mro, sl.toList with
    | .ref C' :: bm, [_, _, _, _, some (.builtin n), _] => decide (C' = C) && (decide (n = "ValueError.__new__") && (!cd.hasDel && (cd.hasDict && HandSPX.refsVE bm)))
    | _, _ => false)
  | _ => false) && (He.eqO (PySem.W.findIn K (.ref C) "__setattr__") (some (some (.builtin "object.__setattr__"))) && (decide (PySem.W.subIn K (.ref C) (.type "BaseException") = some true) && (decide (PySem.W.typeIn K (.ref C) = some (.type "type")) && PySem.W.keepIn K (.ref C))))
theorem oexB_ok {x : Str} {K : PySem.W.Frag} (h : oexB x K = true) : OexC K (He.ga K x) := by
  unfold oexB at h
  obtain ⟨h0, h⟩ := ba h
  obtain ⟨h1, h⟩ := ba h
  obtain ⟨h2, h⟩ := ba h
  obtain ⟨h3, h4⟩ := ba h
  refine ⟨?_, He.eqO_ok h1, of_decide_eq_true h2, of_decide_eq_true h3, h4⟩
  split at h0
  · rename_i dd cd sl ho
    split at h0
    · rename_i C' bm k0 k1 k2 k3 n k5 hm hs
      obtain ⟨g1, h0⟩ := ba h0
      obtain ⟨g2, h0⟩ := ba h0
      obtain ⟨g3, h0⟩ := ba h0
      obtain ⟨g4, g5⟩ := ba h0
      have g1 := of_decide_eq_true g1
      have g2 := of_decide_eq_true g2
      subst g1 g2
      obtain ⟨nm, bs, mro, ns, qn, hd, sn, sub, ab, col, del⟩ := cd
      dsimp only at hm g3 g4
      have g3 : del = false := by simpa using g3
      subst hm g3 g4
      have hsl : sl = #[k0, k1, k2, k3, some (.builtin "ValueError.__new__"), k5] := by
        obtain ⟨l⟩ := sl
        simp only at hs
        rw [hs]
      subst hsl
      exact ⟨nm, qn, ns, bs, bm, sn, sub, ab, col, dd, k0, k1, k2, k3, k5, ho, g5⟩
    · cases h0
  · cases h0
def supB (x : Str) : ExF' := fun K => let C := He.ga K x
  He.eqO (PySem.W.nsIn K cStatics "thirdparty.any") (some none) && (He.eqO (PySem.W.ks_superIn K C C "__init__") (some (some (.builtin "ValueError.__init__"))) && (decide (PySem.W.subIn K (.ref C) (.type "ValueError") = some true) &&
    (He.eqO (PySem.W.findIn K (.ref C) "__init__") (some (some (.ref (iAd K x)))) && decide (PySem.W.typeIn K (.ref (iAd K x)) = some (.type "function")))))
def noLst : ExF' := fun K => K.all fun p => !(p.2.cls == .type "list")
def kitB (x : Str) (c : PySem.W.Frag → Value) (b : Bool) : ExF' := fun K => decide (PySem.W.kitOne K (.ref (He.ga K x)) (c K) = some b)
theorem lookup_mem {α : Type} {a : Addr} {o : α} : ∀ {l : List (Addr × α)}, l.lookup a = some o → (a, o) ∈ l
  | [], h => by cases h
  | (b, u) :: r, h => by
    simp only [List.lookup] at h
    cases e : a == b with
    | true => rw [e] at h; cases h; rw [beq_iff_eq.mp e]; exact List.mem_cons_self ..
    | false => rw [e] at h; exact List.mem_cons_of_mem _ (lookup_mem h)
/-! ### lists of facts -/
def AllL {α : Type} (p : α → Prop) : List α → Prop
  | [] => True
  | a :: l => p a ∧ AllL p l
theorem AllL.mem {α : Type} {p : α → Prop} : ∀ {l : List α}, AllL p l → ∀ a ∈ l, p a
  | [], _, a, h => by cases h
  | b :: l, h, a, m => by
    rcases List.mem_cons.mp m with rfl | m
    · exact h.1
    · exact AllL.mem h.2 a m
theorem atF_all {p : Str → Nat → Prop} {x : Str} {g : Nat} : ∀ {l : List ((Str × Option Str) × Nat)}, AllL (fun e => match e.1.2 with | none => p e.1.1 e.2 | some _ => True) l → atF x none l = some g → p x g
  | [], _, h => by cases h
  | ((y, k), i) :: r, a, h => by
    unfold atF at h
    split at h
    · rename_i e
      obtain ⟨e1, e2⟩ := ba e
      cases h
      obtain rfl := beq_iff_eq.mp e1
      have e2 : (none : Option Str) = k := by simpa using e2
      subst e2
      exact a.1
    · exact atF_all a.2 h
theorem atS_all {α : Type} {p : Str → α → Prop} {x : Str} {g : α} : ∀ {l : List (Str × α)}, AllL (fun e => p e.1 e.2) l → atS x l = some g → p x g
  | [], _, h => by cases h
  | (y, i) :: r, a, h => by
    unfold atS at h
    split at h
    · rename_i e
      cases h
      obtain rfl := beq_iff_eq.mp e
      exact a.1
    · exact atS_all a.2 h
theorem atN_all {α : Type} {p : Nat → α → Prop} {x : Nat} {g : α} : ∀ {l : List (Nat × α)}, AllL (fun e => p e.1 e.2) l → atN x l = some g → p x g
  | [], _, h => by cases h
  | (y, i) :: r, a, h => by
    unfold atN at h
    split at h
    · rename_i e
      cases h
      obtain rfl := beq_iff_eq.mp e
      exact a.1
    · exact atN_all a.2 h
/-- names by numbers, one for one -/
def injB : List (Nat × Str) → Bool
  | [] => true
  | (i, x) :: r => (r.all fun p => !(p.1 == i) && !(p.2 == x)) && injB r
theorem injB_ok : ∀ {l : List (Nat × Str)}, injB l = true → ∀ f g x, atN f l = some x → atN g l = some x → f = g
  | [], _, f, g, x, h, _ => by cases h
  | (i, y) :: r, hb, f, g, x, h1, h2 => by
    obtain ⟨b1, b2⟩ := ba hb
    have no : ∀ {k : Nat}, atN k r = some y → False := fun {k} h => by
      have key : ∀ {l : List (Nat × Str)}, atN k l = some y → ∃ p ∈ l, p.2 = y := fun {l} => by
        induction l with
        | nil => intro h; cases h
        | cons p l ih =>
          intro h
          obtain ⟨j, z⟩ := p
          unfold atN at h
          split at h
          · cases h; exact ⟨_, List.mem_cons_self .., rfl⟩
          · obtain ⟨q, m, e⟩ := ih h
            exact ⟨q, List.mem_cons_of_mem _ m, e⟩
      obtain ⟨p, m, e⟩ := key h
      have := List.all_eq_true.mp b1 p m
      simp [e] at this
    unfold atN at h1 h2
    split at h1
    · rename_i e1
      cases h1
      split at h2
      · rename_i e2; rw [← beq_iff_eq.mp e1, ← beq_iff_eq.mp e2]
      · exact (no h2).elim
    · split at h2
      · cases h2; exact (no h1).elim
      · exact injB_ok b2 f g x h1 h2
/-! ### the law's end -/
/-- what lets nothing out -/
theorem fn_still {P : Program} {w : World} {K : PySem.W.Frag} {mg : Str → Option Value} {base : Heap} {k : Nat} {f : Addr} {fd : FuncData} {ps : List Str} {sp : Sp} (F : FnOk P w K mg base (L2.CX P w) k f fd ps sp) : FnOk P w K mg base CX0 k f fd ps (fun vs H Q _ => sp vs H Q fun _ _ _ => False) :=
  ⟨fun vs H Q E h => F.len _ _ _ _ h, fun A outer s H args us vs Q E hr he hb hv hs => codeAny_mono (F.run A outer s H args us vs Q (fun _ _ _ => False) hr he hb hv hs) fun r s' q => by
    cases r with
    | error e =>
      obtain ⟨a, B, H', cls, d, _, _, _, _, _, _, _, z⟩ := q
      exact z.elim
    | ok fl => cases fl <;> exact q⟩
theorem frz_of {K : PySem.W.Frag} {H : Hp} {a : Addr} {xs : List V} (nl : noLst K = true) (O : Only H) (S : SqL K H a xs) : ∃ o, H a = some (.frz o (.lst xs)) := by
  rcases S with (h | ⟨o, h⟩) | ⟨o, its, n, h1, h2, _⟩
  · rcases O a with z | ⟨o, ys, z⟩
    · rw [h] at z; cases z
    · rw [h] at z; cases z
  · exact ⟨o, h⟩
  · have := List.all_eq_true.mp nl (a, o) (lookup_mem h1)
    rw [h2] at this
    simp at this
theorem law_sp {Λ : Ln} {T : Tx} {d g : Nat} {H : Hp} {a : Addr} {ns : List Int} (nl : noLst Λ.K = true) (O : Only H) (S : SqL Λ.K H a (ns.map V.int)) {h' : AH} (e : T.fn d g [.obj 0] [.frz (ns.map PV.int)] = .ok (.bl true) h') :
    spO Λ (T.fn d g) 1 [.ref a] H (fun v _ => v = .bl true) fun _ _ _ => False := by
  obtain ⟨o, ho⟩ := frz_of nl O S
  have nt : ∀ ys, ¬ Rd H a (.tup ys) := fun ys z => by
    rcases z with z | ⟨_, z⟩ <;> rw [ho] at z <;> cases z
  refine ⟨[a], [.obj 0], [.frz (ns.map PV.int)], rfl, ⟨rfl, by simp, fun b hb => ?_, fun b hb => ?_, fun n b ao h1 h2 => ?_⟩, .cons (.obj rfl) .nil, ?_⟩
  · rw [List.mem_singleton.mp hb]; exact nt
  · rw [List.mem_singleton.mp hb, ho]; exact fun z => nomatch z
  · match n, h1, h2 with
    | 0, h1, h2 =>
      cases h1; cases h2
      refine ⟨_, o, ho, ?_⟩
      have key : ∀ l : List Int, RpL Λ [a] H (l.map V.int) (l.map PV.int) := fun l => by
        induction l with
        | nil => exact .nil
        | cons i r ih => exact .cons (.int i) ih
      exact key ns
    | n + 1, h1, _ => simp at h1
  · rw [e]
    intro ρ' H' b _ _ rb
    cases rb
    rfl
end NI
end

section
set_option Elab.async false
set_option autoImplicit false
set_option linter.all false
set_option maxRecDepth 100000
set_option maxHeartbeats 4000000
/-! The facts of a law's module, from checks that the head's run has made. -/
namespace NI
open PySem PySem.Spec PyProof.Rows L2
/-- a class that is asked for in isinstance: its name, its number, a built-in class perhaps -/
structure TyD where
  x : Str
  n : Nat
  b : Option String
structure LawD where
  P : Program
  S : Stx
  cas : List (Nat × Str)
  xcs : List Nat
  tys : List TyD
  ans : List (Nat × Str)
  T : Tx
  inj : injB ans = true
def TyD.v (K : PySem.W.Frag) (t : TyD) : Value := match t.b with
  | some b => .type b
  | none => .ref (He.ga K t.x)
def TyD.V (K : PySem.W.Frag) (t : TyD) : L2.V := match t.b with
  | some b => .ty b
  | none => .ref (He.ga K t.x)
def LawD.ln (D : LawD) (w : World) (K : PySem.W.Frag) : Ln where
  P := D.P
  w := w
  K := K
  ga := fun _ => none
  ca := fun C => (atN C D.cas).map (He.ga K)
  an := fun f => atN f D.ans
  xc := fun C => D.xcs.contains C
  an_inj := injB_ok D.inj
/-! ### the checks -/
def LawD.kitB (D : LawD) : ExF' := fun K => D.cas.all fun c => !(D.xcs.contains c.1) || D.tys.all fun t => decide (PySem.W.kitOne K (.ref (He.ga K c.2)) (t.v K) = some (D.T.sub c.1 t.n))
def LawD.noatB (D : LawD) : ExF' := fun K => D.cas.all fun c => D.ans.all fun a => (D.T.mt c.1 a.1).isSome || He.eqO (PySem.W.findIn K (.ref (He.ga K c.2)) a.2) (some none)
def LawD.excB (D : LawD) : ExF' := fun K => D.cas.all fun c => !(D.xcs.contains c.1) || excCB c.2 K
def LawD.pxB (D : LawD) : ExF' := fun K => D.S.cls.all fun e => !e.2.2 || ((He.Fa.glo e.1).ok K && (He.Fa.exc e.1).ok K)
def LawD.freeB (D : LawD) : ExF' := fun K => bltNames.all fun x => (D.S.fn x).isSome || (He.Fa.free x).ok K
def LawD.tyB (D : LawD) : ExF' := fun K => D.tys.all fun t => match t.b with
  | some b => (He.Fa.free t.x).ok K && decide (bootBuiltins t.x = some (.type b))
  | none => (He.Fa.glo t.x).ok K
def LawD.fx (D : LawD) : List ExF' := [noLst, D.kitB, D.noatB, D.excB, D.pxB, D.freeB, D.tyB]
/-- checks of numbers, with no heap -/
structure LawD.Ok (D : LawD) : Prop where
  att : (D.S.attrs.all fun e => atN e.2 D.ans == some e.1) = true
  px : (D.S.cls.all fun e => !e.2.2 || (atN e.2.1 D.cas == some e.1 && D.xcs.contains e.2.1)) = true
  ty : (D.S.exts.all fun e => D.tys.any fun t => t.x == e.1 && t.n == e.2) = true
  px0 : ∀ e ∈ D.S.cls, e.2.2 = true → (D.T.exi e.2.1 [] = none ∨ D.T.exi e.2.1 [] = some []) ∧ ∀ p, D.T.exi e.2.1 [p] = none ∨ D.T.exi e.2.1 [p] = some []
theorem atS_mem {α : Type} {x : Str} {a : α} : ∀ {l : List (Str × α)}, atS x l = some a → (x, a) ∈ l
  | [], h => by cases h
  | (y, b) :: r, h => by
    unfold atS at h
    split at h
    · rename_i e
      cases h
      rw [beq_iff_eq.mp e]; exact List.mem_cons_self ..
    · exact List.mem_cons_of_mem _ (atS_mem h)
theorem atN_mem {α : Type} {x : Nat} {a : α} : ∀ {l : List (Nat × α)}, atN x l = some a → (x, a) ∈ l
  | [], h => by cases h
  | (y, b) :: r, h => by
    unfold atN at h
    split at h
    · rename_i e
      cases h
      rw [← beq_iff_eq.mp e]; exact List.mem_cons_self ..
    · exact List.mem_cons_of_mem _ (atN_mem h)
theorem exc_mem {S : Stx} {x : Str} {Ci : Nat} (h : S.exc x = some Ci) : (x, Ci, true) ∈ S.cls := by
  unfold Stx.exc at h
  split at h
  · rename_i i e
    cases h
    exact atS_mem e
  · cases h
theorem ob {a b : Bool} (h : (a || b) = true) (na : a = false) : b = true := by rw [na] at h; simpa using h
section
variable {D : LawD} {w : World} {K : PySem.W.Frag} {h : Heap} {mg : Str → Option Value} {fa : List He.Fa} {fx' : List ExF'} {fn : List He.DefD} {fi : List IniD}
theorem sx (c : SaysX D.P fa (D.fx ++ fx') fn fi K) (i : Nat) {f : ExF'} (e : D.fx[i]? = some f) : f K = true := by
  refine c.xact i ?_
  rw [List.getElem?_append_left (List.getElem?_eq_some_iff.mp e).1]; exact e
theorem all_exc (c : SaysX D.P fa (D.fx ++ fx') fn fi K) {C : Nat} {cA : Addr} (h1 : (D.ln w K).xc C = true) (h2 : (D.ln w K).ca C = some cA) : ExcC K cA := by
  obtain ⟨x, e1, e2⟩ := Option.map_eq_some_iff.mp h2
  subst e2
  have := List.all_eq_true.mp (sx c 3 (f := D.excB) rfl) _ (atN_mem e1)
  exact excCB_ok (ob this (by rw [show D.xcs.contains C = true from h1]; rfl))
theorem all_px (o : D.Ok) (X : K.In h) (G : h.Ns mainGlobals mg) (c : SaysX D.P fa (D.fx ++ fx') fn fi K) {x : Str} {Ci : Nat} (hx : D.S.exc x = some Ci) : (D.ln w K).xc Ci = true ∧ (D.ln w K).ca Ci = some (He.ga K x) ∧ ExF (D.ln w K) K mg x Ci := by
  have m := exc_mem hx
  have q := ob (List.all_eq_true.mp o.px _ m) rfl
  obtain ⟨q1, q2⟩ := ba q
  have e1 : (D.ln w K).ca Ci = some (He.ga K x) := by
    show (atN Ci D.cas).map (He.ga K) = _
    rw [show atN Ci D.cas = some x from by simpa using q1]; rfl
  have z := ob (List.all_eq_true.mp (sx c 4 (f := D.pxB) rfl) _ m) rfl
  obtain ⟨z0, z⟩ := ba z
  obtain ⟨z1, z2, z3, z4⟩ := He.exc_ok z
  exact ⟨q2, e1, ⟨He.ga K x, He.veBase, "ValueError", "ValueError.__new__", "ValueError.__init__", e1, F.excBase_ValueError, z1, He.glo_ok X G z0, z2, z3, z4⟩⟩
theorem all_free (X : K.In h) (G : h.Ns mainGlobals mg) (c : SaysX D.P fa (D.fx ++ fx') fn fi K) {x : Str} (hx : D.S.fn x = none) (hb : x ∈ bltNames) : mg x = none := by
  have z := ob (List.all_eq_true.mp (sx c 5 (f := D.freeB) rfl) _ hb) (by rw [hx]; rfl)
  exact He.free_ok X G z
theorem all_naf (c : SaysX D.P fa (D.fx ++ fx') fn fi K) : NaF (D.ln w K) D.T.mt := fun C cA f x h1 h2 h3 => by
  obtain ⟨y, e1, e2⟩ := Option.map_eq_some_iff.mp h1
  subst e2
  have z := List.all_eq_true.mp (List.all_eq_true.mp (sx c 2 (f := D.noatB) rfl) _ (atN_mem e1)) _ (atN_mem h2)
  exact He.eqO_ok (ob z (by rw [h3]; rfl))
theorem all_ext (o : D.Ok) (X : K.In h) (G : h.Ns mainGlobals mg) (c : SaysX D.P fa (D.fx ++ fx') fn fi K) {t : Str} {n : Nat} (ht : atS t D.S.exts = some n) : ∃ cV cv, (∀ u, RelV cV u → u = cv) ∧ RelV cV cv ∧
    (∀ C cA, (D.ln w K).xc C = true → (D.ln w K).ca C = some cA → ExcC (D.ln w K).K cA → PySem.W.kitOne (D.ln w K).K (.ref cA) cv = some (D.T.sub C n)) ∧ (mg t = some cv ∨ (mg t = none ∧ bootBuiltins t = some cv)) := by
  obtain ⟨ty, m, e⟩ := List.any_eq_true.mp (List.all_eq_true.mp o.ty _ (atS_mem ht))
  obtain ⟨e1', e2'⟩ := ba e
  have e1 : ty.x = t := beq_iff_eq.mp e1'
  have e2 : ty.n = n := beq_iff_eq.mp e2'
  clear e e1' e2'
  subst e1
  subst e2
  have hk : ∀ C cA, (D.ln w K).xc C = true → (D.ln w K).ca C = some cA → ExcC (D.ln w K).K cA → PySem.W.kitOne (D.ln w K).K (.ref cA) (ty.v K) = some (D.T.sub C ty.n) := fun C cA h1 h2 _ => by
    obtain ⟨y, k1, k2⟩ := Option.map_eq_some_iff.mp h2
    subst k2
    have z := ob (List.all_eq_true.mp (sx c 1 (f := D.kitB) rfl) _ (atN_mem k1)) (by rw [show D.xcs.contains C = true from h1]; rfl)
    exact of_decide_eq_true (List.all_eq_true.mp z _ m)
  have z := List.all_eq_true.mp (sx c 6 (f := D.tyB) rfl) _ m
  refine ⟨ty.V K, ty.v K, ?_, ?_, hk, ?_⟩
  · unfold TyD.V TyD.v
    cases eb : ty.b with
    | some b => exact fun u r => r
    | none => exact fun u r => r
  · unfold TyD.V TyD.v
    cases eb : ty.b with
    | some b => rfl
    | none => rfl
  · have z : (match ty.b with
      | some b => (He.Fa.free ty.x).ok K && decide (bootBuiltins ty.x = some (.type b))
      | none => (He.Fa.glo ty.x).ok K) = true := z
    unfold TyD.v
    cases eb : ty.b with
    | some b =>
      rw [eb] at z
      obtain ⟨z1, z2⟩ := ba z
      exact .inr ⟨He.free_ok X G z1, of_decide_eq_true z2⟩
    | none =>
      rw [eb] at z
      exact .inl (He.glo_ok X G z)
/-! ### an exception class with an __init__ -/
def supScB (P : Program) (scope : Scope) (params : Arguments) (slf par : Str) : Bool := scope.kind == .function && (!scope.isCoroutine && (!scope.isGenerator && ((scope.names.all fun x => !(x.2 == .cell)) && ((scope.names.all fun x => !(x.2 == .free) || x.1 == ("__class__" : Str)) &&
  (scope.names.lookup slf == some .local && (scope.names.lookup par == some .local && (scope.names.lookup ("super" : Str) == some .globalImplicit && (scope.names.lookup ("__class__" : Str) == some .free && (!(slf == par) && (((params.posonlyargs ++ params.args).head?.map (·.arg)) == some slf &&
  !(P.main.scope.names.lookup ("super" : Str)).isSome))))))))))
theorem exm_of {P : Program} {x slf par fld m name qual : Str} {Ci fi : Nat} {params : Arguments} {scope : Scope} {p0 p1 p2 p3 p4 p5 p6 p7 p8 p9 : Pos} {j : Nat} (e0 : D.P = P)
    (I : InF P K ⟨x, name, qual, params, [.Expr (.Call (.Attribute (.Call (.Name "super" p0) [] [] p1) "__init__" p2) [.Constant (.str m) j p3] [] p4) p5, .Assign [.Attribute (.Name slf p6) fld p7] (.Name par p8) p9], scope⟩)
    (sc : supScB P scope params slf par = true) (so : oexB x K = true) (ss : supB x K = true) (hne : okName slf = true ∧ okName par = true) (hl : (p2.endLine == p4.line) = true) (hm : PyData.strOk m = true)
    (h1 : (D.ln w K).xc Ci = true) (h2 : (D.ln w K).ca Ci = some (He.ga K x)) (hx : ExcC K (He.ga K x)) (hf : (D.ln w K).an fi = some fld) (hno : PySem.W.findIn K (.ref (He.ga K x)) fld = some none) (g : mg x = some (.ref (He.ga K x))) (gs : mg "super" = none)
    (hb1 : ∀ (fd : FuncData), fd.params = params → fd.defaults = .none → ∀ a u : Value, bindArgs fd ⟨[a, u], []⟩ = pure [(slf, a), (par, u)]) (hb2 : ∀ (fd : FuncData), fd.params = params → fd.defaults = .none → ∀ a u : Value, bindArgs fd ⟨[a], [(par, u)]⟩ = pure [(slf, a), (par, u)]) : ExM (D.ln w K) mg x par Ci fi := by
  obtain ⟨s1, sc⟩ := ba sc
  obtain ⟨s2, sc⟩ := ba sc
  obtain ⟨s3, sc⟩ := ba sc
  obtain ⟨s4, sc⟩ := ba sc
  obtain ⟨s5, sc⟩ := ba sc
  obtain ⟨s6, sc⟩ := ba sc
  obtain ⟨s7, sc⟩ := ba sc
  obtain ⟨s8, sc⟩ := ba sc
  obtain ⟨s9, sc⟩ := ba sc
  obtain ⟨s10, sc⟩ := ba sc
  obtain ⟨s11, s12⟩ := ba sc
  obtain ⟨u1, ss⟩ := ba ss
  obtain ⟨u2, ss⟩ := ba ss
  obtain ⟨u3, ss⟩ := ba ss
  obtain ⟨u4, u5⟩ := ba ss
  obtain ⟨oc, od, kV, doc, pm, an, cda, ct, osl, cc, lk, hcd, hcell, hcode⟩ := I.ex
  obtain ⟨ccl, cdd, vs, ccs, file, tf, k1, k2, k3⟩ := hcode
  have T := oexB_ok so
  obtain ⟨n1, n2, _⟩ := okName_ok hne.1
  obtain ⟨m1, m2, _⟩ := okName_ok hne.2
  have SU : SupF K P qual slf par scope params (.ref cda) cc (He.ga K x) := {
    kind := beq_iff_eq.mp s1
    co := by simpa using s2
    gen := by simpa using s3
    nocell := fun y hy => by simpa using List.all_eq_true.mp s4 y hy
    onefree := fun y hy => by
      have := List.all_eq_true.mp s5 _ (PySem.mem_of_lookup hy)
      simpa using this
    ls := beq_iff_eq.mp s6
    lp := beq_iff_eq.mp s7
    sup := beq_iff_eq.mp s8
    cls := beq_iff_eq.mp s9
    ne := by simpa using s10
    head := by
      have s11 := beq_iff_eq.mp s11
      obtain ⟨ar, e1, e2⟩ := Option.map_eq_some_iff.mp s11
      exact ⟨ar, e1, e2⟩
    code := ⟨cda, ccl, cdd, vs, ccs, file, tf, rfl, k1, k2, k3⟩
    cd := hcd
    cell := hcell
    top := by simpa using s12
    opq := He.eqO_ok u1
    up := He.eqO_ok u2
    vE := of_decide_eq_true u3 }
  subst e0
  refine ⟨h1, He.ga K x, iAd K x, _, [slf, par], fld, h2, hx, hf, hno, T, He.eqO_ok u4, of_decide_eq_true u5, fun base => initS_ok (k := 0) lk SU T hno gs n1 m1 n2 m2 hl hm, fun s a u _ => BindsTo.of_eq (hb1 _ rfl rfl a u), fun s a u _ => BindsTo.of_eq (hb2 _ rfl rfl a u), g⟩
/-! ### the module -/
theorem mod_of (o : D.Ok) (X : K.In h) (G : h.Ns mainGlobals mg) (c : SaysX D.P fa (D.fx ++ fx') fn fi K)
    (hfn : AllL (fun e => match e.1.2 with | none => (fun x g => ∃ f fd ps, mg x = some (.ref f) ∧ DefI (D.ln w K) D.S D.T mg g f fd ps) e.1.1 e.2 | some _ => True) D.S.fns)
    (hcst : AllL (fun e => D.T.cst e.2 = none ∨ ∃ p v u, D.T.cst e.2 = some p ∧ mg e.1 = some u ∧ RelV v u ∧ ∀ ρ H, Rp (D.ln w K) ρ H v p) D.S.csts)
    (hexs : AllL (fun e => (∀ p, D.T.exi e.2.1 [p] = none ∨ D.T.exi e.2.1 [p] = some [(e.2.2.1, p)]) ∧ ExM (D.ln w K) mg e.1 e.2.2.2 e.2.1 e.2.2.1) D.S.exs)
    (hmt : ∀ C cA m nm g, (D.ln w K).ca C = some cA → (D.ln w K).an m = some nm → D.T.mt C m = some g → ∃ f fd ps, Meth K cA nm f ∧ DefI (D.ln w K) D.S D.T mg g f fd ps) : Mod' (D.ln w K) D.S D.T mg where
  fn := fun x g hx => atF_all (p := fun x g => ∃ f fd ps, mg x = some (.ref f) ∧ DefI (D.ln w K) D.S D.T mg g f fd ps) hfn hx
  cst := fun x k hx => AllL.mem hcst _ (atS_mem hx)
  blt := fun x h1 h2 => all_free X G c h1 h2
  att := fun x i hx => by
    have := List.all_eq_true.mp o.att _ (atS_mem hx)
    exact beq_iff_eq.mp this
  exc := fun x Ci hx => by
    obtain ⟨_, _, e⟩ := all_px (w := w) o X G c hx
    exact ⟨(o.px0 _ (exc_mem hx) rfl).1, e⟩
  exv := fun x Ci hx => by
    obtain ⟨e1, e2, _⟩ := all_px (w := w) o X G c hx
    exact ⟨e1, (o.px0 _ (exc_mem hx) rfl).2, fun C hC => all_exc c e1 hC⟩
  exs := fun x Ci fi par hx => AllL.mem hexs _ (atS_mem hx)
  ext := fun t n ht => all_ext o X G c ht
  mt := hmt
  naf := all_naf c
end
end NI
end

section
set_option linter.all false
set_option maxRecDepth 100000
namespace NI.LW
open PySem
def stx : Stx := {
  fns := [fnE "_law_deck" none 1064, fnE "_law_draw" none 1070, fnE "_law_same" none 1262, fnE "_law_reserved" none 1250, fnE "_law_name" none 1189, fnE "_law_low" none 1173, fnE "_law_high" none 1123, fnE "_law_classes" none 1055, fnE "_law_made_errors" none 1178, fnE "law" none 1345],
  pars := [parE 1064 ["script"] [none], parE 1070 ["deck", "many"] [none, none], parE 1262 ["found", "owed"] [none, none], parE 1250 [] [], parE 1189 ["deck", "first", "used"] [none, none, none], parE 1173 ["deck", "used"] [none, none], parE 1123 ["deck", "used"] [none, none], parE 1055 ["e"] [none], parE 1178 ["words", "place", "what"] [none, none, none], parE 1345 ["script"] [none]],
  cls := [clsE "InputsError" 27 true, clsE "BadProgram" 11 true, clsE "BadStore" 14 true, clsE "BadChanges" 3 true, clsE "BadBook" 2 true, clsE "BadFact" 6 true, clsE "BadSource" 13 true, clsE "BadEvent" 5 true, clsE "BadType" 16 true, clsE "BadName" 9 true, clsE "BadArgs" 1 true, clsE "BadAnswers" 0 true, clsE "BadLimit" 7 true, clsE "BadOther" 10 true, clsE "BadRuns" 12 true, clsE "BadChosen" 4 true, clsE "BadMany" 8 true, clsE "TooGreat" 43 true, clsE "BadText" 15 false, clsE "NotChecked" 30 false, clsE "NotTyped" 32 false, clsE "NotJoined" 31 false],
  csts := [],
  attrs := [namE "append" 6, namE "place" 128, namE "pop" 132, namE "what" 191],
  exs := [(Str.ofString "BadText", 15, 128, Str.ofString "place"), (Str.ofString "NotChecked", 30, 191, Str.ofString "what"), (Str.ofString "NotTyped", 32, 191, Str.ofString "what"), (Str.ofString "NotJoined", 31, 191, Str.ofString "what")],
  exts := [namE "InputsError" 27, namE "BadProgram" 11, namE "BadStore" 14, namE "BadChanges" 3, namE "BadBook" 2, namE "BadFact" 6, namE "BadSource" 13, namE "BadEvent" 5, namE "BadType" 16, namE "BadName" 9, namE "BadArgs" 1, namE "BadAnswers" 0, namE "BadLimit" 7, namE "BadOther" 10, namE "BadRuns" 12, namE "BadChosen" 4, namE "BadMany" 8, namE "TooGreat" 43, namE "BadText" 15, namE "NotChecked" 30, namE "NotTyped" 32, namE "NotJoined" 31, namE "ValueError" 900] }

def ir_1064 : NI.S := (S.seq (S.asg (E.var 1) (E.con (PV.int 67))) (S.seq (S.for_ (E.var 2) (E.val (E.slc (E.var 0) (E.con (PV.non)) (E.con (PV.int 63)))) (S.asg (E.var 1) (E.bin (Bo.mod) (E.bf (Bf.int) (E.cons (E.bin (Bo.add) (E.bin (Bo.add) (E.bin (Bo.mul) (E.var 1) (E.con (PV.int 40692))) (E.bin (Bo.mod) (E.bf (Bf.int) (E.cons (E.var 2) (E.nil))) (E.con (PV.int 4294967279)))) (E.con (PV.int 41))) (E.nil))) (E.con (PV.int 4294967291))))) (S.ret (E.new (E.lst (E.cons (E.new (E.lc (E.bf (Bf.int) (E.cons (E.var 2) (E.nil))) (E.var 2) (E.val (E.slc (E.var 0) (E.con (PV.non)) (E.con (PV.int 63)))) (E.cons (E.cmp (Co.ge) (E.var 2) (E.bin (Bo.pow) (E.con (PV.int 10)) (E.con (PV.int 18)))) (E.nil)) [2])) (E.cons (E.con (PV.int 0)) (E.cons (E.var 1) (E.cons (E.con (PV.int 0)) (E.nil))))))))))
def N_1064 : List Str := ["script", "mixed", "cell"]
def ps_1064 : List Str := ["script"]
def ir_1070 : NI.S := (S.seq (S.ite (E.and (E.cmp (Co.eq) (E.ix (E.var 0) (E.con (PV.int 1))) (E.con (PV.int 0))) (E.cmpq (Co.ne) (E.val (E.ix (E.var 0) (E.con (PV.int 0)))) (E.new (E.lst (E.nil))))) (S.asg (E.ix (E.var 0) (E.con (PV.int 1))) (E.bin (Bo.sub) (E.bm (E.ix (E.var 0) (E.con (PV.int 0))) (Bm.popAt) (E.cons (E.con (PV.int 0)) (E.nil))) (E.bin (Bo.pow) (E.con (PV.int 10)) (E.con (PV.int 18))))) (S.skip)) (S.seq (S.ite (E.cmp (Co.gt) (E.ix (E.var 0) (E.con (PV.int 1))) (E.con (PV.int 0))) (S.seq (S.asg (E.var 2) (E.bin (Bo.mod) (E.bf (Bf.int) (E.cons (E.ix (E.var 0) (E.con (PV.int 1))) (E.nil))) (E.var 1))) (S.seq (S.asg (E.ix (E.var 0) (E.con (PV.int 1))) (E.bin (Bo.fdiv) (E.ix (E.var 0) (E.con (PV.int 1))) (E.var 1))) (S.ret (E.var 2)))) (S.skip)) (S.seq (S.asg (E.ix (E.var 0) (E.con (PV.int 3))) (E.bin (Bo.add) (E.ix (E.var 0) (E.con (PV.int 3))) (E.con (PV.int 1)))) (S.seq (S.asg (E.ix (E.var 0) (E.con (PV.int 2))) (E.bin (Bo.mod) (E.bf (Bf.int) (E.cons (E.bin (Bo.add) (E.bin (Bo.add) (E.bin (Bo.mul) (E.ix (E.var 0) (E.con (PV.int 2))) (E.con (PV.int 48271))) (E.bin (Bo.mul) (E.bin (Bo.mul) (E.ix (E.var 0) (E.con (PV.int 3))) (E.ix (E.var 0) (E.con (PV.int 3)))) (E.con (PV.int 16807)))) (E.con (PV.int 7))) (E.nil))) (E.con (PV.int 2147483647)))) (S.ret (E.bin (Bo.mod) (E.bin (Bo.fdiv) (E.bin (Bo.mod) (E.bf (Bf.int) (E.cons (E.bin (Bo.mul) (E.ix (E.var 0) (E.con (PV.int 2))) (E.bin (Bo.add) (E.bin (Bo.fdiv) (E.ix (E.var 0) (E.con (PV.int 2))) (E.con (PV.int 32))) (E.con (PV.int 11)))) (E.nil))) (E.con (PV.int 2147483629))) (E.con (PV.int 8))) (E.var 1)))))))
def N_1070 : List Str := ["deck", "many", "found"]
def ps_1070 : List Str := ["deck", "many"]
def ir_1262 : NI.S := (S.seq (S.ite (E.isi (E.var 1) [Ty.tuple]) (S.seq (S.ite (E.or (E.not (E.isi (E.var 0) [Ty.tuple])) (E.cmp (Co.ne) (E.bf (Bf.len) (E.cons (E.var 0) (E.nil))) (E.bf (Bf.len) (E.cons (E.var 1) (E.nil))))) (S.ret (E.con (PV.bl false))) (S.skip)) (S.ret (E.cmpq (Co.eq) (E.new (E.lc (E.var 2) (E.var 2) (E.rng (E.bf (Bf.len) (E.cons (E.var 1) (E.nil)))) (E.cons (E.not (E.call 1262 (E.cons (E.ix (E.var 0) (E.var 2)) (E.cons (E.ix (E.var 1) (E.var 2)) (E.nil))) [])) (E.nil)) [2])) (E.new (E.lst (E.nil)))))) (S.skip)) (S.seq (S.ite (E.or (E.cmp (Co.isa) (E.var 1) (E.con (PV.non))) (E.isi (E.var 1) [Ty.bool])) (S.ret (E.or (E.and (E.cmp (Co.isa) (E.var 0) (E.con (PV.non))) (E.cmp (Co.isa) (E.var 1) (E.con (PV.non)))) (E.and (E.isi (E.var 0) [Ty.bool]) (E.cmp (Co.eq) (E.var 0) (E.var 1))))) (S.skip)) (S.seq (S.ite (E.isi (E.var 1) [Ty.str]) (S.ret (E.and (E.isi (E.var 0) [Ty.str]) (E.cmp (Co.eq) (E.var 0) (E.var 1)))) (S.skip)) (S.ret (E.and (E.isi (E.var 0) [Ty.int]) (E.and (E.not (E.isi (E.var 0) [Ty.bool])) (E.cmp (Co.eq) (E.var 0) (E.var 1))))))))
def N_1262 : List Str := ["found", "owed", "k"]
def ps_1262 : List Str := ["found", "owed"]
def ir_1250 : NI.S := (S.ret (E.tup (E.cons (E.con (PV.str [99, 101, 108, 108])) (E.cons (E.con (PV.str [100, 101, 102])) (E.cons (E.con (PV.str [100, 111])) (E.cons (E.con (PV.str [101, 108, 115, 101])) (E.cons (E.con (PV.str [103, 105, 118, 101])) (E.cons (E.con (PV.str [105, 102])) (E.cons (E.con (PV.str [107, 105, 110, 100])) (E.cons (E.con (PV.str [108, 101, 116])) (E.cons (E.con (PV.str [108, 111, 111, 107])) (E.cons (E.con (PV.str [109, 97, 116, 99, 104])) (E.cons (E.con (PV.str [119, 104, 111, 108, 101])) (E.nil))))))))))))))
def N_1250 : List Str := []
def ps_1250 : List Str := []
def ir_1189 : NI.S := (S.seq (S.asg (E.var 3) (E.con (PV.str [97, 98, 99, 100, 101, 102, 103, 104, 105, 106, 107, 108, 109, 110, 111, 112, 113, 114, 115, 116, 117, 118, 119, 120, 121, 122, 65, 66, 67, 68, 69, 70, 71, 72, 73, 74, 75, 76, 77, 78, 79, 80, 81, 82, 83, 84, 85, 86, 87, 88, 89, 90, 48, 49, 50, 51, 52, 53, 54, 55, 56, 57]))) (S.seq (S.asg (E.var 4) (E.ix (E.var 1) (E.call 1070 (E.cons (E.var 0) (E.cons (E.bf (Bf.len) (E.cons (E.var 1) (E.nil))) (E.nil))) []))) (S.seq (S.for_ (E.var 5) (E.rng (E.ixn (E.lst (E.cons (E.con (PV.int 0)) (E.cons (E.con (PV.int 1)) (E.cons (E.con (PV.int 2)) (E.cons (E.con (PV.int 9)) (E.nil)))))) (E.call 1070 (E.cons (E.var 0) (E.cons (E.con (PV.int 4)) (E.nil))) []))) (S.asg (E.var 4) (E.bin (Bo.add) (E.var 4) (E.ix (E.var 3) (E.call 1070 (E.cons (E.var 0) (E.cons (E.con (PV.int 62)) (E.nil))) []))))) (S.seq (S.ite (E.or (E.cmp (Co.inn) (E.var 4) (E.var 2)) (E.or (E.cmp (Co.inn) (E.slc (E.var 4) (E.con (PV.non)) (E.con (PV.int 2))) (E.tup (E.cons (E.con (PV.str [122, 122])) (E.cons (E.con (PV.str [90, 122])) (E.nil))))) (E.cmp (Co.inn) (E.var 4) (E.call 1250 (E.nil) [])))) (S.asg (E.var 4) (E.ixn (E.lc (E.bin (Bo.add) (E.slc (E.var 4) (E.con (PV.non)) (E.con (PV.int 1))) (E.bf (Bf.str) (E.cons (E.var 5) (E.nil)))) (E.var 5) (E.rng (E.bin (Bo.add) (E.bf (Bf.len) (E.cons (E.var 2) (E.nil))) (E.con (PV.int 1)))) (E.cons (E.cmp (Co.nin) (E.bin (Bo.add) (E.slc (E.var 4) (E.con (PV.non)) (E.con (PV.int 1))) (E.bf (Bf.str) (E.cons (E.var 5) (E.nil)))) (E.var 2)) (E.nil)) [5]) (E.con (PV.int 0)))) (S.skip)) (S.seq (S.expr (E.bm (E.var 2) (Bm.append) (E.cons (E.var 4) (E.nil)))) (S.ret (E.var 4)))))))
def N_1189 : List Str := ["deck", "first", "used", "tail", "name", "k"]
def ps_1189 : List Str := ["deck", "first", "used"]
def ir_1173 : NI.S := (S.seq (S.ite (E.cmp (Co.eq) (E.call 1070 (E.cons (E.var 0) (E.cons (E.con (PV.int 9)) (E.nil))) []) (E.con (PV.int 0))) (S.seq (S.asg (E.var 2) (E.new (E.lst (E.cons (E.con (PV.str [111, 112])) (E.cons (E.con (PV.str [110, 117, 109])) (E.cons (E.con (PV.str [110, 97, 109, 101])) (E.cons (E.con (PV.str [109, 97, 107, 101])) (E.cons (E.con (PV.str [99, 97, 108, 108])) (E.cons (E.con (PV.str [112, 97, 114, 97, 109])) (E.cons (E.con (PV.str [98, 111, 117, 110, 100])) (E.cons (E.con (PV.str [97, 115, 107, 115])) (E.cons (E.con (PV.str [103, 105, 118, 101, 115])) (E.cons (E.con (PV.str [105, 110])) (E.cons (E.con (PV.str [99, 101, 108, 108, 115])) (E.cons (E.con (PV.str [107, 101, 121])) (E.cons (E.con (PV.str [108, 111, 111])) (E.cons (E.con (PV.str [103, 114, 101, 97, 116])) (E.nil)))))))))))))))))) (S.seq (S.asg (E.var 3) (E.ix (E.var 2) (E.call 1070 (E.cons (E.var 0) (E.cons (E.con (PV.int 14)) (E.nil))) []))) (S.ite (E.cmp (Co.nin) (E.var 3) (E.var 1)) (S.seq (S.expr (E.bm (E.var 1) (Bm.append) (E.cons (E.var 3) (E.nil)))) (S.ret (E.var 3))) (S.skip)))) (S.skip)) (S.ret (E.call 1189 (E.cons (E.var 0) (E.cons (E.con (PV.str [97, 98, 99, 100, 101, 102, 103, 104, 105, 106, 107, 108, 109, 110, 111, 112, 113, 114, 115, 116, 117, 118, 119, 120, 121, 122])) (E.cons (E.var 1) (E.nil)))) [])))
def N_1173 : List Str := ["deck", "used", "some", "word"]
def ps_1173 : List Str := ["deck", "used"]
def ir_1123 : NI.S := (S.ret (E.call 1189 (E.cons (E.var 0) (E.cons (E.con (PV.str [65, 66, 67, 68, 69, 70, 71, 72, 73, 74, 75, 76, 77, 78, 79, 80, 81, 82, 83, 84, 85, 86, 87, 88, 89, 90])) (E.cons (E.var 1) (E.nil)))) []))
def N_1123 : List Str := ["deck", "used"]
def ps_1123 : List Str := ["deck", "used"]
def ir_1055 : NI.S := (S.seq (S.asg (E.var 1) (E.new (E.lst (E.cons (E.isi (E.var 0) [Ty.own 15]) (E.cons (E.isi (E.var 0) [Ty.own 30]) (E.cons (E.isi (E.var 0) [Ty.own 32]) (E.cons (E.isi (E.var 0) [Ty.own 31]) (E.nil)))))))) (S.seq (S.asg (E.var 1) (E.bin (Bo.add) (E.var 1) (E.new (E.lst (E.cons (E.isi (E.var 0) [Ty.own 11]) (E.cons (E.isi (E.var 0) [Ty.own 14]) (E.cons (E.isi (E.var 0) [Ty.own 3]) (E.nil)))))))) (S.seq (S.asg (E.var 1) (E.bin (Bo.add) (E.var 1) (E.new (E.lst (E.cons (E.isi (E.var 0) [Ty.own 2]) (E.cons (E.isi (E.var 0) [Ty.own 6]) (E.cons (E.isi (E.var 0) [Ty.own 5]) (E.cons (E.isi (E.var 0) [Ty.own 13]) (E.nil))))))))) (S.seq (S.asg (E.var 1) (E.bin (Bo.add) (E.var 1) (E.new (E.lst (E.cons (E.isi (E.var 0) [Ty.own 16]) (E.cons (E.isi (E.var 0) [Ty.own 9]) (E.cons (E.isi (E.var 0) [Ty.own 1]) (E.cons (E.isi (E.var 0) [Ty.own 0]) (E.nil))))))))) (S.seq (S.asg (E.var 1) (E.bin (Bo.add) (E.var 1) (E.new (E.lst (E.cons (E.isi (E.var 0) [Ty.own 12]) (E.cons (E.isi (E.var 0) [Ty.own 4]) (E.cons (E.isi (E.var 0) [Ty.own 8]) (E.nil)))))))) (S.ret (E.bin (Bo.add) (E.var 1) (E.new (E.lst (E.cons (E.isi (E.var 0) [Ty.own 7]) (E.cons (E.isi (E.var 0) [Ty.own 10]) (E.cons (E.isi (E.var 0) [Ty.own 43]) (E.nil)))))))))))))
def N_1055 : List Str := ["e", "found"]
def ps_1055 : List Str := ["e"]
def ir_1178 : NI.S := (S.seq (S.asg (E.var 3) (E.new (E.ladd (E.lst (E.cons (E.mkx 15 (E.cons (E.var 1) (E.nil))) (E.cons (E.mkx 30 (E.cons (E.ix (E.var 2) (E.con (PV.int 0))) (E.nil))) (E.cons (E.mkx 32 (E.cons (E.ix (E.var 2) (E.con (PV.int 1))) (E.nil))) (E.cons (E.mkx 31 (E.cons (E.ix (E.var 2) (E.con (PV.int 2))) (E.nil))) (E.nil)))))) (E.lst (E.cons (E.mkx 11 (E.cons (E.var 0) (E.nil))) (E.nil)))))) (S.seq (S.asg (E.var 3) (E.bin (Bo.add) (E.var 3) (E.new (E.lst (E.cons (E.mkx 14 (E.cons (E.var 0) (E.nil))) (E.nil)))))) (S.seq (S.asg (E.var 3) (E.bin (Bo.add) (E.var 3) (E.new (E.lst (E.cons (E.mkx 3 (E.cons (E.var 0) (E.nil))) (E.cons (E.mkx 2 (E.cons (E.var 0) (E.nil))) (E.cons (E.mkx 6 (E.cons (E.var 0) (E.nil))) (E.cons (E.mkx 5 (E.cons (E.var 0) (E.nil))) (E.cons (E.mkx 13 (E.cons (E.var 0) (E.nil))) (E.nil)))))))))) (S.seq (S.asg (E.var 3) (E.bin (Bo.add) (E.var 3) (E.new (E.lst (E.cons (E.mkx 16 (E.cons (E.var 0) (E.nil))) (E.cons (E.mkx 9 (E.cons (E.var 0) (E.nil))) (E.cons (E.mkx 1 (E.cons (E.var 0) (E.nil))) (E.cons (E.mkx 0 (E.cons (E.var 0) (E.nil))) (E.cons (E.mkx 12 (E.cons (E.var 0) (E.nil))) (E.nil)))))))))) (S.ret (E.bin (Bo.add) (E.var 3) (E.new (E.lst (E.cons (E.mkx 4 (E.cons (E.var 0) (E.nil))) (E.cons (E.mkx 8 (E.cons (E.var 0) (E.nil))) (E.cons (E.mkx 7 (E.cons (E.var 0) (E.nil))) (E.cons (E.mkx 10 (E.cons (E.var 0) (E.nil))) (E.cons (E.mkx 43 (E.cons (E.var 0) (E.nil))) (E.nil))))))))))))))
def N_1178 : List Str := ["words", "place", "what", "found"]
def ps_1178 : List Str := ["words", "place", "what"]
def ir_1345 : NI.S := (S.seq (S.asg (E.var 1) (E.call 1064 (E.cons (E.var 0) (E.nil)) [])) (S.seq (S.asg (E.var 2) (E.bin (Bo.add) (E.bin (Bo.add) (E.call 1173 (E.cons (E.var 1) (E.cons (E.new (E.lst (E.nil))) (E.nil))) []) (E.con (PV.str [32]))) (E.call 1123 (E.cons (E.var 1) (E.cons (E.new (E.lst (E.nil))) (E.nil))) []))) (S.seq (S.par [9, 10] (E.cons (E.call 1070 (E.cons (E.var 1) (E.cons (E.bin (Bo.pow) (E.con (PV.int 10)) (E.con (PV.int 6))) (E.nil))) []) (E.cons (E.call 1070 (E.cons (E.var 1) (E.cons (E.con (PV.int 400)) (E.nil))) []) (E.nil)))) (S.seq (S.asg (E.var 3) (E.call 1173 (E.cons (E.var 1) (E.cons (E.new (E.lst (E.nil))) (E.nil))) [])) (S.seq (S.asg (E.var 4) (E.tup (E.cons (E.tup (E.cons (E.con (PV.str [110, 97, 109, 101])) (E.cons (E.var 3) (E.nil)))) (E.cons (E.tup (E.cons (E.con (PV.str [107, 101, 121])) (E.cons (E.var 10) (E.cons (E.bin (Bo.add) (E.con (PV.int 1)) (E.bin (Bo.mod) (E.var 9) (E.con (PV.int 300)))) (E.nil))))) (E.cons (E.tup (E.cons (E.ixn (E.lst (E.cons (E.con (PV.str [107, 105, 110, 100])) (E.cons (E.con (PV.str [102, 97, 109, 105, 108, 121])) (E.cons (E.con (PV.str [100, 101, 102])) (E.nil))))) (E.call 1070 (E.cons (E.var 1) (E.cons (E.con (PV.int 3)) (E.nil))) [])) (E.cons (E.var 3) (E.nil)))) (E.nil)))))) (S.seq (S.asg (E.var 5) (E.call 1178 (E.cons (E.var 2) (E.cons (E.var 9) (E.cons (E.var 4) (E.nil)))) [])) (S.seq (S.for_ (E.var 6) (E.rng (E.bf (Bf.len) (E.cons (E.var 5) (E.nil)))) (S.seq (S.ite (E.or (E.not (E.isi (E.ix (E.var 5) (E.var 6)) [Ty.own 27])) (E.not (E.isi (E.ix (E.var 5) (E.var 6)) [Ty.own 900]))) (S.ret (E.con (PV.bl false))) (S.skip)) (S.ite (E.cmpq (Co.ne) (E.val (E.call 1055 (E.cons (E.ix (E.var 5) (E.var 6)) (E.nil)) [])) (E.new (E.lc (E.cmp (Co.eq) (E.var 11) (E.var 6)) (E.var 11) (E.rng (E.bf (Bf.len) (E.cons (E.var 5) (E.nil)))) (E.nil) [11]))) (S.ret (E.con (PV.bl false))) (S.skip)))) (S.seq (S.asg (E.var 7) (E.mkx 27 (E.cons (E.var 2) (E.nil)))) (S.seq (S.ite (E.or (E.not (E.isi (E.var 7) [Ty.own 900])) (E.cmpq (Co.ne) (E.val (E.call 1055 (E.cons (E.var 7) (E.nil)) [])) (E.new (E.lmul (E.lst (E.cons (E.con (PV.bl false)) (E.nil))) (E.bf (Bf.len) (E.cons (E.var 5) (E.nil))))))) (S.ret (E.con (PV.bl false))) (S.skip)) (S.seq (S.asg (E.var 8) (E.tup (E.cons (E.fld (E.ix (E.var 5) (E.con (PV.int 0))) 128) (E.cons (E.fld (E.ix (E.var 5) (E.con (PV.int 1))) 191) (E.cons (E.fld (E.ix (E.var 5) (E.con (PV.int 2))) 191) (E.cons (E.fld (E.ix (E.var 5) (E.con (PV.int 3))) 191) (E.nil))))))) (S.seq (S.ite (E.not (E.call 1262 (E.cons (E.var 8) (E.cons (E.bin (Bo.add) (E.tup (E.cons (E.var 9) (E.nil))) (E.var 4)) (E.nil))) [])) (S.ret (E.con (PV.bl false))) (S.skip)) (S.seq (S.asg (E.var 8) (E.tup (E.cons (E.fld (E.mkx 15 (E.cons (E.var 10) (E.nil))) 128) (E.cons (E.fld (E.mkx 30 (E.cons (E.ix (E.var 4) (E.con (PV.int 0))) (E.nil))) 191) (E.cons (E.fld (E.mkx 32 (E.cons (E.ix (E.var 4) (E.con (PV.int 1))) (E.nil))) 191) (E.nil)))))) (S.ret (E.call 1262 (E.cons (E.bin (Bo.add) (E.var 8) (E.tup (E.cons (E.fld (E.mkx 31 (E.cons (E.ix (E.var 4) (E.con (PV.int 2))) (E.nil))) 191) (E.nil)))) (E.cons (E.bin (Bo.add) (E.tup (E.cons (E.var 10) (E.nil))) (E.var 4)) (E.nil))) []))))))))))))))
def N_1345 : List Str := ["script", "deck", "words", "low", "what", "made", "k", "base", "fields", "place", "index", "at"]
def ps_1345 : List Str := ["script"]
def defs : List (Nat × Df) := [(1064, ⟨1, 3, ir_1064⟩), (1070, ⟨2, 3, ir_1070⟩), (1262, ⟨2, 3, ir_1262⟩), (1250, ⟨0, 0, ir_1250⟩), (1189, ⟨3, 6, ir_1189⟩), (1173, ⟨2, 4, ir_1173⟩), (1123, ⟨2, 2, ir_1123⟩), (1055, ⟨1, 2, ir_1055⟩), (1178, ⟨3, 4, ir_1178⟩), (1345, ⟨1, 12, ir_1345⟩)]
def csts : List (Nat × PV) := []
def subs : List (Nat × Nat) := [(27, 27), (27, 901), (27, 900), (11, 11), (11, 27), (11, 901), (11, 900), (14, 14), (14, 27), (14, 901), (14, 900), (3, 3), (3, 27), (3, 901), (3, 900), (2, 2), (2, 27), (2, 901), (2, 900), (6, 6), (6, 27), (6, 901), (6, 900), (13, 13), (13, 27), (13, 901), (13, 900), (5, 5), (5, 27), (5, 901), (5, 900), (16, 16), (16, 27), (16, 901), (16, 900), (9, 9), (9, 27), (9, 901), (9, 900), (1, 1), (1, 27), (1, 901), (1, 900), (0, 0), (0, 27), (0, 901), (0, 900), (7, 7), (7, 27), (7, 901), (7, 900), (10, 10), (10, 27), (10, 901), (10, 900), (12, 12), (12, 27), (12, 901), (12, 900), (4, 4), (4, 27), (4, 901), (4, 900), (8, 8), (8, 27), (8, 901), (8, 900), (43, 43), (43, 27), (43, 901), (43, 900), (15, 15), (15, 27), (15, 901), (15, 900), (30, 30), (30, 27), (30, 901), (30, 900), (32, 32), (32, 27), (32, 901), (32, 900), (31, 31), (31, 27), (31, 901), (31, 900)]
def pxs : List Nat := [27, 11, 14, 3, 2, 6, 13, 5, 16, 9, 1, 0, 7, 10, 12, 4, 8, 43]
def exf : List (Nat × Nat) := [(15, 128), (30, 191), (32, 191), (31, 191)]
def exi (C : Nat) (vs : List PV) : Option (List (Nat × PV)) := match pxs.contains C with
  | true => some []
  | false => (match atN C exf, vs with
    | some f, [p] => some [(f, p)]
    | _, _ => none)
def sub (C D : Nat) : Bool := subs.any fun p => Nat.beq p.1 C && Nat.beq p.2 D
def T : Tx := { defs := fun g => atN g defs, cst := fun c => atN c csts, mt := fun _ _ => none, ini := fun _ => none, sub := sub, exi := exi, fuel := 100000 }
end NI.LW
end

section
set_option Elab.async false
set_option linter.all false
set_option maxRecDepth 100000
set_option maxHeartbeats 0
namespace NI.LW
open PySem PySem.Spec PyProof.Rows L2 NI
def top (i : Nat) : Stmt := PySem.Challenge.pw_newinputs_k00_errors.main.body.getD i (.Pass ⟨0, 0, 0, 0⟩)
def inCls (s : Stmt) (j : Nat) : Stmt := match s with
  | .ClassDef _ _ _ body _ _ _ _ _ _ _ => body.getD j (.Pass ⟨0, 0, 0, 0⟩)
  | _ => .Pass ⟨0, 0, 0, 0⟩
abbrev st_1064 : Stmt := (top 24)
theorem co_1064 : kSs stx 60 60 ⟨N_1064, defScope st_1064, N_1064⟩ (defBody st_1064) = some ir_1064 := by kernel_rfl
theorem sc_1064 : FnScope N_1064 ps_1064 (defScope st_1064) := ⟨rfl, rfl, rfl, by decide +kernel, rfl, by decide +kernel, by decide +kernel⟩
abbrev st_1070 : Stmt := (top 25)
theorem co_1070 : kSs stx 60 60 ⟨N_1070, defScope st_1070, N_1070⟩ (defBody st_1070) = some ir_1070 := by kernel_rfl
theorem sc_1070 : FnScope N_1070 ps_1070 (defScope st_1070) := ⟨rfl, rfl, rfl, by decide +kernel, rfl, by decide +kernel, by decide +kernel⟩
abbrev st_1262 : Stmt := (top 26)
theorem co_1262 : kSs stx 60 60 ⟨N_1262, defScope st_1262, N_1262⟩ (defBody st_1262) = some ir_1262 := by kernel_rfl
theorem sc_1262 : FnScope N_1262 ps_1262 (defScope st_1262) := ⟨rfl, rfl, rfl, by decide +kernel, rfl, by decide +kernel, by decide +kernel⟩
abbrev st_1250 : Stmt := (top 27)
theorem co_1250 : kSs stx 60 60 ⟨N_1250, defScope st_1250, N_1250⟩ (defBody st_1250) = some ir_1250 := by kernel_rfl
theorem sc_1250 : FnScope N_1250 ps_1250 (defScope st_1250) := ⟨rfl, rfl, rfl, by decide +kernel, rfl, by decide +kernel, by decide +kernel⟩
abbrev st_1189 : Stmt := (top 28)
theorem co_1189 : kSs stx 60 60 ⟨N_1189, defScope st_1189, N_1189⟩ (defBody st_1189) = some ir_1189 := by kernel_rfl
theorem sc_1189 : FnScope N_1189 ps_1189 (defScope st_1189) := ⟨rfl, rfl, rfl, by decide +kernel, rfl, by decide +kernel, by decide +kernel⟩
abbrev st_1173 : Stmt := (top 29)
theorem co_1173 : kSs stx 60 60 ⟨N_1173, defScope st_1173, N_1173⟩ (defBody st_1173) = some ir_1173 := by kernel_rfl
theorem sc_1173 : FnScope N_1173 ps_1173 (defScope st_1173) := ⟨rfl, rfl, rfl, by decide +kernel, rfl, by decide +kernel, by decide +kernel⟩
abbrev st_1123 : Stmt := (top 30)
theorem co_1123 : kSs stx 60 60 ⟨N_1123, defScope st_1123, N_1123⟩ (defBody st_1123) = some ir_1123 := by kernel_rfl
theorem sc_1123 : FnScope N_1123 ps_1123 (defScope st_1123) := ⟨rfl, rfl, rfl, by decide +kernel, rfl, by decide +kernel, by decide +kernel⟩
abbrev st_1055 : Stmt := (top 31)
theorem co_1055 : kSs stx 60 60 ⟨N_1055, defScope st_1055, N_1055⟩ (defBody st_1055) = some ir_1055 := by kernel_rfl
theorem sc_1055 : FnScope N_1055 ps_1055 (defScope st_1055) := ⟨rfl, rfl, rfl, by decide +kernel, rfl, by decide +kernel, by decide +kernel⟩
abbrev st_1178 : Stmt := (top 32)
theorem co_1178 : kSs stx 60 60 ⟨N_1178, defScope st_1178, N_1178⟩ (defBody st_1178) = some ir_1178 := by kernel_rfl
theorem sc_1178 : FnScope N_1178 ps_1178 (defScope st_1178) := ⟨rfl, rfl, rfl, by decide +kernel, rfl, by decide +kernel, by decide +kernel⟩
abbrev st_1345 : Stmt := (top 33)
theorem co_1345 : kSs stx 60 60 ⟨N_1345, defScope st_1345, N_1345⟩ (defBody st_1345) = some ir_1345 := by kernel_rfl
theorem sc_1345 : FnScope N_1345 ps_1345 (defScope st_1345) := ⟨rfl, rfl, rfl, by decide +kernel, rfl, by decide +kernel, by decide +kernel⟩
def D : LawD where
  P := PySem.Challenge.pw_newinputs_k00_errors
  S := stx
  cas := [(27, Str.ofString "InputsError"), (11, Str.ofString "BadProgram"), (14, Str.ofString "BadStore"), (3, Str.ofString "BadChanges"), (2, Str.ofString "BadBook"), (6, Str.ofString "BadFact"), (13, Str.ofString "BadSource"), (5, Str.ofString "BadEvent"), (16, Str.ofString "BadType"), (9, Str.ofString "BadName"), (1, Str.ofString "BadArgs"), (0, Str.ofString "BadAnswers"), (7, Str.ofString "BadLimit"), (10, Str.ofString "BadOther"), (12, Str.ofString "BadRuns"), (4, Str.ofString "BadChosen"), (8, Str.ofString "BadMany"), (43, Str.ofString "TooGreat"), (15, Str.ofString "BadText"), (30, Str.ofString "NotChecked"), (32, Str.ofString "NotTyped"), (31, Str.ofString "NotJoined")]
  xcs := [27, 11, 14, 3, 2, 6, 13, 5, 16, 9, 1, 0, 7, 10, 12, 4, 8, 43, 15, 30, 32, 31]
  tys := [⟨Str.ofString "InputsError", 27, none⟩, ⟨Str.ofString "BadProgram", 11, none⟩, ⟨Str.ofString "BadStore", 14, none⟩, ⟨Str.ofString "BadChanges", 3, none⟩, ⟨Str.ofString "BadBook", 2, none⟩, ⟨Str.ofString "BadFact", 6, none⟩, ⟨Str.ofString "BadSource", 13, none⟩, ⟨Str.ofString "BadEvent", 5, none⟩, ⟨Str.ofString "BadType", 16, none⟩, ⟨Str.ofString "BadName", 9, none⟩, ⟨Str.ofString "BadArgs", 1, none⟩, ⟨Str.ofString "BadAnswers", 0, none⟩, ⟨Str.ofString "BadLimit", 7, none⟩, ⟨Str.ofString "BadOther", 10, none⟩, ⟨Str.ofString "BadRuns", 12, none⟩, ⟨Str.ofString "BadChosen", 4, none⟩, ⟨Str.ofString "BadMany", 8, none⟩, ⟨Str.ofString "TooGreat", 43, none⟩, ⟨Str.ofString "BadText", 15, none⟩, ⟨Str.ofString "NotChecked", 30, none⟩, ⟨Str.ofString "NotTyped", 32, none⟩, ⟨Str.ofString "NotJoined", 31, none⟩, ⟨Str.ofString "ValueError", 900, some "ValueError"⟩]
  ans := [(6, Str.ofString "append"), (128, Str.ofString "place"), (132, Str.ofString "pop"), (191, Str.ofString "what")]
  T := T
  inj := by decide +kernel
theorem D_px0 : ∀ e ∈ D.S.cls, e.2.2 = true → (D.T.exi e.2.1 [] = none ∨ D.T.exi e.2.1 [] = some []) ∧ ∀ p, D.T.exi e.2.1 [p] = none ∨ D.T.exi e.2.1 [p] = some [] := by
  have key : D.S.cls.all (fun e => !e.2.2 || pxs.contains e.2.1) = true := by decide +kernel
  intro e he h
  have q := NI.ob (List.all_eq_true.mp key e he) (by rw [h]; rfl)
  have e2 : ∀ vs, D.T.exi e.2.1 vs = some [] := fun vs => by
    show exi e.2.1 vs = _
    unfold exi
    rw [q]
  exact ⟨.inr (e2 _), fun p => .inr (e2 _)⟩
theorem D_ok : D.Ok := ⟨by decide +kernel, by decide +kernel, by decide +kernel, D_px0⟩
def dd_1064 : He.DefD := ⟨("_law_deck", none), "_law_deck", "_law_deck", defArgs st_1064, defBody st_1064, defScope st_1064, [], []⟩
def dd_1070 : He.DefD := ⟨("_law_draw", none), "_law_draw", "_law_draw", defArgs st_1070, defBody st_1070, defScope st_1070, [], []⟩
def dd_1262 : He.DefD := ⟨("_law_same", none), "_law_same", "_law_same", defArgs st_1262, defBody st_1262, defScope st_1262, [], []⟩
def dd_1250 : He.DefD := ⟨("_law_reserved", none), "_law_reserved", "_law_reserved", defArgs st_1250, defBody st_1250, defScope st_1250, [], []⟩
def dd_1189 : He.DefD := ⟨("_law_name", none), "_law_name", "_law_name", defArgs st_1189, defBody st_1189, defScope st_1189, [], []⟩
def dd_1173 : He.DefD := ⟨("_law_low", none), "_law_low", "_law_low", defArgs st_1173, defBody st_1173, defScope st_1173, [], []⟩
def dd_1123 : He.DefD := ⟨("_law_high", none), "_law_high", "_law_high", defArgs st_1123, defBody st_1123, defScope st_1123, [], []⟩
def dd_1055 : He.DefD := ⟨("_law_classes", none), "_law_classes", "_law_classes", defArgs st_1055, defBody st_1055, defScope st_1055, [], []⟩
def dd_1178 : He.DefD := ⟨("_law_made_errors", none), "_law_made_errors", "_law_made_errors", defArgs st_1178, defBody st_1178, defScope st_1178, [], []⟩
def dd_1345 : He.DefD := ⟨("law", none), "law", "law", defArgs st_1345, defBody st_1345, defScope st_1345, [], []⟩
def fn : List He.DefD := [dd_1064, dd_1070, dd_1262, dd_1250, dd_1189, dd_1173, dd_1123, dd_1055, dd_1178, dd_1345]
def fa : List He.Fa := [.glo "_law_deck", .glo "_law_draw", .glo "_law_same", .glo "_law_reserved", .glo "_law_name", .glo "_law_low", .glo "_law_high", .glo "_law_classes", .glo "_law_made_errors", .glo "law", .free "super", .glo "BadText", .glo "NotChecked", .glo "NotTyped", .glo "NotJoined"]
def fx' : List ExF' := [oexB "BadText", supB "BadText", oexB "NotChecked", supB "NotChecked", oexB "NotTyped", supB "NotTyped", oexB "NotJoined", supB "NotJoined"]
abbrev sx_15 : Stmt := (inCls (top 19) 0)
def ii_15 : IniD := ⟨"BadText", "__init__", "BadText.__init__", defArgs sx_15, defBody sx_15, defScope sx_15⟩
abbrev sx_30 : Stmt := (inCls (top 20) 0)
def ii_30 : IniD := ⟨"NotChecked", "__init__", "NotChecked.__init__", defArgs sx_30, defBody sx_30, defScope sx_30⟩
abbrev sx_32 : Stmt := (inCls (top 21) 0)
def ii_32 : IniD := ⟨"NotTyped", "__init__", "NotTyped.__init__", defArgs sx_32, defBody sx_32, defScope sx_32⟩
abbrev sx_31 : Stmt := (inCls (top 22) 0)
def ii_31 : IniD := ⟨"NotJoined", "__init__", "NotJoined.__init__", defArgs sx_31, defBody sx_31, defScope sx_31⟩
def fi : List IniD := [ii_15, ii_30, ii_32, ii_31]
abbrev RowR : PySem.W.OpenRow := PySem.W.OpenLaw.row PySem.Challenge.rw_newinputs_k00_errors
abbrev hk : PySem.W.Hook := hookX 4 D.P fa (D.fx ++ fx') fn fi
def ob (s : PySem.W.SharedT) : AlX := obsXG 4 D.P fa (D.fx ++ fx') fn fi (HandSHeadRun.getT s)
theorem ob_eq (s : PySem.W.SharedT) : ob s = hk.obs s.abs := obsXG_eq (HandSHeadRun.getT_eq s)
def loose0 : List Str := ["InputsError", "BadProgram", "BadStore", "BadChanges", "BadBook", "BadFact", "BadSource", "BadEvent", "BadType", "BadName", "BadArgs", "BadAnswers", "BadLimit", "BadOther", "BadRuns", "BadChosen", "BadMany", "TooGreat", "BadText", "NotChecked", "NotTyped", "NotJoined", "_law_deck", "_law_draw", "_law_same", "_law_reserved", "_law_name", "_law_low", "_law_high", "_law_classes"]
def loose1 : List Str := ["_law_made_errors"]
def looseAll : List Str := loose0 ++ loose1
theorem run (w : World) : HandSHeadRun.RunEq RowR (PySem.W.view RowR.prog [33]) hk ob 9000 looseAll w := by
  intro os
  kernel_rfl
section
variable {w : World} {K : PySem.W.Frag} {h : Heap} {mg : Str → Option Value}
theorem di_1064 {f : Addr} {fd : FuncData} (F : FunD K dd_1064.name dd_1064.qual dd_1064.params dd_1064.body dd_1064.scope (dd_1064.dvs K) (dd_1064.kws K) f fd) : DefI (D.ln w K) D.S D.T mg 1064 f fd ps_1064 :=
  ⟨F.kp, FunD.bindsN (ps := ps_1064) F (fun _ _ _ _ _ _ us hl => match us, hl with | [_], _ => rfl), .inr ⟨_, _, _, _, _, _, _, N_1064, N_1064, ir_1064, 60, 60, F, sc_1064, co_1064, rfl⟩⟩
theorem di_1070 {f : Addr} {fd : FuncData} (F : FunD K dd_1070.name dd_1070.qual dd_1070.params dd_1070.body dd_1070.scope (dd_1070.dvs K) (dd_1070.kws K) f fd) : DefI (D.ln w K) D.S D.T mg 1070 f fd ps_1070 :=
  ⟨F.kp, FunD.bindsN (ps := ps_1070) F (fun _ _ _ _ _ _ us hl => match us, hl with | [_, _], _ => rfl), .inr ⟨_, _, _, _, _, _, _, N_1070, N_1070, ir_1070, 60, 60, F, sc_1070, co_1070, rfl⟩⟩
theorem di_1262 {f : Addr} {fd : FuncData} (F : FunD K dd_1262.name dd_1262.qual dd_1262.params dd_1262.body dd_1262.scope (dd_1262.dvs K) (dd_1262.kws K) f fd) : DefI (D.ln w K) D.S D.T mg 1262 f fd ps_1262 :=
  ⟨F.kp, FunD.bindsN (ps := ps_1262) F (fun _ _ _ _ _ _ us hl => match us, hl with | [_, _], _ => rfl), .inr ⟨_, _, _, _, _, _, _, N_1262, N_1262, ir_1262, 60, 60, F, sc_1262, co_1262, rfl⟩⟩
theorem di_1250 {f : Addr} {fd : FuncData} (F : FunD K dd_1250.name dd_1250.qual dd_1250.params dd_1250.body dd_1250.scope (dd_1250.dvs K) (dd_1250.kws K) f fd) : DefI (D.ln w K) D.S D.T mg 1250 f fd ps_1250 :=
  ⟨F.kp, FunD.bindsN (ps := ps_1250) F (fun _ _ _ _ _ _ us hl => match us, hl with | [], _ => rfl), .inr ⟨_, _, _, _, _, _, _, N_1250, N_1250, ir_1250, 60, 60, F, sc_1250, co_1250, rfl⟩⟩
theorem di_1189 {f : Addr} {fd : FuncData} (F : FunD K dd_1189.name dd_1189.qual dd_1189.params dd_1189.body dd_1189.scope (dd_1189.dvs K) (dd_1189.kws K) f fd) : DefI (D.ln w K) D.S D.T mg 1189 f fd ps_1189 :=
  ⟨F.kp, FunD.bindsN (ps := ps_1189) F (fun _ _ _ _ _ _ us hl => match us, hl with | [_, _, _], _ => rfl), .inr ⟨_, _, _, _, _, _, _, N_1189, N_1189, ir_1189, 60, 60, F, sc_1189, co_1189, rfl⟩⟩
theorem di_1173 {f : Addr} {fd : FuncData} (F : FunD K dd_1173.name dd_1173.qual dd_1173.params dd_1173.body dd_1173.scope (dd_1173.dvs K) (dd_1173.kws K) f fd) : DefI (D.ln w K) D.S D.T mg 1173 f fd ps_1173 :=
  ⟨F.kp, FunD.bindsN (ps := ps_1173) F (fun _ _ _ _ _ _ us hl => match us, hl with | [_, _], _ => rfl), .inr ⟨_, _, _, _, _, _, _, N_1173, N_1173, ir_1173, 60, 60, F, sc_1173, co_1173, rfl⟩⟩
theorem di_1123 {f : Addr} {fd : FuncData} (F : FunD K dd_1123.name dd_1123.qual dd_1123.params dd_1123.body dd_1123.scope (dd_1123.dvs K) (dd_1123.kws K) f fd) : DefI (D.ln w K) D.S D.T mg 1123 f fd ps_1123 :=
  ⟨F.kp, FunD.bindsN (ps := ps_1123) F (fun _ _ _ _ _ _ us hl => match us, hl with | [_, _], _ => rfl), .inr ⟨_, _, _, _, _, _, _, N_1123, N_1123, ir_1123, 60, 60, F, sc_1123, co_1123, rfl⟩⟩
theorem di_1055 {f : Addr} {fd : FuncData} (F : FunD K dd_1055.name dd_1055.qual dd_1055.params dd_1055.body dd_1055.scope (dd_1055.dvs K) (dd_1055.kws K) f fd) : DefI (D.ln w K) D.S D.T mg 1055 f fd ps_1055 :=
  ⟨F.kp, FunD.bindsN (ps := ps_1055) F (fun _ _ _ _ _ _ us hl => match us, hl with | [_], _ => rfl), .inr ⟨_, _, _, _, _, _, _, N_1055, N_1055, ir_1055, 60, 60, F, sc_1055, co_1055, rfl⟩⟩
theorem di_1178 {f : Addr} {fd : FuncData} (F : FunD K dd_1178.name dd_1178.qual dd_1178.params dd_1178.body dd_1178.scope (dd_1178.dvs K) (dd_1178.kws K) f fd) : DefI (D.ln w K) D.S D.T mg 1178 f fd ps_1178 :=
  ⟨F.kp, FunD.bindsN (ps := ps_1178) F (fun _ _ _ _ _ _ us hl => match us, hl with | [_, _, _], _ => rfl), .inr ⟨_, _, _, _, _, _, _, N_1178, N_1178, ir_1178, 60, 60, F, sc_1178, co_1178, rfl⟩⟩
theorem di_1345 {f : Addr} {fd : FuncData} (F : FunD K dd_1345.name dd_1345.qual dd_1345.params dd_1345.body dd_1345.scope (dd_1345.dvs K) (dd_1345.kws K) f fd) : DefI (D.ln w K) D.S D.T mg 1345 f fd ps_1345 :=
  ⟨F.kp, FunD.bindsN (ps := ps_1345) F (fun _ _ _ _ _ _ us hl => match us, hl with | [_], _ => rfl), .inr ⟨_, _, _, _, _, _, _, N_1345, N_1345, ir_1345, 60, 60, F, sc_1345, co_1345, rfl⟩⟩
theorem mod_ (X : K.In h) (G : h.Ns mainGlobals mg) (c : SaysX D.P fa (D.fx ++ fx') fn fi K) : Mod' (D.ln w K) D.S D.T mg := by
  have gl : ∀ (i : Nat) (x : Str), fa[i]? = some (.glo x) → mg x = some (.ref (He.ga K x)) := fun i x e => He.glo_ok X G (c.fact (List.mem_of_getElem? e))
  have gs : mg "super" = none := He.free_ok X G (c.fact (f := .free "super") (List.mem_of_getElem? (i := 10) rfl))
  refine mod_of D_ok X G c ?_ ?_ ?_ (fun C cA m nm g _ _ h3 => by cases h3)
  · exact ⟨(let ⟨fd, F⟩ := c.def_ 0 (d := dd_1064) rfl; ⟨_, fd, ps_1064, gl 0 _ rfl, di_1064 F⟩),
      (let ⟨fd, F⟩ := c.def_ 1 (d := dd_1070) rfl; ⟨_, fd, ps_1070, gl 1 _ rfl, di_1070 F⟩),
      (let ⟨fd, F⟩ := c.def_ 2 (d := dd_1262) rfl; ⟨_, fd, ps_1262, gl 2 _ rfl, di_1262 F⟩),
      (let ⟨fd, F⟩ := c.def_ 3 (d := dd_1250) rfl; ⟨_, fd, ps_1250, gl 3 _ rfl, di_1250 F⟩),
      (let ⟨fd, F⟩ := c.def_ 4 (d := dd_1189) rfl; ⟨_, fd, ps_1189, gl 4 _ rfl, di_1189 F⟩),
      (let ⟨fd, F⟩ := c.def_ 5 (d := dd_1173) rfl; ⟨_, fd, ps_1173, gl 5 _ rfl, di_1173 F⟩),
      (let ⟨fd, F⟩ := c.def_ 6 (d := dd_1123) rfl; ⟨_, fd, ps_1123, gl 6 _ rfl, di_1123 F⟩),
      (let ⟨fd, F⟩ := c.def_ 7 (d := dd_1055) rfl; ⟨_, fd, ps_1055, gl 7 _ rfl, di_1055 F⟩),
      (let ⟨fd, F⟩ := c.def_ 8 (d := dd_1178) rfl; ⟨_, fd, ps_1178, gl 8 _ rfl, di_1178 F⟩),
      (let ⟨fd, F⟩ := c.def_ 9 (d := dd_1345) rfl; ⟨_, fd, ps_1345, gl 9 _ rfl, di_1345 F⟩),
      trivial⟩
  · exact trivial
  · exact ⟨⟨fun p => .inr rfl, exm_of (P := D.P) rfl (c.ini 0 (d := ii_15) rfl) (by decide +kernel) (c.xact 7 (f := oexB "BadText") rfl) (c.xact 8 (f := supB "BadText") rfl) (by decide +kernel) (by decide +kernel) (by decide +kernel) rfl rfl (all_exc (D := D) (w := w) c (C := 15) rfl rfl) rfl
      (all_naf (D := D) (w := w) c 15 _ 128 "place" rfl rfl rfl) (gl 11 _ rfl) gs (fun fd e e2 a u => by cases fd; cases e; cases e2; rfl) (fun fd e e2 a u => by cases fd; cases e; cases e2; rfl)⟩,
      ⟨fun p => .inr rfl, exm_of (P := D.P) rfl (c.ini 1 (d := ii_30) rfl) (by decide +kernel) (c.xact 9 (f := oexB "NotChecked") rfl) (c.xact 10 (f := supB "NotChecked") rfl) (by decide +kernel) (by decide +kernel) (by decide +kernel) rfl rfl (all_exc (D := D) (w := w) c (C := 30) rfl rfl) rfl
      (all_naf (D := D) (w := w) c 30 _ 191 "what" rfl rfl rfl) (gl 12 _ rfl) gs (fun fd e e2 a u => by cases fd; cases e; cases e2; rfl) (fun fd e e2 a u => by cases fd; cases e; cases e2; rfl)⟩,
      ⟨fun p => .inr rfl, exm_of (P := D.P) rfl (c.ini 2 (d := ii_32) rfl) (by decide +kernel) (c.xact 11 (f := oexB "NotTyped") rfl) (c.xact 12 (f := supB "NotTyped") rfl) (by decide +kernel) (by decide +kernel) (by decide +kernel) rfl rfl (all_exc (D := D) (w := w) c (C := 32) rfl rfl) rfl
      (all_naf (D := D) (w := w) c 32 _ 191 "what" rfl rfl rfl) (gl 13 _ rfl) gs (fun fd e e2 a u => by cases fd; cases e; cases e2; rfl) (fun fd e e2 a u => by cases fd; cases e; cases e2; rfl)⟩,
      ⟨fun p => .inr rfl, exm_of (P := D.P) rfl (c.ini 3 (d := ii_31) rfl) (by decide +kernel) (c.xact 13 (f := oexB "NotJoined") rfl) (c.xact 14 (f := supB "NotJoined") rfl) (by decide +kernel) (by decide +kernel) (by decide +kernel) rfl rfl (all_exc (D := D) (w := w) c (C := 31) rfl rfl) rfl
      (all_naf (D := D) (w := w) c 31 _ 191 "what" rfl rfl rfl) (gl 14 _ rfl) gs (fun fd e e2 a u => by cases fd; cases e; cases e2; rfl) (fun fd e e2 a u => by cases fd; cases e; cases e2; rfl)⟩,
      trivial⟩
end
theorem facts {d : Nat} (hT : ∀ ns : List Int, ns.length ≤ 63 → ∃ h', T.fn d 1345 [.obj 0] [.frz (ns.map PV.int)] = .ok (.bl true) h') {w : World} {K : PySem.W.Frag} {h : Heap} {mg : Str → Option Value} {f : Addr} (X : K.In h) (G : h.Ns mainGlobals mg) (hfa : mg ("law" : Str) = some (.ref f)) (c : SaysX D.P fa (D.fx ++ fx') fn fi K) :
    ∃ (fd : FuncData) (sp : Sp), (∀ (s : Shared) (v : Value), BindsTo s fd ⟨[v], []⟩ [("script", v)]) ∧ (∀ (H : Hp) (a : Addr) (ns : List Int), ns.length ≤ 63 → Only H → SqL K H a (ns.map V.int) → sp [.ref a] H (fun v _ => v = .bl true) fun _ _ _ => False) ∧
      ∀ base : Heap, K.In base → base.Ns mainGlobals mg → FnOk D.P w K mg base CX0 (2 * d + 2) f fd ["script"] sp := by
  obtain ⟨fd, F⟩ := c.def_ 9 (d := dd_1345) rfl
  have e := hfa.symm.trans (He.glo_ok X G (c.fact (f := .glo "law") (List.mem_of_getElem? (i := 9) rfl)))
  cases e
  have b := FunD.bindsA (ps := ["script"]) F fun _ _ _ _ _ _ us hl => match us, hl with | [_], _ => rfl
  refine ⟨fd, fun vs H Q _ => spO (D.ln w K) (T.fn d 1345) 1 vs H Q fun _ _ _ => False, fun s v => b s [v] rfl, fun H a ns hn O Sq => ?_, fun base _ _ => fn_still ((table_ok (mod_ (w := w) X G c) d).1 1345 _ fd ps_1345 (di_1345 F))⟩
  obtain ⟨h', e⟩ := hT ns hn
  exact law_sp (Λ := D.ln w K) (c.xact 0 (f := noLst) rfl) O Sq e
end NI.LW
open PySem PySem.W PySem.Calls PyProof.Rows
theorem NI.LW.holds {d : Nat} (hd : L2.Room (2 * d + 2) callerA) (hT : ∀ ns : List Int, ns.length ≤ 63 → ∃ h', NI.LW.T.fn d 1345 [.obj 0] [.frz (ns.map NI.PV.int)] = .ok (.bl true) h') : PySem.Challenge.rw_newinputs_k00_errors.Holds := by
  w_on; o_law
  refine HandSHeadRun.head_any (r := OpenLaw.row PySem.Challenge.rw_newinputs_k00_errors) (q := view (OpenLaw.row PySem.Challenge.rw_newinputs_k00_errors).prog [33]) (H := NI.LW.hk) (ob := NI.LW.ob) (M := 9000) (loose := NI.LW.looseAll) (d := HandSHeadRun.topDef (OpenLaw.row PySem.Challenge.rw_newinputs_k00_errors).prog 33) (kwd := []) NI.LW.ob_eq
    (by kernel_rfl) (fun s => by kernel_rfl) NI.LW.run (by kernel_rfl) (by kernel_rfl) (by kernel_rfl) (by rfl) (by first | assumption | decide +kernel) (by decide +kernel) ⟨rfl, rfl, rfl, rfl, rfl, by decide +kernel⟩ ?hw ?hc
  case hw => w_witness2
  case hc =>
    refine L2.walk_ofE (l := PySem.Challenge.rw_newinputs_k00_errors) (n := 63) (k := 2 * d + 2) (x := "script") (CX := L2.CX0) rfl (by decide) (by kernel_rfl) hd ?F (fun _ _ _ _ z => z)
    case F =>
      intro w mg fa h Y G hmg0
      obtain ⟨K, KX, c⟩ := Y
      have hmg : mg ("law" : PySem.Str) = some (.ref fa) := by
        have e : (HandSHeadRun.topDef (OpenLaw.row PySem.Challenge.rw_newinputs_k00_errors).prog 33).name = ("law" : PySem.Str) := by kernel_rfl
        rw [← e]
        exact hmg0
      obtain ⟨fd, sp, hb, hsp, hF⟩ := NI.LW.facts hT (w := w) KX G hmg c
      exact ⟨K, fd, sp, KX, hb, hsp, hF⟩
end

section
set_option linter.all false
set_option autoImplicit false
/-! Rules of the evaluator by pieces of syntax, for proofs by rewriting. -/
namespace NI
section
variable {Γ : G} {xc : Xc} {σ : Sg} {h : AH} {a b c : E} {α β : Type}
@[simp] theorem bind_ok {x : α} {f : α → AH → R β} : (R.ok x h).bind f = f x h := rfl
@[simp] theorem bind_ex {k : Nat} {fs : List (Nat × PV)} {f : α → AH → R β} : (R.ex k fs h).bind f = .ex k fs h := rfl
@[simp] theorem bind_no {f : α → AH → R β} : (R.no).bind f = .no := rfl
@[simp] theorem ofO_some {x : α} : R.ofO h (some x) = .ok x h := rfl
@[simp] theorem ofO_none : R.ofO h (none : Option α) = .no := rfl
@[simp] theorem to_ok {x : α} {f : α → AH → Y} : (R.ok x h).to σ f = f x h := rfl
@[simp] theorem v_var {i : Nat} : (den Γ (.var i)).v xc σ h = R.ofO h (sget σ i) := rfl
@[simp] theorem v_con {p : PV} : (den Γ (.con p)).v xc σ h = .ok p h := rfl
@[simp] theorem v_ix : (den Γ (.ix a b)).v xc σ h = ((den Γ a).v xc σ h).bind fun x h => ((den Γ b).v xc σ h).bind fun i h => R.ofO h (ixV h x i) := rfl
@[simp] theorem v_bin {o : Bo} : (den Γ (.bin o a b)).v xc σ h = ((den Γ a).v xc σ h).bind fun x h => ((den Γ b).v xc σ h).bind fun y h => binV o x y h := rfl
@[simp] theorem v_cmp {o : Co} : (den Γ (.cmp o a b)).v xc σ h = ((den Γ a).v xc σ h).bind fun x h => ((den Γ b).v xc σ h).bind fun y h => R.ofO h ((cmpV o h x y).map PV.bl) := rfl
@[simp] theorem v_and : (den Γ (.and a b)).v xc σ h = ((den Γ a).v xc σ h).bind fun x h => match x with
      | .bl true => (den Γ b).v xc σ h
      | .bl false => .ok (.bl false) h
      | _ => .no := rfl
@[simp] theorem v_or : (den Γ (.or a b)).v xc σ h = ((den Γ a).v xc σ h).bind fun x h => match x with
      | .bl true => .ok (.bl true) h
      | .bl false => (den Γ b).v xc σ h
      | _ => .no := rfl
@[simp] theorem v_not : (den Γ (.not a)).v xc σ h = ((den Γ a).v xc σ h).bind fun x h => match x with
      | .bl b => .ok (.bl (!b)) h
      | _ => .no := rfl
@[simp] theorem v_bf {k : Bf} : (den Γ (.bf k (.cons a .nil))).v xc σ h = (((den Γ (.cons a .nil)).vs xc σ h)).bind fun vs h => R.ofO h (bfV k h vs) := rfl
@[simp] theorem vs_nil : (den Γ .nil).vs xc σ h = .ok [] h := rfl
@[simp] theorem v_call {g : Nat} {pm : List Pm} : (den Γ (.call g a pm)).v xc σ h = ((den Γ a).vs xc σ h).bind fun vs h => fnA Γ.fn g [] vs pm h := rfl
@[simp] theorem fnA_nil {fn : Nat → List PV → AH → R PV} {g : Nat} {vs : List PV} : fnA fn g [] vs [] h = fn g vs h := rfl
@[simp] theorem v_slc : (den Γ (.slc a b c)).v xc σ h = ((den Γ a).v xc σ h).bind fun x h => (partD b (den Γ b).v xc σ h).bind fun i h => (partD c (den Γ c).v xc σ h).bind fun j h => slcV x i j h := rfl
@[simp] theorem v_tup : (den Γ (.tup a)).v xc σ h = ((den Γ a).vs xc σ h).bind fun vs h => if fits vs.length then .ok (.tup vs) h else .no := rfl
@[simp] theorem v_new : (den Γ (.new a)).v xc σ h = ((den Γ a).L xc σ h).bind fun xs h => .ok (.obj h.length) (h ++ [.lst xs]) := rfl
@[simp] theorem L_lst : (den Γ (.lst a)).L xc σ h = ((den Γ a).vs xc σ h).bind fun vs h => if fits vs.length then .ok vs h else .no := rfl
@[simp] theorem L_new : (den Γ (.new a)).L xc σ h = (den Γ a).L xc σ h := rfl
@[simp] theorem v_ixn : (den Γ (.ixn a b)).v xc σ h = ((den Γ a).L xc σ h).bind fun xs h => ((den Γ b).v xc σ h).bind fun i h => R.ofO h (ixV [] (.tup xs) i) := rfl
@[simp] theorem v_val : (den Γ (.val a)).v xc σ h = (den Γ a).v xc σ h := rfl
@[simp] theorem v_bm {m : Bm} : (den Γ (.bm a m b)).v xc σ h = (match isLm m with
      | true => fun xc σ h => ((den Γ a).v xc σ h).bind fun x h => (match isLs h x with
        | true => ((den Γ b).vs xc σ h).bind fun vs h => bmL m x vs h
        | false => R.no)
      | false => fun xc σ h => ((den Γ a).v xc σ h).bind fun x h => (match isDc h x with
        | true => ((den Γ b).vs xc σ h).bind fun vs h => bmD m x vs h
        | false => R.no)) xc σ h := rfl
@[simp] theorem r_seq {s t : S} : (dens Γ (.seq s t)).r xc σ h = match (dens Γ s).r xc σ h with
      | .nx σ h => (dens Γ t).r xc σ h
      | y => y := rfl
@[simp] theorem r_skip : (dens Γ .skip).r xc σ h = .nx σ h := rfl
@[simp] theorem r_ite {s t : S} : (dens Γ (.ite a s t)).r xc σ h = ((den Γ a).v xc σ h).to σ fun x h => match x with
      | .bl true => (dens Γ s).r xc σ h
      | .bl false => (dens Γ t).r xc σ h
      | _ => .no := rfl
@[simp] theorem r_asgv {i : Nat} : (dens Γ (.asg (.var i) a)).r xc σ h = ((den Γ a).v xc σ h).to σ fun v h => .nx (σ.set i (some v)) h := rfl
@[simp] theorem r_asgi : (dens Γ (.asg (.ix a b) c)).r xc σ h = ((den Γ c).v xc σ h).to σ fun v h => (((den Γ a).v xc σ h).bind fun x h => ((den Γ b).v xc σ h).bind fun i h => (match setIx h x i v with
        | some h => R.ok σ h
        | none => .no)).to σ fun σ h => .nx σ h := rfl
@[simp] theorem r_ret : (dens Γ (.ret a)).r xc σ h = ((den Γ a).v xc σ h).to σ fun v h => .rt v h := rfl
@[simp] theorem r_expr : (dens Γ (.expr a)).r xc σ h = ((den Γ a).v xc σ h).to σ fun _ h => .nx σ h := rfl
@[simp] theorem vs_var {i : Nat} {r : E} : (den Γ (.cons (.var i) r)).vs xc σ h = ((den Γ (.var i)).v xc σ h).bind fun x h => ((den Γ r).vs xc σ h).bind fun vs h => .ok (x :: vs) h := rfl
@[simp] theorem vs_con {p : PV} {r : E} : (den Γ (.cons (.con p) r)).vs xc σ h = ((den Γ (.con p)).v xc σ h).bind fun x h => ((den Γ r).vs xc σ h).bind fun vs h => .ok (x :: vs) h := rfl
@[simp] theorem vs_ix  {r : E} : (den Γ (.cons (.ix a b) r)).vs xc σ h = ((den Γ (.ix a b)).v xc σ h).bind fun x h => ((den Γ r).vs xc σ h).bind fun vs h => .ok (x :: vs) h := rfl
@[simp] theorem vs_bin {o : Bo} {r : E} : (den Γ (.cons (.bin o a b) r)).vs xc σ h = ((den Γ (.bin o a b)).v xc σ h).bind fun x h => ((den Γ r).vs xc σ h).bind fun vs h => .ok (x :: vs) h := rfl
@[simp] theorem vs_call {g : Nat} {pm : List Pm} {r : E} : (den Γ (.cons (.call g a pm) r)).vs xc σ h = ((den Γ (.call g a pm)).v xc σ h).bind fun x h => ((den Γ r).vs xc σ h).bind fun vs h => .ok (x :: vs) h := rfl
@[simp] theorem vs_tup  {r : E} : (den Γ (.cons (.tup a) r)).vs xc σ h = ((den Γ (.tup a)).v xc σ h).bind fun x h => ((den Γ r).vs xc σ h).bind fun vs h => .ok (x :: vs) h := rfl
@[simp] theorem vs_bf {k : Bf} {r : E} : (den Γ (.cons (.bf k a) r)).vs xc σ h = ((den Γ (.bf k a)).v xc σ h).bind fun x h => ((den Γ r).vs xc σ h).bind fun vs h => .ok (x :: vs) h := rfl
@[simp] theorem vs_new  {r : E} : (den Γ (.cons (.new a) r)).vs xc σ h = ((den Γ (.new a)).v xc σ h).bind fun x h => ((den Γ r).vs xc σ h).bind fun vs h => .ok (x :: vs) h := rfl
@[simp] theorem vs_cmp {o : Co} {r : E} : (den Γ (.cons (.cmp o a b) r)).vs xc σ h = ((den Γ (.cmp o a b)).v xc σ h).bind fun x h => ((den Γ r).vs xc σ h).bind fun vs h => .ok (x :: vs) h := rfl
@[simp] theorem vs_fld {g : Nat} {r : E} : (den Γ (.cons (.fld a g) r)).vs xc σ h = ((den Γ (.fld a g)).v xc σ h).bind fun x h => ((den Γ r).vs xc σ h).bind fun vs h => .ok (x :: vs) h := rfl
@[simp] theorem vs_ixn  {r : E} : (den Γ (.cons (.ixn a b) r)).vs xc σ h = ((den Γ (.ixn a b)).v xc σ h).bind fun x h => ((den Γ r).vs xc σ h).bind fun vs h => .ok (x :: vs) h := rfl
@[simp] theorem vs_slc  {r : E} : (den Γ (.cons (.slc a b c) r)).vs xc σ h = ((den Γ (.slc a b c)).v xc σ h).bind fun x h => ((den Γ r).vs xc σ h).bind fun vs h => .ok (x :: vs) h := rfl
@[simp] theorem vs_isi {ts : List Ty} {r : E} : (den Γ (.cons (.isi a ts) r)).vs xc σ h = ((den Γ (.isi a ts)).v xc σ h).bind fun x h => ((den Γ r).vs xc σ h).bind fun vs h => .ok (x :: vs) h := rfl
@[simp] theorem vs_mkx {g : Nat} {r : E} : (den Γ (.cons (.mkx g a) r)).vs xc σ h = ((den Γ (.mkx g a)).v xc σ h).bind fun x h => ((den Γ r).vs xc σ h).bind fun vs h => .ok (x :: vs) h := rfl
@[simp] theorem vs_cst {g : Nat} {r : E} : (den Γ (.cons (.cst g) r)).vs xc σ h = ((den Γ (.cst g)).v xc σ h).bind fun x h => ((den Γ r).vs xc σ h).bind fun vs h => .ok (x :: vs) h := rfl
@[simp] theorem v_cmpqv {o : Co} : (den Γ (.cmpq o (.val a) b)).v xc σ h = ((den Γ a).v xc σ h).bind fun x h => ((den Γ b).L xc σ h).bind fun ys h => (match x with
        | .obj n => (match lsOnly h n with
          | some xs => cmpL o xs ys h
          | none => .no)
        | _ => .no) := rfl
@[simp] theorem v_cmpqn {o : Co} : (den Γ (.cmpq o (.new a) b)).v xc σ h = ((den Γ (.new a)).L xc σ h).bind fun xs h => ((den Γ b).L xc σ h).bind fun ys h => cmpL o xs ys h := rfl
@[simp] theorem v_isi {ts : List Ty} : (den Γ (.isi a ts)).v xc σ h = ((den Γ a).v xc σ h).bind fun x h => R.ofO h ((isTys Γ.sub h x ts).map PV.bl) := rfl
@[simp] theorem L_val : (den Γ (.val a)).L xc σ h = ((den Γ a).v xc σ h).bind fun x h => (match x with
        | .obj n => R.ofO h (lsOnly h n)
        | _ => .no) := rfl
@[simp] theorem Q_rng : (den Γ (.rng a)).Q xc σ h = ((den Γ a).v xc σ h).bind fun x h => match x with
      | .int n => if rngOk n then .ok (rngF 0 n.toNat, .none) h else .no
      | _ => .no := rfl
theorem r_for {tg it : E} {s : S} : (dens Γ (.for_ tg it s)).r xc σ h = wlkY ((den Γ it).Q xc σ) σ h fun q g h => forF g (fun x σ h => (den Γ tg).A x xc σ h) ((dens Γ s).r xc) q σ h := rfl
theorem L_lc {elt tg it cond : E} {own : List Nat} : (den Γ (.lc elt tg it cond own)).L xc σ h = wlk ((den Γ it).Q xc σ) h fun q g h => if !fits q.length then .no else lcF g (fun x h => ((den Γ tg).A x xc (wipe σ own) h).bind fun σ1 h => ((den Γ cond).T xc σ1 h).bind fun b h => (match b with
        | true => ((den Γ elt).v xc σ1 h).bind fun y h => .ok (some y) h
        | false => .ok none h)) q h := rfl
theorem Q_rng_ok {i : Int} {k : Nat} {h1 : AH} (e : (den Γ a).v xc σ h = .ok (.int i) h1) (ro : rngOk i = true) (hk : i.toNat = k) : (den Γ (.rng a)).Q xc σ h = .ok (rngF 0 k, .none) h1 := by
  rw [Q_rng, e]
  show (if rngOk i = true then R.ok (rngF 0 i.toNat, Gd.none) h1 else R.no) = _
  rw [if_pos ro, hk]
theorem rngOk_small {i : Int} (h0 : 0 ≤ i) (h1 : i < 1000000) : rngOk i = true := by
  unfold rngOk
  rw [decide_eq_true (show (-4611686018427387904 : Int) ≤ i by omega), decide_eq_true (show i < 4611686018427387904 by omega)]; rfl
@[simp] theorem A_var {i : Nat} {v : PV} : (den Γ (.var i)).A v xc σ h = .ok (σ.set i (some v)) h := rfl
@[simp] theorem Q_val : (den Γ (.val a)).Q xc σ h = ((den Γ a).v xc σ h).bind fun x h => R.ofO h ((itemsV h x).map fun xs => (xs, gdOf h x)) := rfl
@[simp] theorem T_nil : (den Γ .nil).T xc σ h = .ok true h := rfl
@[simp] theorem T_cons : (den Γ (.cons a b)).T xc σ h = ((den Γ a).v xc σ h).bind fun x h => match x with
        | .bl true => (den Γ b).T xc σ h
        | .bl false => .ok false h
        | _ => .no := rfl
theorem pvEqL_int : ∀ l : List Int, pvEqL (l.map PV.int) (l.map PV.int) = true
  | [] => rfl
  | i :: l => by
    show (pvEq (.int i) (.int i) && pvEqL (l.map PV.int) (l.map PV.int)) = true
    rw [pvEqL_int l, show pvEq (.int i) (.int i) = true from by simp [pvEq]]; rfl
theorem for_nil {g : List (Nat × List PV)} {asg : PV → Sg → AH → R Sg} {body : Sg → AH → Y} (s : still g h = true) : forF g asg body [] σ h = .nx σ h := by
  unfold forF; rw [if_pos s]
theorem for_cons {g : List (Nat × List PV)} {asg : PV → Sg → AH → R Sg} {body : Sg → AH → Y} {x : PV} {r : List PV} {σ1 σ2 : Sg} {h1 h2 : AH} (s : still g h = true) (e1 : asg x σ h = .ok σ1 h1) (e2 : body σ1 h1 = .nx σ2 h2) : forF g asg body (x :: r) σ h = forF g asg body r σ2 h2 := by
  show (if still g h = true then ((asg x σ h).to σ fun σ1 h1 => match body σ1 h1 with
    | .nx σ2 h2 => forF g asg body r σ2 h2
    | .ct σ2 h2 => forF g asg body r σ2 h2
    | .bk σ2 h2 => .nx σ2 h2
    | y => y) else .no) = _
  rw [if_pos s, e1]
  show (match body σ1 h1 with
    | .nx σ2 h2 => forF g asg body r σ2 h2
    | .ct σ2 h2 => forF g asg body r σ2 h2
    | .bk σ2 h2 => .nx σ2 h2
    | y => y) = _
  rw [e2]
theorem lc_nil {g : List (Nat × List PV)} {step : PV → AH → R (Option PV)} (s : still g h = true) : lcF g step [] h = .ok [] h := by
  unfold lcF; rw [if_pos s]
theorem lc_some {g : List (Nat × List PV)} {step : PV → AH → R (Option PV)} {x y : PV} {r : List PV} {h1 : AH} (s : still g h = true) (e : step x h = .ok (some y) h1) : lcF g step (x :: r) h = (lcF g step r h1).bind fun ys h => .ok (y :: ys) h := by
  show (if still g h = true then (match step x h with
    | .ok (some y) h1 => (lcF g step r h1).bind fun ys h => .ok (y :: ys) h
    | .ok none h1 => lcF g step r h1
    | _ => .no) else .no) = _
  rw [if_pos s, e]
theorem lc_none {g : List (Nat × List PV)} {step : PV → AH → R (Option PV)} {x : PV} {r : List PV} {h1 : AH} (s : still g h = true) (e : step x h = .ok none h1) : lcF g step (x :: r) h = lcF g step r h1 := by
  show (if still g h = true then (match step x h with
    | .ok (some y) h1 => (lcF g step r h1).bind fun ys h => .ok (y :: ys) h
    | .ok none h1 => lcF g step r h1
    | _ => .no) else .no) = _
  rw [if_pos s, e]
end
end NI
end

section
set_option linter.all false
set_option maxRecDepth 100000
set_option maxHeartbeats 4000000
namespace NI.LW
open NI
theorem fn_succ (d g : Nat) (D : Df) (h : T.defs g = some D) : T.fn (d + 1) g = fnR D.np (T.g (T.fn d)) D.n D.ir := by
  show (match T.defs g with | some D => fnR D.np (T.g (T.fn d)) D.n D.ir | none => fun _ _ => .no) = _
  rw [h]

theorem set_at {h : AH} {u : Nat} {o a : AO} (hu : h[u]? = some o) : (h.set u a)[u]? = some a := List.getElem?_set_self (List.getElem?_eq_some_iff.mp hu).1
theorem set_ne {h : AH} {u b : Nat} {a : AO} (ne : u ≠ b) : (h.set u a)[b]? = h[b]? := List.getElem?_set_ne ne
/-- a deck -/
structure Dk (h : AH) (u b : Nat) (n : Int) : Prop where
  ex : ∃ (bs : List Int) (x y z : Int), h[u]? = some (.lst [.obj b, .int x, .int y, .int z]) ∧ h[b]? = some (.lst (bs.map .int)) ∧ (∀ i ∈ bs, 1000000000000000000 ≤ i) ∧ 0 ≤ x ∧ 0 ≤ z ∧ z ≤ n
  ne : u ≠ b
/-- but for two places the heap is the same -/
structure Ext (u b : Nat) (h h' : AH) : Prop where
  len : h'.length = h.length
  same : ∀ k, k ≠ u → k ≠ b → h'[k]? = h[k]?
theorem Ext.refl {u b : Nat} {h : AH} : Ext u b h h := ⟨rfl, fun _ _ _ => rfl⟩
theorem Ext.trans {u b : Nat} {h h1 h2 : AH} (p : Ext u b h h1) (q : Ext u b h1 h2) : Ext u b h h2 := ⟨q.len.trans p.len, fun k a c => (q.same k a c).trans (p.same k a c)⟩
theorem Ext.set1 {u b : Nat} {h : AH} {a : AO} : Ext u b h (h.set u a) := ⟨by simp, fun k h1 _ => set_ne (Ne.symm h1)⟩
theorem Ext.set2 {u b : Nat} {h : AH} {a : AO} : Ext u b h (h.set b a) := ⟨by simp, fun k _ h1 => set_ne (Ne.symm h1)⟩
def drawRest : NI.S := match ir_1070 with
  | .seq _ r => r
  | _ => .skip
def drawFirst : NI.S := match ir_1070 with
  | .seq r _ => r
  | _ => .skip
theorem draw_rest {Γ : G} {u b : Nat} {h : AH} {m n : Int} (D : Dk h u b n) (hn : n < 1000000) (hm : 0 < m) (hm2 : m.natAbs < hugeDiv) :
    ∃ r h', (dens Γ drawRest).r none [some (.obj u), some (.int m), none] h = .rt (.int r) h' ∧ 0 ≤ r ∧ r < m ∧ Dk h' u b (n + 1) ∧ Ext u b h h' := by
  obtain ⟨⟨bs, x, y, z, hu, hb, hbs, hx, hz, hzn⟩, ne⟩ := D
  by_cases h0 : x = 0
  · subst h0
    have hz2 : smallI (z + 1) = true := by unfold smallI; simp; omega
    have sa : ∀ a, (h.set u a)[u]? = some a := fun a => set_at hu
    generalize hy : (y * 48271 + (z + 1) * (z + 1) * 16807 + 7) % 2147483647 = y'
    have hy1 : 0 ≤ y' := by rw [← hy]; exact Int.emod_nonneg _ (by omega)
    have hy2 : y' < 2147483647 := by rw [← hy]; exact Int.emod_lt_of_pos _ (by omega)
    have hy3 : smallI y' = true := by unfold smallI; simp; omega
    have s1 : smallI 48271 = true := by decide
    have s2 : smallI 16807 = true := by decide
    have d1 : 32 < hugeDiv := by decide +kernel
    have d2 : 8 < hugeDiv := by decide +kernel
    refine ⟨y' * (y' / 32 + 11) % 2147483629 / 8 % m, h.set u (.lst [.obj b, .int 0, .int y', .int (z + 1)]), ?_, Int.emod_nonneg _ (by omega), Int.emod_lt_of_pos _ hm, ⟨⟨bs, 0, y', z + 1, sa _, by rw [set_ne ne]; exact hb, hbs, hx, by omega, by omega⟩, ne⟩, Ext.set1⟩
    unfold drawRest ir_1070
    simp [sget, ixV, hu, sa, hb, ixOf, cmpV, eqV, isData, peq, cmpL, lsOnly, binV, binI, hm, hm2, bfV, bf1, setIx, fits, dataMax, s1, s2, hz2, hy3, d1, d2, hy]
  · have hx0 : 0 < x := by omega
    refine ⟨x % m, h.set u (.lst [.obj b, .int (x / m), .int y, .int z]), ?_, Int.emod_nonneg _ (by omega), Int.emod_lt_of_pos _ hm, ⟨⟨bs, x / m, y, z, set_at hu, by rw [set_ne ne]; exact hb, hbs, Int.ediv_nonneg hx (by omega), hz, by omega⟩, ne⟩, Ext.set1⟩
    unfold drawRest ir_1070
    simp [sget, ixV, hu, hb, ixOf, cmpV, eqV, isData, peq, cmpL, lsOnly, hx0, binV, binI, hm, hm2, bfV, bf1, setIx, fits, dataMax]
theorem draw_first {Γ : G} {u b : Nat} {h : AH} {m n : Int} (D : Dk h u b n) : ∃ h', (dens Γ drawFirst).r none [some (.obj u), some (.int m), none] h = .nx [some (.obj u), some (.int m), none] h' ∧ Dk h' u b n ∧ Ext u b h h' := by
  obtain ⟨⟨bs, x, y, z, hu, hb, hbs, hx, hz, hzn⟩, ne⟩ := D
  by_cases h0 : x = 0
  · subst h0
    cases bs with
    | nil =>
      refine ⟨h, ?_, ⟨⟨[], 0, y, z, hu, hb, hbs, hx, hz, hzn⟩, ne⟩, Ext.refl⟩
      have hb : h[b]? = some (.lst []) := hb
      unfold drawFirst ir_1070
      simp [sget, ixV, hu, hb, ixOf, cmpV, eqV, isData, areData, peq, peqL, cmpL, lsOnly, dataMax, fits]
    | cons c cs =>
      have hb : h[b]? = some (.lst (.int c :: cs.map .int)) := hb
      have hd : areData 32 (cs.map PV.int) = true := by
        have : ∀ l : List Int, areData 32 (l.map PV.int) = true := fun l => by induction l with | nil => rfl | cons i l ih => exact ih
        exact this cs
      have hc := hbs c (List.mem_cons_self ..)
      have ne2 : b ≠ u := Ne.symm ne
      have sb : ∀ a, (h.set b a)[b]? = some a := fun a => set_at hb
      have sb2 : ∀ a, (h.set b a)[u]? = some (.lst [.obj b, .int 0, .int y, .int z]) := fun a => by rw [set_ne ne2]; exact hu
      have hp : powOk 10 18 = true := by decide
      have h64 : int64 0 = true := by decide
      refine ⟨(h.set b (.lst (cs.map .int))).set u (.lst [.obj b, .int (c - 1000000000000000000), .int y, .int z]), ?_, ⟨⟨cs, c - 1000000000000000000, y, z, set_at (sb2 _), by rw [set_ne ne]; exact sb _, fun i hi => hbs i (List.mem_cons_of_mem _ hi), by omega, hz, hzn⟩, ne⟩, Ext.set2.trans Ext.set1⟩
      unfold drawFirst ir_1070
      simp [sget, ixV, hu, hb, ixOf, cmpV, eqV, isData, areData, peq, peqL, cmpL, lsOnly, dataMax, fits, hd, isLm, isLs, bmL, lmV, h64, binV, binI, hp, setIx, sb2]
  · have hx0 : (x == 0) = false := by simpa using h0
    refine ⟨h, ?_, ⟨⟨bs, x, y, z, hu, hb, hbs, hx, hz, hzn⟩, ne⟩, Ext.refl⟩
    unfold drawFirst ir_1070
    simp [sget, ixV, hu, hb, ixOf, cmpV, eqV, isData, peq, hx0, dataMax]
theorem draw_ok {d u b : Nat} {h : AH} {m n : Int} (D : Dk h u b n) (hn : n < 1000000) (hm : 0 < m) (hm2 : m.natAbs < hugeDiv) :
    ∃ r h', T.fn (d + 1) 1070 [.obj u, .int m] h = .ok (.int r) h' ∧ 0 ≤ r ∧ r < m ∧ Dk h' u b (n + 1) ∧ Ext u b h h' := by
  obtain ⟨h1, e1, D1, x1⟩ := draw_first (Γ := T.g (T.fn d)) (m := m) D
  obtain ⟨r, h2, e2, r1, r2, D2, x2⟩ := draw_rest (Γ := T.g (T.fn d)) D1 hn hm hm2
  refine ⟨r, h2, ?_, r1, r2, D2, x1.trans x2⟩
  rw [fn_succ d 1070 ⟨2, 3, ir_1070⟩ rfl]
  have e : ir_1070 = .seq drawFirst drawRest := rfl
  show runD (T.g (T.fn d)) 3 ir_1070 [.obj u, .int m] h = _
  unfold runD
  rw [e]
  show (match (dens (T.g (T.fn d)) (.seq drawFirst drawRest)).r none [some (.obj u), some (.int m), none] h with
  | .nx _ h => R.ok PV.non h
  | .rt v h => .ok v h
  | .ex c fs _ h => .ex c fs h
  | _ => .no) = _
  rw [r_seq, e1]
  show (match (dens (T.g (T.fn d)) drawRest).r none [some (.obj u), some (.int m), none] h1 with
  | .nx _ h => R.ok PV.non h
  | .rt v h => .ok v h
  | .ex c fs _ h => .ex c fs h
  | _ => .no) = _
  rw [e2]
end NI.LW
end

section
set_option linter.all false
set_option maxRecDepth 100000
set_option maxHeartbeats 4000000
namespace NI.LW
open NI
def deckIt : E := match ir_1064 with
  | .seq _ (.seq (.for_ _ i _) _) => i
  | _ => .nil
def deckRet : NI.S := match ir_1064 with
  | .seq _ (.seq _ r) => r
  | _ => .skip
def deckBody : NI.S := match ir_1064 with
  | .seq _ (.seq (.for_ _ _ b) _) => b
  | _ => .skip
theorem deck_body {Γ : G} {h : AH} {s : PV} {m c : Int} : ∃ m', (dens Γ deckBody).r none [some s, some (.int m), some (.int c)] h = .nx [some s, some (.int m'), some (.int c)] h := by
  have s1 : smallI 40692 = true := by decide
  refine ⟨(m * 40692 + c % 4294967279 + 41) % 4294967291, ?_⟩
  unfold deckBody ir_1064
  simp [sget, binV, binI, s1, bfV, bf1]
theorem deck_loop {Γ : G} {h : AH} {s : PV} {g : List (Nat × List PV)} (st : still g h = true) : ∀ (l : List Int) (m : Int) (c : Option PV), ∃ m' c', forF g (fun x σ h => (den Γ (.var 2)).A x none σ h) ((dens Γ deckBody).r none) (l.map PV.int) [some s, some (.int m), c] h = .nx [some s, some (.int m'), c'] h
  | [], m, c => ⟨m, c, for_nil st⟩
  | i :: l, m, c => by
    obtain ⟨m1, e1⟩ := deck_body (Γ := Γ) (h := h) (s := s) (m := m) (c := i)
    obtain ⟨m2, c2, e2⟩ := deck_loop st l m1 (some (.int i))
    refine ⟨m2, c2, ?_⟩
    show forF g _ _ (PV.int i :: l.map PV.int) _ h = _
    rw [for_cons st (show (den Γ (.var 2)).A (.int i) none [some s, some (.int m), c] h = .ok [some s, some (.int m), some (.int i)] h from rfl) e1]
    exact e2
theorem deck_lc {h : AH} {g : List (Nat × List PV)} {step : PV → AH → R (Option PV)} (st : still g h = true) (hs : ∀ i : Int, step (.int i) h = .ok (if 1000000000000000000 ≤ i then some (.int i) else none) h) : ∀ l : List Int, ∃ bs : List Int, lcF g step (l.map PV.int) h = .ok (bs.map PV.int) h ∧ ∀ i ∈ bs, 1000000000000000000 ≤ i
  | [] => ⟨[], lc_nil st, fun i h => by cases h⟩
  | i :: l => by
    obtain ⟨bs, e, hb⟩ := deck_lc st hs l
    by_cases hi : 1000000000000000000 ≤ i
    · refine ⟨i :: bs, ?_, fun j hj => ?_⟩
      · show lcF g step (PV.int i :: l.map PV.int) h = _
        rw [lc_some st (by rw [hs i, if_pos hi]), e]; rfl
      · rcases List.mem_cons.mp hj with rfl | hj
        · exact hi
        · exact hb j hj
    · refine ⟨bs, ?_, hb⟩
      show lcF g step (PV.int i :: l.map PV.int) h = _
      rw [lc_none st (by rw [hs i, if_neg hi]), e]
theorem still1 {h : AH} {n : Nat} {l : List Int} (e : h[n]? = some (.lst (l.map PV.int))) : still [(n, l.map PV.int)] h = true := by
  unfold still
  simp [e, pvEqL_int]
theorem deck_ok {d : Nat} {ns : List Int} (hl : ns.length ≤ 63) : ∃ h', T.fn (d + 1) 1064 [.obj 0] [.frz (ns.map PV.int)] = .ok (.obj 4) h' ∧ Dk h' 4 3 0 ∧ h'.length = 5 := by
  rw [fn_succ d 1064 ⟨1, 3, ir_1064⟩ rfl]
  have cutE : cutL (ns.map PV.int) none (some 63) = ns.map PV.int := by
    unfold cutL sIx
    simp
    exact List.take_of_length_le (by simp; omega)
  obtain ⟨m', c', e1⟩ := deck_loop (Γ := T.g (T.fn d)) (h := [.frz (ns.map PV.int), .lst (ns.map PV.int)]) (s := .obj 0) (g := [(1, ns.map PV.int)]) (still1 rfl) ns 67 none
  have hp : powOk 10 18 = true := by decide
  obtain ⟨bs, e2, hbs⟩ := deck_lc (h := [.frz (ns.map PV.int), .lst (ns.map PV.int), .lst (ns.map PV.int)]) (g := [(2, ns.map PV.int)])
    (step := fun x h => ((den (T.g (T.fn d)) (.var 2)).A x none (wipe [some (.obj 0), some (.int m'), c'] [2]) h).bind fun σ1 h => ((den (T.g (T.fn d)) (.cons (.cmp .ge (.var 2) (.bin .pow (.con (.int 10)) (.con (.int 18)))) .nil)).T none σ1 h).bind fun b h => (match b with
        | true => ((den (T.g (T.fn d)) (.bf .int (.cons (.var 2) .nil))).v none σ1 h).bind fun y h => .ok (some y) h
        | false => .ok none h)) (still1 rfl) (fun i => by
      by_cases hi : 1000000000000000000 ≤ i
      · simp [wipe, sget, binV, binI, hp, cmpV, hi, bfV, bf1]
      · simp [wipe, sget, binV, binI, hp, cmpV, hi, bfV, bf1]) ns
  refine ⟨[.frz (ns.map PV.int), .lst (ns.map PV.int), .lst (ns.map PV.int), .lst (bs.map .int), .lst [.obj 3, .int 0, .int m', .int 0]], ?_, ⟨⟨bs, 0, m', 0, rfl, rfl, hbs, Int.le_refl _, Int.le_refl _, Int.le_refl _⟩, by decide⟩, rfl⟩
  have q1 : (den (T.g (T.fn d)) deckIt).Q none [some (.obj 0), some (.int 67), none] [.frz (ns.map PV.int)] = .ok (ns.map PV.int, .lists [(1, ns.map PV.int)]) [.frz (ns.map PV.int), .lst (ns.map PV.int)] := by
    unfold deckIt ir_1064
    simp [sget, slcV, lstAt, cutE, itemsV, gdOf, partD]
  have q2 : (den (T.g (T.fn d)) deckIt).Q none [some (.obj 0), some (.int m'), c'] [.frz (ns.map PV.int), .lst (ns.map PV.int)] = .ok (ns.map PV.int, .lists [(2, ns.map PV.int)]) [.frz (ns.map PV.int), .lst (ns.map PV.int), .lst (ns.map PV.int)] := by
    unfold deckIt ir_1064
    simp [sget, slcV, lstAt, cutE, itemsV, gdOf, partD]
  have f2 : (dens (T.g (T.fn d)) (.for_ (.var 2) deckIt deckBody)).r none [some (.obj 0), some (.int 67), none] [.frz (ns.map PV.int)] = .nx [some (.obj 0), some (.int m'), c'] [.frz (ns.map PV.int), .lst (ns.map PV.int)] := by
    rw [r_for]
    unfold wlkY
    rw [q1]
    exact e1
  have fit : fits (ns.map PV.int).length = true := by unfold fits maxSize; simp; omega
  have f3 : (dens (T.g (T.fn d)) deckRet).r none [some (.obj 0), some (.int m'), c'] [.frz (ns.map PV.int), .lst (ns.map PV.int)] = .rt (.obj 4) [.frz (ns.map PV.int), .lst (ns.map PV.int), .lst (ns.map PV.int), .lst (bs.map .int), .lst [.obj 3, .int 0, .int m', .int 0]] := by
    have k : (den (T.g (T.fn d)) (.lc (.bf .int (.cons (.var 2) .nil)) (.var 2) deckIt (.cons (.cmp .ge (.var 2) (.bin .pow (.con (.int 10)) (.con (.int 18)))) .nil) [2])).L none [some (.obj 0), some (.int m'), c'] [.frz (ns.map PV.int), .lst (ns.map PV.int)] = .ok (bs.map PV.int) [.frz (ns.map PV.int), .lst (ns.map PV.int), .lst (ns.map PV.int)] := by
      rw [L_lc]
      unfold wlk
      rw [q2]
      show (if (!fits (ns.map PV.int).length) = true then R.no else _) = _
      rw [fit]
      exact e2
    have fr : deckRet = .ret (.new (.lst (.cons (.new (.lc (.bf .int (.cons (.var 2) .nil)) (.var 2) deckIt (.cons (.cmp .ge (.var 2) (.bin .pow (.con (.int 10)) (.con (.int 18)))) .nil) [2])) (.cons (.con (.int 0)) (.cons (.var 1) (.cons (.con (.int 0)) .nil)))))) := rfl
    rw [fr]
    simp [k, sget, fits, maxSize]
  show (match (match (dens (T.g (T.fn d)) (.for_ (.var 2) deckIt deckBody)).r none [some (.obj 0), some (.int 67), none] [.frz (ns.map PV.int)] with
    | .nx σ h => (dens (T.g (T.fn d)) deckRet).r none σ h
    | y => y) with
  | .nx _ h => R.ok PV.non h
  | .rt v h => .ok v h
  | .ex c fs _ h => .ex c fs h
  | _ => .no) = _
  rw [f2]
  show (match (dens (T.g (T.fn d)) deckRet).r none [some (.obj 0), some (.int m'), c'] [.frz (ns.map PV.int), .lst (ns.map PV.int)] with
  | .nx _ h => R.ok PV.non h
  | .rt v h => .ok v h
  | .ex c fs _ h => .ex c fs h
  | _ => .no) = _
  rw [f3]
end NI.LW
end

section
set_option linter.all false
set_option maxRecDepth 100000
set_option maxHeartbeats 4000000
namespace NI.LW
open NI
/-- a letter of a text by a draw -/
theorem ix_str {h : AH} {s : Txt} {r : Int} (h0 : 0 ≤ r) (h1 : r < s.length) : ∃ c, ixV h (.str s) (.int r) = some (.str [c]) := by
  have hk : r.toNat < s.length := by omega
  refine ⟨s[r.toNat], ?_⟩
  have e1 : ixOf r s.length = some r.toNat := by unfold ixOf; rw [if_pos h0, if_pos h1]
  show (ixOf r s.length).bind (fun k => (s[k]?).map fun c => PV.str [c]) = _
  rw [e1]
  simp [List.getElem?_eq_getElem hk]
def nameBody : NI.S := match ir_1189 with
  | .seq _ (.seq _ (.seq (.for_ _ _ b) _)) => b
  | _ => .skip
def nameIt : E := match ir_1189 with
  | .seq _ (.seq _ (.seq (.for_ _ i _) _)) => i
  | _ => .nil
def nameIte : NI.S := match ir_1189 with
  | .seq _ (.seq _ (.seq _ (.seq i _))) => i
  | _ => .skip
theorem natAbs_small {m : Int} (h0 : 0 ≤ m) (h1 : m < 1000000000) : m.natAbs < hugeDiv := by
  have : (1000000000 : Nat) ≤ hugeDiv := by decide +kernel
  omega
theorem name_body {d u b : Nat} {h : AH} {n : Int} {fs v tl : PV} {tls nm : Txt} {k : PV} (D : Dk h u b n) (hn : n < 1000000) (ht : tls.length = 62) (hl : nm.length ≤ 1000) :
    ∃ nm' h', (dens (T.g (T.fn (d + 1))) nameBody).r none [some (.obj u), some fs, some v, some (.str tls), some (.str nm), some k] h = .nx [some (.obj u), some fs, some v, some (.str tls), some (.str nm'), some k] h' ∧ nm'.length = nm.length + 1 ∧ Dk h' u b (n + 1) ∧ Ext u b h h' := by
  obtain ⟨r, h1, e1, r1, r2, D1, x1⟩ := draw_ok (d := d) (m := 62) D hn (by omega) (by decide +kernel)
  obtain ⟨c, ec⟩ := ix_str (h := h1) (s := tls) r1 (by rw [ht]; exact r2)
  refine ⟨nm ++ [c], h1, ?_, by simp, D1, x1⟩
  have e1' : (T.g (T.fn (d + 1))).fn 1070 [.obj u, .int 62] h = .ok (.int r) h1 := e1
  unfold nameBody ir_1189
  have f1 : fits (nm.length + 1) = true := by unfold fits maxSize; simp; omega
  simp [sget, e1', ec, binV, f1]
theorem name_loop {d u b : Nat} {fs v : PV} {tls : Txt} (ht : tls.length = 62) : ∀ (k : Nat) (i n : Int) (h : AH) (nm : Txt) (c : Option PV), Dk h u b n → n + k < 1000000 → nm.length + k ≤ 1000 →
    ∃ nm' h' c', forF [] (fun x σ h => (den (T.g (T.fn (d + 1))) (.var 5)).A x none σ h) ((dens (T.g (T.fn (d + 1))) nameBody).r none) (rngF i k) [some (.obj u), some fs, some v, some (.str tls), some (.str nm), c] h =
      .nx [some (.obj u), some fs, some v, some (.str tls), some (.str nm'), c'] h' ∧ nm'.length = nm.length + k ∧ Dk h' u b (n + k) ∧ Ext u b h h'
  | 0, i, n, h, nm, c, D, _, _ => ⟨nm, h, c, for_nil rfl, by simp, by simpa using D, Ext.refl⟩
  | k + 1, i, n, h, nm, c, D, hn, hl => by
    obtain ⟨nm1, h1, e1, l1, D1, x1⟩ := name_body (d := d) (fs := fs) (v := v) (tl := .non) (k := .int i) D (by omega) ht (nm := nm) (by omega)
    obtain ⟨nm2, h2, c2, e2, l2, D2, x2⟩ := name_loop ht k (i + 1) (n + 1) h1 nm1 (some (.int i)) D1 (by omega) (by omega)
    refine ⟨nm2, h2, c2, ?_, by omega, by rw [show n + ((k + 1 : Nat) : Int) = n + 1 + k from by omega]; exact D2, x1.trans x2⟩
    show forF [] _ _ (PV.int i :: rngF (i + 1) k) _ h = _
    rw [for_cons rfl (show (den (T.g (T.fn (d + 1))) (.var 5)).A (.int i) none [some (.obj u), some fs, some v, some (.str tls), some (.str nm), c] h = .ok [some (.obj u), some fs, some v, some (.str tls), some (.str nm), some (.int i)] h from rfl) e1]
    exact e2
end NI.LW
end

section
set_option linter.all false
set_option maxRecDepth 100000
set_option maxHeartbeats 4000000
namespace NI.LW
open NI
theorem name_it {d u b : Nat} {h : AH} {n : Int} {fs v t : PV} {nm : Txt} {c : Option PV} (D : Dk h u b n) (hn : n < 1000000) : ∃ (k : Nat) (h' : AH), (den (T.g (T.fn (d + 1))) nameIt).Q none [some (.obj u), some fs, some v, some t, some (.str nm), c] h = .ok (rngF 0 k, .none) h' ∧ k ≤ 9 ∧ Dk h' u b (n + 1) ∧ Ext u b h h' := by
  obtain ⟨r, h1, e1, r1, r2, D1, x1⟩ := draw_ok (d := d) (m := 4) D hn (by omega) (by decide +kernel)
  have e1' : (T.g (T.fn (d + 1))).fn 1070 [.obj u, .int 4] h = .ok (.int r) h1 := e1
  have f4 : fits 4 = true := by decide
  have key : ∀ (i : Int) (k : Nat), 0 ≤ i → i < 1000000 → i.toNat = k → k ≤ 9 → ixV [] (.tup [.int 0, .int 1, .int 2, .int 9]) (.int r) = some (.int i) → ∃ (k : Nat) (h' : AH), (den (T.g (T.fn (d + 1))) nameIt).Q none [some (.obj u), some fs, some v, some t, some (.str nm), c] h = .ok (rngF 0 k, .none) h' ∧ k ≤ 9 ∧ Dk h' u b (n + 1) ∧ Ext u b h h' := fun i k h0 h1' hi hk e => by
    refine ⟨k, h1, ?_, hk, D1, x1⟩
    have q : ∀ E1, nameIt = .rng E1 → (den (T.g (T.fn (d + 1))) E1).v none [some (.obj u), some fs, some v, some t, some (.str nm), c] h = .ok (.int i) h1 := fun E1 hE => by
      unfold nameIt ir_1189 at hE
      cases hE
      simp [sget, e1', e, f4]
    exact Q_rng_ok (q _ rfl) (rngOk_small h0 h1') hi
  have hr : r = 0 ∨ r = 1 ∨ r = 2 ∨ r = 3 := by omega
  rcases hr with rfl | rfl | rfl | rfl
  · exact key 0 0 (by omega) (by omega) rfl (by omega) (by simp [ixV, ixOf])
  · exact key 1 1 (by omega) (by omega) rfl (by omega) (by simp [ixV, ixOf])
  · exact key 2 2 (by omega) (by omega) rfl (by omega) (by simp [ixV, ixOf])
  · exact key 9 9 (by omega) (by omega) rfl (by omega) (by simp [ixV, ixOf])
theorem len_cut {s : Txt} {n : Nat} : (cutL s none (some (n : Int))).length ≤ s.length := by
  unfold cutL
  rw [List.length_take, List.length_drop]
  omega
def reservedV : PV := match ir_1250 with
  | .ret e => (match (den (T.g fun _ _ _ => .no) e).v none [] [] with
    | .ok p _ => p
    | _ => .non)
  | _ => .non
theorem reserved_ok {d : Nat} {h : AH} : T.fn (d + 1) 1250 [] h = .ok reservedV h := rfl
theorem name_ite {d u b v : Nat} {h : AH} {fs t : PV} {nm : Txt} {c : Option PV} (hv : h[v]? = some (.lst [])) (hl : nm.length ≤ 100) :
    ∃ nm' c', (dens (T.g (T.fn (d + 1))) nameIte).r none [some (.obj u), some fs, some (.obj v), some t, some (.str nm), c] h = .nx [some (.obj u), some fs, some (.obj v), some t, some (.str nm'), c'] h ∧ nm'.length ≤ 101 := by
  have e1 : cmpV .inn h (.str nm) (.obj v) = some false := by
    simp [cmpV, inV, hv, isData, areData, pin]
  obtain ⟨b1, e2⟩ : ∃ b1, cmpV .inn h (.str (cutL nm none (some 2))) (.tup [.str [122, 122], .str [90, 122]]) = some b1 := by
    simp [cmpV, inV, isFlat]
  obtain ⟨b2, e3⟩ : ∃ b2, cmpV .inn h (.str nm) reservedV = some b2 := ⟨_, rfl⟩
  have f2 : fits 2 = true := by decide
  have er : (T.g (T.fn (d + 1))).fn 1250 [] h = .ok reservedV h := reserved_ok (d := d)
  have cond : (den (T.g (T.fn (d + 1))) (match ir_1189 with
      | .seq _ (.seq _ (.seq _ (.seq (.ite x _ _) _))) => x
      | _ => .nil)).v none [some (.obj u), some fs, some (.obj v), some t, some (.str nm), c] h = .ok (.bl (b1 || b2)) h := by
    unfold ir_1189
    cases b1
    · simp [sget, e1, e2, e3, er, slcV, partD, f2]
    · simp [sget, e1, e2, e3, er, slcV, partD, f2]
  cases hb : b1 || b2 with
  | false =>
    refine ⟨nm, c, ?_, by omega⟩
    show ((den (T.g (T.fn (d + 1))) (match ir_1189 with
      | .seq _ (.seq _ (.seq _ (.seq (.ite x _ _) _))) => x
      | _ => .nil)).v none [some (.obj u), some fs, some (.obj v), some t, some (.str nm), c] h).to _ _ = _
    rw [cond, hb]; rfl
  | true =>
    have hc : (cutL nm none (some (1 : Int))).length ≤ nm.length := len_cut (n := 1)
    refine ⟨cutL nm none (some 1) ++ [48], c, ?_, by simp; omega⟩
    show ((den (T.g (T.fn (d + 1))) (match ir_1189 with
      | .seq _ (.seq _ (.seq _ (.seq (.ite x _ _) _))) => x
      | _ => .nil)).v none [some (.obj u), some fs, some (.obj v), some t, some (.str nm), c] h).to _ _ = _
    rw [cond, hb]
    have f1 : fits ((cutL nm none (some 1)).length + 1) = true := by unfold fits maxSize; simp; omega
    have e4 : cmpV .nin h (.str (cutL nm none (some 1) ++ [48])) (.obj v) = some true := by
      simp [cmpV, inV, hv, isData, areData, pin]
    have ro : rngOk 1 = true := by decide
    have f0 : fits 1 = true := by decide
    show (dens (T.g (T.fn (d + 1))) (.asg (.var 4) _)).r none _ h = _
    rw [r_asgv, v_ixn, L_lc]
    simp [wlk, sget, hv, lenV, bfV, bf1, binV, binI, ro, rngF, Gd.none, f0, lcF, still, wipe, slcV, partD, f1, e4, dig, ixV, ixOf]
end NI.LW
end

section
set_option linter.all false
set_option maxRecDepth 100000
set_option maxHeartbeats 4000000
namespace NI.LW
open NI
/-- the end of a body, seen as a call's outcome -/
def outY (y : Y) : R PV := match y with
  | .nx _ h => .ok .non h
  | .rt v h => .ok v h
  | .ex c fs _ h => .ex c fs h
  | _ => .no
theorem runD_eq {Γ : G} {n : Nat} {b : NI.S} {args : List PV} {h : AH} : runD Γ n b args h = outY ((dens Γ b).r none (args.map some ++ List.replicate (n - args.length) none) h) := by
  unfold runD outY; rfl
theorem seq_nx {Γ : G} {s t : NI.S} {xc : Xc} {σ σ1 : Sg} {h h1 : AH} (e : (dens Γ s).r xc σ h = .nx σ1 h1) : (dens Γ (.seq s t)).r xc σ h = (dens Γ t).r xc σ1 h1 := by
  rw [r_seq, e]
def tailT : Txt := match ir_1189 with
  | .seq (.asg _ (.con (.str t))) _ => t
  | _ => []
theorem name_first {d u b : Nat} {h : AH} {n : Int} {fs : Txt} {v t : PV} {c1 c2 : Option PV} (D : Dk h u b n) (hn : n < 1000000) (hf : 0 < fs.length) (hf2 : fs.length < 1000) : ∃ nm h', (dens (T.g (T.fn (d + 1))) (.asg (.var 4) (.ix (.var 1) (.call 1070 (.cons (.var 0) (.cons (.bf .len (.cons (.var 1) .nil)) .nil)) [])))).r none [some (.obj u), some (.str fs), some v, some t, c1, c2] h =
    .nx [some (.obj u), some (.str fs), some v, some t, some (.str nm), c2] h' ∧ nm.length = 1 ∧ Dk h' u b (n + 1) ∧ Ext u b h h' := by
  obtain ⟨r, h1, e1, r1, r2, D1, x1⟩ := draw_ok (d := d) (m := (fs.length : Int)) D hn (by omega) (natAbs_small (by omega) (by omega))
  obtain ⟨c, ec⟩ := ix_str (h := h1) (s := fs) r1 r2
  refine ⟨[c], h1, ?_, rfl, D1, x1⟩
  have e1' : (T.g (T.fn (d + 1))).fn 1070 [.obj u, .int fs.length] h = .ok (.int r) h1 := e1
  simp [sget, bfV, bf1, lenV, e1', ec]
theorem name_ok {d u b v : Nat} {h : AH} {n : Int} {fs : Txt} (D : Dk h u b n) (hn : n < 100000) (hf : 0 < fs.length) (hf2 : fs.length < 1000) (hv : h[v]? = some (.lst [])) (vu : v ≠ u) (vb : v ≠ b) :
    ∃ nm h', T.fn (d + 2) 1189 [.obj u, .str fs, .obj v] h = .ok (.str nm) h' ∧ Dk h' u b (n + 11) ∧ h'.length = h.length ∧ nm.length ≤ 101 := by
  obtain ⟨nm1, h1, e1, l1, D1, x1⟩ := name_first (d := d) (v := .obj v) (t := .str tailT) (c1 := none) (c2 := none) D (by omega) hf hf2
  obtain ⟨k, h2, e2, hk, D2, x2⟩ := name_it (d := d) (fs := .str fs) (v := .obj v) (t := .str tailT) (nm := nm1) (c := none) D1 (by omega)
  obtain ⟨nm3, h3, c3, e3, l3, D3, x3⟩ := name_loop (d := d) (fs := .str fs) (v := .obj v) (tls := tailT) rfl k 0 (n + 1 + 1) h2 nm1 none D2 (by omega) (by omega)
  have x123 := (x1.trans x2).trans x3
  have hv3 : h3[v]? = some (.lst []) := by rw [x123.same v vu vb]; exact hv
  obtain ⟨nm4, c4, e4, l4⟩ := name_ite (d := d) (u := u) (b := b) (fs := .str fs) (t := .str tailT) (nm := nm3) (c := c3) hv3 (by omega)
  have e2' : (dens (T.g (T.fn (d + 1))) (.for_ (.var 5) nameIt nameBody)).r none [some (.obj u), some (.str fs), some (.obj v), some (.str tailT), some (.str nm1), none] h1 = .nx [some (.obj u), some (.str fs), some (.obj v), some (.str tailT), some (.str nm3), c3] h3 := by
    rw [r_for]
    unfold wlkY
    rw [e2]
    exact e3
  refine ⟨nm4, h3.set v (.lst [.str nm4]), ?_, ⟨?_, D3.ne⟩, by rw [List.length_set]; exact x123.len, l4⟩
  · rw [fn_succ (d + 1) 1189 ⟨3, 6, ir_1189⟩ rfl]
    show runD (T.g (T.fn (d + 1))) 6 ir_1189 [.obj u, .str fs, .obj v] h = _
    rw [runD_eq]
    have ei : ir_1189 = .seq (.asg (.var 3) (.con (.str tailT))) (.seq (.asg (.var 4) (.ix (.var 1) (.call 1070 (.cons (.var 0) (.cons (.bf .len (.cons (.var 1) .nil)) .nil)) []))) (.seq (.for_ (.var 5) nameIt nameBody) (.seq nameIte (.seq (.expr (.bm (.var 2) .append (.cons (.var 4) .nil))) (.ret (.var 4)))))) := rfl
    rw [ei]
    show outY ((dens (T.g (T.fn (d + 1))) (.seq (.asg (.var 4) (.ix (.var 1) (.call 1070 (.cons (.var 0) (.cons (.bf .len (.cons (.var 1) .nil)) .nil)) []))) _)).r none [some (.obj u), some (.str fs), some (.obj v), some (.str tailT), none, none] h) = _
    rw [seq_nx e1, seq_nx e2', seq_nx e4]
    simp [sget, isLm, isLs, lsOnly, hv3, bmL, lmV, maxSize, outY]
  · obtain ⟨⟨bs, x, y, z, g1, g2, g3, g4, g5, g6⟩, _⟩ := D3
    exact ⟨bs, x, y, z, by rw [set_ne vu]; exact g1, by rw [set_ne vb]; exact g2, g3, g4, g5, by omega⟩
theorem high_ok {d u b v : Nat} {h : AH} {n : Int} (D : Dk h u b n) (hn : n < 100000) (hv : h[v]? = some (.lst [])) (vu : v ≠ u) (vb : v ≠ b) :
    ∃ nm h', T.fn (d + 3) 1123 [.obj u, .obj v] h = .ok (.str nm) h' ∧ Dk h' u b (n + 11) ∧ h'.length = h.length ∧ nm.length ≤ 101 := by
  obtain ⟨nm, h1, e1, D1, l1, l2⟩ := name_ok (d := d) (fs := [65, 66, 67, 68, 69, 70, 71, 72, 73, 74, 75, 76, 77, 78, 79, 80, 81, 82, 83, 84, 85, 86, 87, 88, 89, 90]) D hn (by decide) (by decide) hv vu vb
  refine ⟨nm, h1, ?_, D1, l1, l2⟩
  rw [fn_succ (d + 2) 1123 ⟨2, 2, ir_1123⟩ rfl]
  show runD (T.g (T.fn (d + 2))) 2 ir_1123 [.obj u, .obj v] h = _
  rw [runD_eq]
  have e1' : (T.g (T.fn (d + 2))).fn 1189 [.obj u, .str [65, 66, 67, 68, 69, 70, 71, 72, 73, 74, 75, 76, 77, 78, 79, 80, 81, 82, 83, 84, 85, 86, 87, 88, 89, 90], .obj v] h = .ok (.str nm) h1 := e1
  unfold ir_1123
  simp [sget, e1', outY]
end NI.LW
end

section
set_option linter.all false
set_option maxRecDepth 100000
set_option maxHeartbeats 4000000
namespace NI.LW
open NI
def lowW : List PV := match ir_1173 with
  | .seq (.ite _ (.seq (.asg _ (.new (.lst es))) _) _) _ => (match (den (T.g fun _ _ _ => .no) es).vs none [] [] with
    | .ok ps _ => ps
    | _ => [])
  | _ => []
def lowE : E := match ir_1173 with
  | .seq (.ite _ (.seq (.asg _ (.new (.lst es))) _) _) _ => es
  | _ => .nil
theorem lowE_vs {Γ : G} {xc : Xc} {σ : Sg} {h : AH} : (den Γ lowE).vs xc σ h = .ok lowW h := rfl
theorem lowW_str : ∀ r : Int, 0 ≤ r → r < 14 → ∃ s : Txt, ixV [] (.tup lowW) (.int r) = some (.str s) ∧ s.length ≤ 101 := fun r h0 h1 => by
  have hr : r = 0 ∨ r = 1 ∨ r = 2 ∨ r = 3 ∨ r = 4 ∨ r = 5 ∨ r = 6 ∨ r = 7 ∨ r = 8 ∨ r = 9 ∨ r = 10 ∨ r = 11 ∨ r = 12 ∨ r = 13 := by omega
  rcases hr with rfl | rfl | rfl | rfl | rfl | rfl | rfl | rfl | rfl | rfl | rfl | rfl | rfl | rfl <;> exact ⟨_, rfl, by decide⟩
theorem Dk.app {h : AH} {u b : Nat} {n : Int} {a : AO} (D : Dk h u b n) : Dk (h ++ [a]) u b n := by
  obtain ⟨⟨bs, x, y, z, g1, g2, g3⟩, ne⟩ := D
  exact ⟨⟨bs, x, y, z, by rw [List.getElem?_append_left (List.getElem?_eq_some_iff.mp g1).1]; exact g1, by rw [List.getElem?_append_left (List.getElem?_eq_some_iff.mp g2).1]; exact g2, g3⟩, ne⟩
theorem Dk.lt {h : AH} {u b : Nat} {n : Int} (D : Dk h u b n) : u < h.length ∧ b < h.length := by
  obtain ⟨⟨bs, x, y, z, g1, g2, _⟩, _⟩ := D
  exact ⟨(List.getElem?_eq_some_iff.mp g1).1, (List.getElem?_eq_some_iff.mp g2).1⟩
theorem Dk.mono {h : AH} {u b : Nat} {n m : Int} (D : Dk h u b n) (hm : n ≤ m) : Dk h u b m := by
  obtain ⟨⟨bs, x, y, z, g1, g2, g3, g4, g5, g6⟩, ne⟩ := D
  exact ⟨⟨bs, x, y, z, g1, g2, g3, g4, g5, by omega⟩, ne⟩
theorem Dk.set {h : AH} {u b v : Nat} {n : Int} {a : AO} (D : Dk h u b n) (vu : v ≠ u) (vb : v ≠ b) : Dk (h.set v a) u b n := by
  obtain ⟨⟨bs, x, y, z, g1, g2, g3⟩, ne⟩ := D
  exact ⟨⟨bs, x, y, z, by rw [set_ne vu]; exact g1, by rw [set_ne vb]; exact g2, g3⟩, ne⟩
theorem low_ok {d u b v : Nat} {h : AH} {n : Int} (D : Dk h u b n) (hn : n < 10000) (hv : h[v]? = some (.lst [])) (vu : v ≠ u) (vb : v ≠ b) :
    ∃ nm h', T.fn (d + 3) 1173 [.obj u, .obj v] h = .ok (.str nm) h' ∧ Dk h' u b (n + 12) ∧ (h'.length = h.length ∨ h'.length = h.length + 1) ∧ nm.length ≤ 101 := by
  obtain ⟨r, h1, e1, r1, r2, D1, x1⟩ := draw_ok (d := d + 1) (m := 9) D (by omega) (by omega) (by decide +kernel)
  have e1' : (T.g (T.fn (d + 2))).fn 1070 [.obj u, .int 9] h = .ok (.int r) h1 := e1
  have hv1 : h1[v]? = some (.lst []) := by rw [x1.same v vu vb]; exact hv
  have ei : ir_1173 = .seq (.ite (.cmp .eq (.call 1070 (.cons (.var 0) (.cons (.con (.int 9)) .nil)) []) (.con (.int 0))) (.seq (.asg (.var 2) (.new (.lst lowE))) (.seq (.asg (.var 3) (.ix (.var 2) (.call 1070 (.cons (.var 0) (.cons (.con (.int 14)) .nil)) []))) (.ite (.cmp .nin (.var 3) (.var 1)) (.seq (.expr (.bm (.var 1) .append (.cons (.var 3) .nil))) (.ret (.var 3))) .skip))) .skip)
    (.ret (.call 1189 (.cons (.var 0) (.cons (.con (.str [97, 98, 99, 100, 101, 102, 103, 104, 105, 106, 107, 108, 109, 110, 111, 112, 113, 114, 115, 116, 117, 118, 119, 120, 121, 122])) (.cons (.var 1) .nil))) [])) := rfl
  by_cases hr : r = 0
  · subst hr
    let h1a := h1 ++ [AO.lst lowW]
    have hl1 : h1a[h1.length]? = some (.lst lowW) := by simp [h1a]
    obtain ⟨q, h2, e2, q1, q2, D2, x2⟩ := draw_ok (d := d + 1) (m := 14) (h := h1a) (u := u) (b := b) D1.app (by omega) (by omega) (by decide +kernel)
    have e2' : (T.g (T.fn (d + 2))).fn 1070 [.obj u, .int 14] h1a = .ok (.int q) h2 := e2
    obtain ⟨s, es, ls⟩ := lowW_str q q1 q2
    have hn1 : h1.length ≠ u := Nat.ne_of_gt D1.lt.1
    have hn2 : h1.length ≠ b := Nat.ne_of_gt D1.lt.2
    have hl2 : h2[h1.length]? = some (.lst lowW) := by rw [x2.same _ hn1 hn2]; exact hl1
    have es2 : ixV h2 (.obj h1.length) (.int q) = some (.str s) := by
      have : ixV h2 (.obj h1.length) (.int q) = ixV [] (.tup lowW) (.int q) := by
        simp only [ixV, hl2]
      rw [this]; exact es
    have hv2 : h2[v]? = some (.lst []) := by
      rw [x2.same v vu vb]
      show (h1 ++ [AO.lst lowW])[v]? = _
      rw [List.getElem?_append_left (List.getElem?_eq_some_iff.mp hv1).1]; exact hv1
    refine ⟨s, h2.set v (.lst [.str s]), ?_, (D2.mono (by omega)).set vu vb, .inr ?_, ls⟩
    · rw [fn_succ (d + 2) 1173 ⟨2, 4, ir_1173⟩ rfl]
      show runD (T.g (T.fn (d + 2))) 4 ir_1173 [.obj u, .obj v] h = _
      rw [runD_eq, ei]
      have fl : fits lowW.length = true := by decide
      have c1 : cmpV .nin h2 (.str s) (.obj v) = some true := by simp [cmpV, inV, hv2, isData, areData, pin]
      have e2'' : (T.g (T.fn (d + 2))).fn 1070 [.obj u, .int 14] (h1 ++ [AO.lst lowW]) = .ok (.int q) h2 := e2'
      simp [sget, e1', cmpV, eqV, isData, peq, lowE_vs, fl, e2'', es2]
      simp [inV, hv2, isData, areData, pin, isLm, isLs, lsOnly, bmL, lmV, maxSize, sget, outY]
    · rw [List.length_set, x2.len]
      show (h1 ++ [AO.lst lowW]).length = _
      rw [List.length_append, x1.len]; rfl
  · have hr0 : (r == 0) = false := by simpa using hr
    obtain ⟨nm, h2, e2, D2, l1, l2⟩ := name_ok (d := d) (fs := [97, 98, 99, 100, 101, 102, 103, 104, 105, 106, 107, 108, 109, 110, 111, 112, 113, 114, 115, 116, 117, 118, 119, 120, 121, 122]) D1 (by omega) (by decide) (by decide) hv1 vu vb
    have e2' : (T.g (T.fn (d + 2))).fn 1189 [.obj u, .str [97, 98, 99, 100, 101, 102, 103, 104, 105, 106, 107, 108, 109, 110, 111, 112, 113, 114, 115, 116, 117, 118, 119, 120, 121, 122], .obj v] h1 = .ok (.str nm) h2 := e2
    refine ⟨nm, h2, ?_, D2.mono (by omega), .inl (l1.trans x1.len), l2⟩
    rw [fn_succ (d + 2) 1173 ⟨2, 4, ir_1173⟩ rfl]
    show runD (T.g (T.fn (d + 2))) 4 ir_1173 [.obj u, .obj v] h = _
    rw [runD_eq, ei]
    simp [sget, e1', cmpV, eqV, isData, peq, hr0, e2', outY]
end NI.LW
end

section
set_option linter.all false
set_option maxRecDepth 100000
set_option maxHeartbeats 4000000
namespace NI.LW
open NI
theorem same_run {d : Nat} {x y : PV} {h : AH} : T.fn (d + 1) 1262 [x, y] h = outY ((dens (T.g (T.fn d)) ir_1262).r none [some x, some y, none] h) := by
  rw [fn_succ d 1262 ⟨2, 3, ir_1262⟩ rfl]
  show runD (T.g (T.fn d)) 3 ir_1262 [x, y] h = _
  rw [runD_eq]; rfl
theorem same_int {d : Nat} {i : Int} {h : AH} : T.fn (d + 1) 1262 [.int i, .int i] h = .ok (.bl true) h := by
  rw [same_run]
  unfold ir_1262
  simp [sget, isTys, isTy, cmpV, isSing, eqV, isData, peq, outY]
theorem same_str {d : Nat} {s : Txt} {h : AH} : T.fn (d + 1) 1262 [.str s, .str s] h = .ok (.bl true) h := by
  rw [same_run]
  unfold ir_1262
  simp [sget, isTys, isTy, cmpV, isSing, eqV, isData, peq, outY]
/-- the comprehension that looks for places at which two tuples are unlike finds none -/
theorem same_lc {xs : List PV} {h : AH} {step : PV → AH → R (Option PV)} (hs : ∀ k : Nat, k < xs.length → step (.int k) h = .ok none h) : ∀ (n k : Nat), k + n ≤ xs.length → lcF [] step (rngF (k : Int) n) h = .ok [] h
  | 0, k, _ => lc_nil rfl
  | n + 1, k, hk => by
    show lcF [] step (PV.int (k : Int) :: rngF ((k : Int) + 1) n) h = _
    rw [lc_none rfl (hs k (by omega))]
    have := same_lc hs n (k + 1) (by omega)
    rw [show ((k + 1 : Nat) : Int) = (k : Int) + 1 from by omega] at this
    exact this
theorem ix_tup {h : AH} {xs : List PV} {k : Nat} (hk : k < xs.length) : ixV h (.tup xs) (.int (k : Int)) = some xs[k] := by
  show (ixOf (k : Int) xs.length).bind (fun k => xs[k]?) = _
  have e1 : ixOf (k : Int) xs.length = some k := by
    unfold ixOf
    rw [if_pos (by omega), if_pos (by omega)]; simp
  rw [e1]
  simp [List.getElem?_eq_getElem hk]
theorem rng_len : ∀ (n : Nat) (i : Int), (rngF i n).length = n
  | 0, _ => rfl
  | n + 1, i => by show (rngF (i + 1) n).length + 1 = _; rw [rng_len n]
theorem wlk_lists {α : Type} {I : AH → R (List PV × Gd)} {h h1 : AH} {k : List PV → List (Nat × List PV) → AH → R α} {xs : List PV} {g : List (Nat × List PV)} (e : I h = .ok (xs, .lists g) h1) : wlk I h k = k xs g h1 := by
  unfold wlk
  rw [e]
theorem L_lc_none {Γ : G} {elt tg it cond : E} {own : List Nat} {xc : Xc} {σ : Sg} {h h1 : AH} {q : List PV} {g : List (Nat × List PV)} (e : (den Γ it).Q xc σ h = .ok (q, .lists g) h1) (fit : fits q.length = true) : (den Γ (.lc elt tg it cond own)).L xc σ h = lcF g (fun x h => ((den Γ tg).A x xc (wipe σ own) h).bind fun σ1 h => ((den Γ cond).T xc σ1 h).bind fun b h => (match b with
        | true => ((den Γ elt).v xc σ1 h).bind fun y h => .ok (some y) h
        | false => .ok none h)) q h1 := by
  rw [L_lc, wlk_lists e, fit]; rfl
theorem fits_small {n : Nat} (h : n < 1000000) : fits n = true := by
  unfold fits maxSize
  exact decide_eq_true (by omega)
def sameE : E := match ir_1262 with
  | .seq (.ite _ (.seq _ (.ret (.cmpq _ (.new l) _))) _) _ => l
  | _ => .nil
theorem same_tup {d : Nat} {xs : List PV} {h : AH} (hl : xs.length < 1000) (hs : ∀ k (hk : k < xs.length), T.fn d 1262 [xs[k], xs[k]] h = .ok (.bl true) h) : T.fn (d + 1) 1262 [.tup xs, .tup xs] h = .ok (.bl true) h := by
  rw [same_run]
  have ei : ir_1262 = .seq (.ite (.isi (.var 1) [.tuple]) (.seq (.ite (.or (.not (.isi (.var 0) [.tuple])) (.cmp .ne (.bf .len (.cons (.var 0) .nil)) (.bf .len (.cons (.var 1) .nil)))) (.ret (.con (.bl false))) .skip) (.ret (.cmpq .eq (.new sameE) (.new (.lst .nil))))) .skip) (match ir_1262 with | .seq _ r => r | _ => .skip) := rfl
  have k1 : (den (T.g (T.fn d)) sameE).L none [some (.tup xs), some (.tup xs), none] h = .ok [] h := by
    have es : sameE = .lc (.var 2) (.var 2) (.rng (.bf .len (.cons (.var 1) .nil))) (.cons (.not (.call 1262 (.cons (.ix (.var 0) (.var 2)) (.cons (.ix (.var 1) (.var 2)) .nil)) [])) .nil) [2] := rfl
    rw [es]
    have q : (den (T.g (T.fn d)) (.rng (.bf .len (.cons (.var 1) .nil)))).Q none [some (.tup xs), some (.tup xs), none] h = .ok (rngF 0 xs.length, .none) h := by
      refine Q_rng_ok (i := (xs.length : Int)) ?_ (rngOk_small (by omega) (by omega)) (by omega)
      simp [sget, bfV, bf1, lenV]
    rw [L_lc_none q (by rw [rng_len]; exact fits_small (by omega))]
    refine same_lc (xs := xs) (fun k hk => ?_) xs.length 0 (by omega)
    have e1 := hs k hk
    have e1' : (T.g (T.fn d)).fn 1262 [xs[k], xs[k]] h = .ok (.bl true) h := e1
    simp [wipe, sget, ix_tup hk, e1']
  have c1 : ∀ j : Int, cmpV .ne h (.int j) (.int j) = some false := fun j => by simp [cmpV, eqV, isData, peq]
  have f0 : fits 0 = true := by decide
  have c2 : ∀ h : AH, cmpL .eq [] [] h = .ok (.bl true) h := fun h => rfl
  have b1 : bfV .len h [.tup xs] = some (.int (xs.length : Int)) := rfl
  generalize hj : (xs.length : Int) = j at b1
  rw [ei]
  simp [sget, isTys, isTy, b1, c1, k1, f0, c2, outY]
end NI.LW
end

section
set_option linter.all false
set_option maxRecDepth 100000
set_option maxHeartbeats 4000000
namespace NI.LW
open NI
def pick (n : Nat) (s : NI.S) : NI.S := match n with
  | 0 => (match s with
    | .seq a _ => a
    | s => s)
  | n + 1 => (match s with
    | .seq _ b => pick n b
    | s => s)
def lawA : NI.S := .seq (pick 5 ir_1345) (.seq (pick 6 ir_1345) (.seq (pick 7 ir_1345) (.seq (pick 8 ir_1345) (pick 9 ir_1345))))
def heapY : Y → AH
  | .nx _ h => h
  | _ => []
def slotsY : Y → Option Sg
  | .nx σ _ => some σ
  | _ => none
theorem ofSlots {y : Y} {σ : Sg} (h : slotsY y = some σ) : y = .nx σ (heapY y) := by
  cases y with
  | nx s h1 => cases h; rfl
  | _ => cases h
def lawSg (w low : Txt) (what : PV) (p q : Int) : Sg := [some (.obj 0), some (.obj 4), some (.str w), some (.str low), some what, none, none, none, none, some (.int p), some (.int q), none]
def whatV (low kd : Txt) (p q : Int) : PV := .tup [.tup [.str [110, 97, 109, 101], .str low], .tup [.str [107, 101, 121], .int q, .int (1 + p % 300)], .tup [.str kd, .str low]]
end NI.LW
end

section
set_option linter.all false
set_option maxRecDepth 100000
set_option maxHeartbeats 4000000
namespace NI.LW
open NI
section
variable {Γ : G} {xc : Xc} {σ : Sg} {h : AH} {a b c : E}
@[simp] theorem v_fld {f : Nat} : (den Γ (.fld a f)).v xc σ h = ((den Γ a).v xc σ h).bind fun x h => R.ofO h (fldV h x f) := rfl
@[simp] theorem v_mkx1 {C : Nat} {i : Nat} : (den Γ (.mkx C (.cons (.var i) .nil))).v xc σ h = ((den Γ (.var i)).v xc σ h).bind fun x h => match Γ.exi C [x] with
      | some fs => .ok (.obj h.length) (h ++ [.exc C fs])
      | none => .no := by
  show (((den Γ (.var i)).v xc σ h).bind fun x h => (R.ok ([] : List PV) h).bind fun vs h => R.ok (x :: vs) h).bind _ = _
  cases (den Γ (.var i)).v xc σ h <;> rfl
@[simp] theorem v_mkxi {C : Nat} : (den Γ (.mkx C (.cons (.ix a b) .nil))).v xc σ h = ((den Γ (.ix a b)).v xc σ h).bind fun x h => match Γ.exi C [x] with
      | some fs => .ok (.obj h.length) (h ++ [.exc C fs])
      | none => .no := by
  show (((den Γ (.ix a b)).v xc σ h).bind fun x h => (R.ok ([] : List PV) h).bind fun vs h => R.ok (x :: vs) h).bind _ = _
  cases (den Γ (.ix a b)).v xc σ h <;> rfl
end
theorem fld_new {h : AH} {C f : Nat} {v : PV} : fldV (h ++ [.exc C [(f, v)]]) (.obj h.length) f = some v := by
  unfold fldV
  simp [fget]
theorem ex15 {v : PV} : exi 15 [v] = some [(128, v)] := rfl
theorem ex30 {v : PV} : exi 30 [v] = some [(191, v)] := rfl
theorem ex31 {v : PV} : exi 31 [v] = some [(191, v)] := rfl
theorem ex32 {v : PV} : exi 32 [v] = some [(191, v)] := rfl
theorem same_what {d : Nat} {low kd : Txt} {p q i : Int} {h : AH} : T.fn (d + 3) 1262 [.tup [.int i, .tup [.str [110, 97, 109, 101], .str low], .tup [.str [107, 101, 121], .int q, .int (1 + p % 300)], .tup [.str kd, .str low]], .tup [.int i, .tup [.str [110, 97, 109, 101], .str low], .tup [.str [107, 101, 121], .int q, .int (1 + p % 300)], .tup [.str kd, .str low]]] h = .ok (.bl true) h := by
  refine same_tup (by simp) fun k hk => ?_
  match k, hk with
  | 0, _ => exact same_int
  | 1, _ =>
    refine same_tup (by simp) fun k hk => ?_
    match k, hk with
    | 0, _ => exact same_str
    | 1, _ => exact same_str
  | 2, _ =>
    refine same_tup (by simp) fun k hk => ?_
    match k, hk with
    | 0, _ => exact same_str
    | 1, _ => exact same_int
    | 2, _ => exact same_int
  | 3, _ =>
    refine same_tup (by simp) fun k hk => ?_
    match k, hk with
    | 0, _ => exact same_str
    | 1, _ => exact same_str
def lawB : NI.S := .seq (pick 10 ir_1345) (.seq (pick 11 ir_1345) (match ir_1345 with
  | .seq _ (.seq _ (.seq _ (.seq _ (.seq _ (.seq _ (.seq _ (.seq _ (.seq _ (.seq _ (.seq _ (.seq _ r))))))))))) => r
  | _ => .skip))
theorem lawB_ok {d : Nat} {w low kd : Txt} {p q : Int} {m b : Nat} {h : AH} : ∃ h', (dens (T.g (T.fn (d + 3))) lawB).r none [some (.obj 0), some (.obj 4), some (.str w), some (.str low), some (whatV low kd p q), some (.obj m), some (.int 20), some (.obj b), some (.tup [.int p, .tup [.str [110, 97, 109, 101], .str low], .tup [.str [107, 101, 121], .int q, .int (1 + p % 300)], .tup [.str kd, .str low]]), some (.int p), some (.int q), none] h = .rt (.bl true) h' := by
  have s1 : ∀ h, (T.g (T.fn (d + 3))).fn 1262 [.tup [.int p, .tup [.str [110, 97, 109, 101], .str low], .tup [.str [107, 101, 121], .int q, .int (1 + p % 300)], .tup [.str kd, .str low]], .tup [.int p, .tup [.str [110, 97, 109, 101], .str low], .tup [.str [107, 101, 121], .int q, .int (1 + p % 300)], .tup [.str kd, .str low]]] h = .ok (.bl true) h := fun h => by
    rw [show (T.g (T.fn (d + 3))).fn = T.fn (d + 3) from rfl]
    exact same_what (d := d)
  have s2 : ∀ h, (T.g (T.fn (d + 3))).fn 1262 [.tup [.int q, .tup [.str [110, 97, 109, 101], .str low], .tup [.str [107, 101, 121], .int q, .int (1 + p % 300)], .tup [.str kd, .str low]], .tup [.int q, .tup [.str [110, 97, 109, 101], .str low], .tup [.str [107, 101, 121], .int q, .int (1 + p % 300)], .tup [.str kd, .str low]]] h = .ok (.bl true) h := fun h => by
    rw [show (T.g (T.fn (d + 3))).fn = T.fn (d + 3) from rfl]
    exact same_what (d := d)
  have x15 : ∀ v, (T.g (T.fn (d + 3))).exi 15 [v] = some [(128, v)] := fun v => rfl
  have x30 : ∀ v, (T.g (T.fn (d + 3))).exi 30 [v] = some [(191, v)] := fun v => rfl
  have x31 : ∀ v, (T.g (T.fn (d + 3))).exi 31 [v] = some [(191, v)] := fun v => rfl
  have x32 : ∀ v, (T.g (T.fn (d + 3))).exi 32 [v] = some [(191, v)] := fun v => rfl
  have f1 : fits 1 = true := by decide
  have f3 : fits 3 = true := by decide
  have f4 : fits 4 = true := by decide
  have eB : lawB = .seq (.ite (.not (.call 1262 (.cons (.var 8) (.cons (.bin .add (.tup (.cons (.var 9) .nil)) (.var 4)) .nil)) [])) (.ret (.con (.bl false))) .skip) (.seq (.asg (.var 8) (.tup (.cons (.fld (.mkx 15 (.cons (.var 10) .nil)) 128) (.cons (.fld (.mkx 30 (.cons (.ix (.var 4) (.con (.int 0))) .nil)) 191) (.cons (.fld (.mkx 32 (.cons (.ix (.var 4) (.con (.int 1))) .nil)) 191) .nil)))))
    (.ret (.call 1262 (.cons (.bin .add (.var 8) (.tup (.cons (.fld (.mkx 31 (.cons (.ix (.var 4) (.con (.int 2))) .nil)) 191) .nil))) (.cons (.bin .add (.tup (.cons (.var 10) .nil)) (.var 4)) .nil)) []))) := rfl
  refine ⟨((h ++ [.exc 15 [(128, .int q)]]) ++ [.exc 30 [(191, .tup [.str [110, 97, 109, 101], .str low])]] ++ [.exc 32 [(191, .tup [.str [107, 101, 121], .int q, .int (1 + p % 300)])]]) ++ [.exc 31 [(191, .tup [.str kd, .str low])]], ?_⟩
  rw [eB]
  have w0 : ∀ h, ixV h (whatV low kd p q) (.int 0) = some (.tup [.str [110, 97, 109, 101], .str low]) := fun h => rfl
  have w1 : ∀ h, ixV h (whatV low kd p q) (.int 1) = some (.tup [.str [107, 101, 121], .int q, .int (1 + p % 300)]) := fun h => rfl
  have w2 : ∀ h, ixV h (whatV low kd p q) (.int 2) = some (.tup [.str kd, .str low]) := fun h => rfl
  have ad : ∀ (i : Int) h, binV .add (.tup [.int i]) (whatV low kd p q) h = .ok (.tup [.int i, .tup [.str [110, 97, 109, 101], .str low], .tup [.str [107, 101, 121], .int q, .int (1 + p % 300)], .tup [.str kd, .str low]]) h := fun i h => rfl
  have ad2 : ∀ h, binV .add (.tup [.int q, .tup [.str [110, 97, 109, 101], .str low], .tup [.str [107, 101, 121], .int q, .int (1 + p % 300)]]) (.tup [.tup [.str kd, .str low]]) h = .ok (.tup [.int q, .tup [.str [110, 97, 109, 101], .str low], .tup [.str [107, 101, 121], .int q, .int (1 + p % 300)], .tup [.str kd, .str low]]) h := fun h => rfl
  have fl : ∀ (h : AH) (C f : Nat) (v : PV), fldV (h ++ [.exc C [(f, v)]]) (.obj h.length) f = some v := fun h C f v => fld_new
  simp only [r_seq, r_ite, v_not, v_call, vs_var, vs_bin, vs_nil, v_var, sget, v_bin, v_tup, bind_ok, ofO_some, List.getElem?_cons_zero, List.getElem?_cons_succ, Option.join_some, ad, List.length_cons, List.length_nil, Nat.zero_add, f1, if_true, fnA_nil, s1, to_ok, Bool.not_true, r_skip, r_asgv, vs_fld, v_fld, v_mkx1, v_mkxi, v_ix, v_con, x15, x30, x31, x32, w0, w1, w2, fl, r_ret, List.set_cons_zero, List.set_cons_succ, Nat.reduceAdd, f3, ad2, s2]
end NI.LW
end

section
set_option linter.all false
set_option maxRecDepth 100000
set_option maxHeartbeats 4000000
namespace NI.LW
open NI
theorem lawA8 (w low kd : Txt) (p q : Int) (a0 a1 a2 a3 a4 a5 a6 a7 : AO) : slotsY ((dens (T.g (T.fn 8)) lawA).r none (lawSg w low (whatV low kd p q) p q) [a0, a1, a2, a3, a4, a5, a6, a7]) = some [some (.obj 0), some (.obj 4), some (.str w), some (.str low), some (whatV low kd p q), some (.obj 37), some (.int 20), some (.obj 269), some (.tup [.int p, .tup [.str [110, 97, 109, 101], .str low], .tup [.str [107, 101, 121], .int q, .int (1 + p % 300)], .tup [.str kd, .str low]]), some (.int p), some (.int q), none] := by
  kernel_rfl
theorem lawA9 (w low kd : Txt) (p q : Int) (a0 a1 a2 a3 a4 a5 a6 a7 a8 : AO) : slotsY ((dens (T.g (T.fn 8)) lawA).r none (lawSg w low (whatV low kd p q) p q) [a0, a1, a2, a3, a4, a5, a6, a7, a8]) = some [some (.obj 0), some (.obj 4), some (.str w), some (.str low), some (whatV low kd p q), some (.obj 38), some (.int 20), some (.obj 270), some (.tup [.int p, .tup [.str [110, 97, 109, 101], .str low], .tup [.str [107, 101, 121], .int q, .int (1 + p % 300)], .tup [.str kd, .str low]]), some (.int p), some (.int q), none] := by
  kernel_rfl
theorem lawA10 (w low kd : Txt) (p q : Int) (a0 a1 a2 a3 a4 a5 a6 a7 a8 a9 : AO) : slotsY ((dens (T.g (T.fn 8)) lawA).r none (lawSg w low (whatV low kd p q) p q) [a0, a1, a2, a3, a4, a5, a6, a7, a8, a9]) = some [some (.obj 0), some (.obj 4), some (.str w), some (.str low), some (whatV low kd p q), some (.obj 39), some (.int 20), some (.obj 271), some (.tup [.int p, .tup [.str [110, 97, 109, 101], .str low], .tup [.str [107, 101, 121], .int q, .int (1 + p % 300)], .tup [.str kd, .str low]]), some (.int p), some (.int q), none] := by
  kernel_rfl
theorem lawA_ok {w low kd : Txt} {p q : Int} {h : AH} (hl : h.length = 8 ∨ h.length = 9 ∨ h.length = 10) : ∃ m b h', (dens (T.g (T.fn 8)) lawA).r none (lawSg w low (whatV low kd p q) p q) h = .nx [some (.obj 0), some (.obj 4), some (.str w), some (.str low), some (whatV low kd p q), some (.obj m), some (.int 20), some (.obj b), some (.tup [.int p, .tup [.str [110, 97, 109, 101], .str low], .tup [.str [107, 101, 121], .int q, .int (1 + p % 300)], .tup [.str kd, .str low]]), some (.int p), some (.int q), none] h' := by
  rcases hl with hl | hl | hl
  · match h, hl with
    | [a0, a1, a2, a3, a4, a5, a6, a7], _ => exact ⟨_, _, _, ofSlots (lawA8 w low kd p q a0 a1 a2 a3 a4 a5 a6 a7)⟩
  · match h, hl with
    | [a0, a1, a2, a3, a4, a5, a6, a7, a8], _ => exact ⟨_, _, _, ofSlots (lawA9 w low kd p q a0 a1 a2 a3 a4 a5 a6 a7 a8)⟩
  · match h, hl with
    | [a0, a1, a2, a3, a4, a5, a6, a7, a8, a9], _ => exact ⟨_, _, _, ofSlots (lawA10 w low kd p q a0 a1 a2 a3 a4 a5 a6 a7 a8 a9)⟩
end NI.LW
end

section
set_option linter.all false
set_option maxRecDepth 100000
set_option maxHeartbeats 4000000
namespace NI.LW
open NI
theorem gfn {f : Nat → Nat → List PV → AH → R PV} {d : Nat} : (T.g (f d)).fn = f d := rfl
theorem app_at {h : AH} {a : AO} : (h ++ [a])[h.length]? = some a := by simp
theorem kd_ok : ∀ r : Int, 0 ≤ r → r < 3 → ∃ kd : Txt, ixV [] (.tup [.str [107, 105, 110, 100], .str [102, 97, 109, 105, 108, 121], .str [100, 101, 102]]) (.int r) = some (.str kd) := fun r h0 h1 => by
  have hr : r = 0 ∨ r = 1 ∨ r = 2 := by omega
  rcases hr with rfl | rfl | rfl <;> exact ⟨_, rfl⟩
def sg0 : Sg := [some (.obj 0), none, none, none, none, none, none, none, none, none, none, none]
def sg1 : Sg := [some (.obj 0), some (.obj 4), none, none, none, none, none, none, none, none, none, none]
theorem s0_ok {ns : List Int} (hl : ns.length ≤ 63) : ∃ h, (dens (T.g (T.fn 8)) (pick 0 ir_1345)).r none sg0 [.frz (ns.map PV.int)] = .nx sg1 h ∧ Dk h 4 3 0 ∧ h.length = 5 := by
  obtain ⟨h, e, D, l⟩ := deck_ok (d := 7) hl
  refine ⟨h, ?_, D, l⟩
  have e' : (T.g (T.fn 8)).fn 1064 [.obj 0] [.frz (ns.map PV.int)] = .ok (.obj 4) h := e
  have ei : pick 0 ir_1345 = .asg (.var 1) (.call 1064 (.cons (.var 0) .nil) []) := rfl
  rw [ei]
  unfold sg0 sg1
  simp [sget, e']
theorem lowcall {h : AH} {n : Int} {σ : Sg} {b : Nat} (D : Dk h 4 b n) (hn : n < 5000) (hσ : sget σ 1 = some (.obj 4)) : ∃ nm h', (den (T.g (T.fn 8)) (.call 1173 (.cons (.var 1) (.cons (.new (.lst .nil)) .nil)) [])).v none σ h = .ok (.str nm) h' ∧ Dk h' 4 b (n + 12) ∧ (h'.length = h.length + 1 ∨ h'.length = h.length + 2) ∧ nm.length ≤ 101 := by
  obtain ⟨nm, h', e, D', l, l2⟩ := low_ok (d := 5) (v := h.length) (h := h ++ [.lst []]) D.app (by omega) app_at (Nat.ne_of_gt D.lt.1) (Nat.ne_of_gt D.lt.2)
  refine ⟨nm, h', ?_, D', by simpa using l, l2⟩
  have e' : (T.g (T.fn 8)).fn 1173 [.obj 4, .obj h.length] (h ++ [.lst []]) = .ok (.str nm) h' := e
  have f0 : fits 0 = true := by decide
  simp [hσ, f0, e']
theorem highcall {h : AH} {n : Int} {σ : Sg} {b : Nat} (D : Dk h 4 b n) (hn : n < 5000) (hσ : sget σ 1 = some (.obj 4)) : ∃ nm h', (den (T.g (T.fn 8)) (.call 1123 (.cons (.var 1) (.cons (.new (.lst .nil)) .nil)) [])).v none σ h = .ok (.str nm) h' ∧ Dk h' 4 b (n + 11) ∧ h'.length = h.length + 1 ∧ nm.length ≤ 101 := by
  obtain ⟨nm, h', e, D', l, l2⟩ := high_ok (d := 5) (v := h.length) (h := h ++ [.lst []]) D.app (by omega) app_at (Nat.ne_of_gt D.lt.1) (Nat.ne_of_gt D.lt.2)
  refine ⟨nm, h', ?_, D', by simpa using l, l2⟩
  have e' : (T.g (T.fn 8)).fn 1123 [.obj 4, .obj h.length] (h ++ [.lst []]) = .ok (.str nm) h' := e
  have f0 : fits 0 = true := by decide
  simp [hσ, f0, e']
theorem s1_ok {h : AH} {n : Int} (D : Dk h 4 3 n) (hn : n < 4000) : ∃ w h', (dens (T.g (T.fn 8)) (pick 1 ir_1345)).r none sg1 h = .nx (sg1.set 2 (some (.str w))) h' ∧ Dk h' 4 3 (n + 23) ∧ (h'.length = h.length + 2 ∨ h'.length = h.length + 3) := by
  obtain ⟨w1, h1, e1, D1, l1, k1⟩ := lowcall (σ := sg1) D (by omega) rfl
  obtain ⟨w2, h2, e2, D2, l2, k2⟩ := highcall (σ := sg1) D1 (by omega) rfl
  refine ⟨w1 ++ [32] ++ w2, h2, ?_, by rw [show n + 23 = n + 12 + 11 from by omega]; exact D2, by omega⟩
  have ei : pick 1 ir_1345 = .asg (.var 2) (.bin .add (.bin .add (.call 1173 (.cons (.var 1) (.cons (.new (.lst .nil)) .nil)) []) (.con (.str [32]))) (.call 1123 (.cons (.var 1) (.cons (.new (.lst .nil)) .nil)) [])) := rfl
  have f1 : fits (w1.length + [32].length) = true := fits_small (by simp; omega)
  have f2 : fits ((w1 ++ [32]).length + w2.length) = true := fits_small (by simp; omega)
  have b1 : binV .add (.str w1) (.str [32]) h1 = .ok (.str (w1 ++ [32])) h1 := by
    show (if fits (w1.length + [32].length) = true then R.ok (PV.str (w1 ++ [32])) h1 else R.no) = _
    rw [if_pos f1]
  have b2 : binV .add (.str (w1 ++ [32])) (.str w2) h2 = .ok (.str (w1 ++ [32] ++ w2)) h2 := by
    show (if fits ((w1 ++ [32]).length + w2.length) = true then R.ok (PV.str (w1 ++ [32] ++ w2)) h2 else R.no) = _
    rw [if_pos f2]
  rw [ei, r_asgv, v_bin, v_bin, e1]
  simp only [bind_ok, v_con, b1, e2, b2, to_ok]
theorem s2_ok {h : AH} {n : Int} {w : Txt} (D : Dk h 4 3 n) (hn : n < 4000) : ∃ p q h', (dens (T.g (T.fn 8)) (pick 2 ir_1345)).r none (sg1.set 2 (some (.str w))) h = .nx [some (.obj 0), some (.obj 4), some (.str w), none, none, none, none, none, none, some (.int p), some (.int q), none] h' ∧ Dk h' 4 3 (n + 2) ∧ h'.length = h.length := by
  obtain ⟨p, h1, e1, _, _, D1, x1⟩ := draw_ok (d := 7) (m := 1000000) D (by omega) (by omega) (natAbs_small (by omega) (by omega))
  obtain ⟨q, h2, e2, _, _, D2, x2⟩ := draw_ok (d := 7) (m := 400) D1 (by omega) (by omega) (natAbs_small (by omega) (by omega))
  refine ⟨p, q, h2, ?_, by rw [show n + 2 = n + 1 + 1 from by omega]; exact D2, x2.len.trans x1.len⟩
  have e1' : (T.g (T.fn 8)).fn 1070 [.obj 4, .int 1000000] h = .ok (.int p) h1 := e1
  have e2' : (T.g (T.fn 8)).fn 1070 [.obj 4, .int 400] h1 = .ok (.int q) h2 := e2
  have ei : pick 2 ir_1345 = .par [9, 10] (.cons (.call 1070 (.cons (.var 1) (.cons (.bin .pow (.con (.int 10)) (.con (.int 6))) .nil)) []) (.cons (.call 1070 (.cons (.var 1) (.cons (.con (.int 400)) .nil)) []) .nil)) := rfl
  have b1 : binV .pow (.int 10) (.int 6) h = .ok (.int 1000000) h := rfl
  rw [ei]
  show ((den (T.g (T.fn 8)) (.cons (.call 1070 (.cons (.var 1) (.cons (.bin .pow (.con (.int 10)) (.con (.int 6))) .nil)) []) (.cons (.call 1070 (.cons (.var 1) (.cons (.con (.int 400)) .nil)) []) .nil))).vs none (sg1.set 2 (some (.str w))) h).to _ _ = _
  unfold sg1
  simp [sget, b1, e1', e2', setAll]
theorem s3_ok {h : AH} {n : Int} {w : Txt} {p q : Int} (D : Dk h 4 3 n) (hn : n < 4000) : ∃ low h', (dens (T.g (T.fn 8)) (pick 3 ir_1345)).r none [some (.obj 0), some (.obj 4), some (.str w), none, none, none, none, none, none, some (.int p), some (.int q), none] h = .nx [some (.obj 0), some (.obj 4), some (.str w), some (.str low), none, none, none, none, none, some (.int p), some (.int q), none] h' ∧ Dk h' 4 3 (n + 12) ∧ (h'.length = h.length + 1 ∨ h'.length = h.length + 2) := by
  obtain ⟨w1, h1, e1, D1, l1, k1⟩ := lowcall (σ := [some (.obj 0), some (.obj 4), some (.str w), none, none, none, none, none, none, some (.int p), some (.int q), none]) D (by omega) rfl
  refine ⟨w1, h1, ?_, D1, l1⟩
  have ei : pick 3 ir_1345 = .asg (.var 3) (.call 1173 (.cons (.var 1) (.cons (.new (.lst .nil)) .nil)) []) := rfl
  rw [ei, r_asgv, e1]
  rfl
theorem s4_ok {h : AH} {n : Int} {w low : Txt} {p q : Int} (D : Dk h 4 3 n) (hn : n < 4000) : ∃ kd h', (dens (T.g (T.fn 8)) (pick 4 ir_1345)).r none [some (.obj 0), some (.obj 4), some (.str w), some (.str low), none, none, none, none, none, some (.int p), some (.int q), none] h = .nx (lawSg w low (whatV low kd p q) p q) h' ∧ h'.length = h.length := by
  obtain ⟨r, h1, e1, r1, r2, D1, x1⟩ := draw_ok (d := 7) (m := 3) D (by omega) (by omega) (natAbs_small (by omega) (by omega))
  obtain ⟨kd, ek⟩ := kd_ok r r1 r2
  refine ⟨kd, h1, ?_, x1.len⟩
  have e1' : (T.g (T.fn 8)).fn 1070 [.obj 4, .int 3] h = .ok (.int r) h1 := e1
  have f1 : fits 2 = true := by decide
  have f3 : fits 3 = true := by decide
  have b1 : ∀ h, binV .mod (.int p) (.int 300) h = .ok (.int (p % 300)) h := fun h => rfl
  have b2 : ∀ h, binV .add (.int 1) (.int (p % 300)) h = .ok (.int (1 + p % 300)) h := fun h => rfl
  have ei : pick 4 ir_1345 = .asg (.var 4) (.tup (.cons (.tup (.cons (.con (.str [110, 97, 109, 101])) (.cons (.var 3) .nil))) (.cons (.tup (.cons (.con (.str [107, 101, 121])) (.cons (.var 10) (.cons (.bin .add (.con (.int 1)) (.bin .mod (.var 9) (.con (.int 300)))) .nil)))) (.cons (.tup (.cons (.ixn (.lst (.cons (.con (.str [107, 105, 110, 100])) (.cons (.con (.str [102, 97, 109, 105, 108, 121])) (.cons (.con (.str [100, 101, 102])) .nil)))) (.call 1070 (.cons (.var 1) (.cons (.con (.int 3)) .nil)) [])) (.cons (.var 3) .nil))) .nil)))) := rfl
  rw [ei]
  unfold lawSg whatV
  simp [sget, b1, b2, e1', ek, f1, f3]
theorem law_ok (ns : List Int) (hl : ns.length ≤ 63) : ∃ h', T.fn 9 1345 [.obj 0] [.frz (ns.map PV.int)] = .ok (.bl true) h' := by
  obtain ⟨h0, e0, D0, l0⟩ := s0_ok hl
  obtain ⟨w, h1, e1, D1, l1⟩ := s1_ok D0 (by omega)
  obtain ⟨p, q, h2, e2, D2, l2⟩ := s2_ok (w := w) D1 (by omega)
  obtain ⟨low, h3, e3, D3, l3⟩ := s3_ok (w := w) (p := p) (q := q) D2 (by omega)
  obtain ⟨kd, h4, e4, l4⟩ := s4_ok (w := w) (low := low) (p := p) (q := q) D3 (by omega)
  obtain ⟨m, b, h5, e5⟩ := lawA_ok (w := w) (low := low) (kd := kd) (p := p) (q := q) (h := h4) (by omega)
  obtain ⟨h6, e6⟩ := lawB_ok (d := 5) (w := w) (low := low) (kd := kd) (p := p) (q := q) (m := m) (b := b) (h := h5)
  refine ⟨h6, ?_⟩
  rw [fn_succ 8 1345 ⟨1, 12, ir_1345⟩ rfl]
  show runD (T.g (T.fn 8)) 12 ir_1345 [.obj 0] [.frz (ns.map PV.int)] = _
  rw [runD_eq]
  have ei : ir_1345 = .seq (pick 0 ir_1345) (.seq (pick 1 ir_1345) (.seq (pick 2 ir_1345) (.seq (pick 3 ir_1345) (.seq (pick 4 ir_1345) (.seq (pick 5 ir_1345) (.seq (pick 6 ir_1345) (.seq (pick 7 ir_1345) (.seq (pick 8 ir_1345) (.seq (pick 9 ir_1345) lawB))))))))) := rfl
  rw [ei]
  show outY ((dens (T.g (T.fn 8)) (.seq (pick 0 ir_1345) _)).r none sg0 _) = _
  rw [seq_nx e0, seq_nx e1, seq_nx e2, seq_nx e3, seq_nx e4]
  have as : ∀ (a b c d e r : NI.S) (σ : Sg) (h : AH) (σ' : Sg) (h' : AH), (dens (T.g (T.fn 8)) (.seq a (.seq b (.seq c (.seq d e))))).r none σ h = .nx σ' h' → (dens (T.g (T.fn 8)) (.seq a (.seq b (.seq c (.seq d (.seq e r)))))).r none σ h = (dens (T.g (T.fn 8)) r).r none σ' h' := fun a b c d e r σ h σ' h' q => by
    rw [r_seq] at q ⊢
    cases ea : (dens (T.g (T.fn 8)) a).r none σ h with
    | nx σ1 h1 =>
      rw [ea] at q
      dsimp only at q ⊢
      rw [r_seq] at q ⊢
      cases eb : (dens (T.g (T.fn 8)) b).r none σ1 h1 with
      | nx σ2 h2 =>
        rw [eb] at q
        dsimp only at q ⊢
        rw [r_seq] at q ⊢
        cases ec : (dens (T.g (T.fn 8)) c).r none σ2 h2 with
        | nx σ3 h3 =>
          rw [ec] at q
          dsimp only at q ⊢
          rw [r_seq] at q ⊢
          cases ed : (dens (T.g (T.fn 8)) d).r none σ3 h3 with
          | nx σ4 h4 =>
            rw [ed] at q
            dsimp only at q ⊢
            rw [r_seq, q]
          | _ => rw [ed] at q; cases q
        | _ => rw [ec] at q; cases q
      | _ => rw [eb] at q; cases q
    | _ => rw [ea] at q; cases q
  rw [as _ _ _ _ _ _ _ _ _ _ e5, e6]
  rfl
end NI.LW
end

set_option maxRecDepth 100000
theorem PySem.Challenge.cw_newinputs_k00_errors_holds : PySem.Challenge.rw_newinputs_k00_errors.Holds := by
  exact NI.LW.holds (d := 9) ⟨rfl, by decide, by decide⟩ NI.LW.law_ok
