import PyProof.Rows.All
import HandS.SetFor
import Wide.All
import OpenK.AllK
import Wide.FinOn
import HandS.ForMost
import HandS.Deep
import HandS.Star
import HandS.DictComp
import HandS.TupAny
import HandS.IsInst
import HandS.Style
import HandS.Zip
import HandS.TupMul
import HandS.TupLe
import HandS.TupLen
import HandS.Conv
import HandS.Small
import HandS.WordsDict
import PyProof.ReprRoads
import PyProof.ReprBulk
import KE.SortLaws
import PyProof.Rows.InDataRows
import KE.SortData
import KE.DataCmp
import KE.DataMinMax
import KE.GoesNew
import KE.KDictList
import HandS.NoneIn
import PyProof.Rows.StrJoinMade
import PySem.Challenge.RW_jobsinturn_k88_whole_small_middles
set_option Elab.async false
set_option linter.all false
set_option maxRecDepth 100000
set_option maxHeartbeats 8000000
set_option Elab.async false
set_option linter.all false
set_option maxRecDepth 100000
set_option maxHeartbeats 4000000
/-! Z1: the small language, its values and its evaluator -/
namespace Z
open PySem L2

/-- values: trees; a list or dict that may still change stands in the store at ref n -/
inductive D where
  | non | bl (b : Bool) | int (i : Int) | str (s : Str)
  | tup (xs : List D) | lst (xs : List D)
  | dk (kvs : List (Key × D)) | dt (kvs : List (List Key × D))
  | ref (n : Nat)
  | scr (ns : List Int)

inductive O where
  | lst (xs : List D) | dk (kvs : List (Key × D)) | dt (kvs : List (List Key × D))

abbrev Hs := List O
abbrev Ev := List (Option D)

inductive Bop where
  | add | sub | mul | fdiv | mod | pow
  deriving DecidableEq
inductive Cop where
  | eq | ne | lt | le | gt | ge | is | isnt | isin | notin
  deriving DecidableEq
inductive Bi where
  | len | abs | int1 | max1 | min1 | max2 | min2 | sum | all | any | list | tuple | repr | sorted | dictc | dictp | vals | lrng | mind | maxd
  | isa (t : String)
  deriving DecidableEq
inductive Mt where
  | append | extend | pop | popat | get2 | index | count | update
  deriving DecidableEq
inductive Sk where
  | lo | hi | lohi | rev
  deriving DecidableEq

mutual
inductive Ex where
  | nm (i : Nat)
  | lnon | lbl (b : Bool) | lint (i : Int) | lstr (s : Str)
  | tup (es : Exs) | lst (es : Exs)
  | bin (op : Bop) (a b : Ex)
  | neg (a : Ex) | nt (a : Ex)
  | bool (isAnd : Bool) (a : Ex) (es : Exs)
  | cmp (op : Cop) (a b : Ex)
  | cmp2 (op op' : Cop) (a b c : Ex)
  | ife (c a b : Ex)
  | call (f : Nat) (es : Exs)
  | bi (f : Bi) (es : Exs)
  | mth (m : Mt) (o : Ex) (es : Exs)
  | sub (o i : Ex)
  | slc (k : Sk) (o : Ex) (es : Exs)
  | comp (elt : Ex) (tg : Tg) (it : Iter) (ifs : Exs) (own : List Nat)
  | dcomp (k v : Ex) (tg : Tg) (it : Iter) (ifs : Exs) (own : List Nat)
  | dct (ps : Exs)
  | dnewt
  | al (e : Ex)
inductive Exs where
  | nil | cons (star : Bool) (e : Ex) (r : Exs)
inductive Tg where
  | nm (i : Nat) | tup (ts : Tgs) | sub (o i : Ex)
inductive Tgs where
  | nil | cons (t : Tg) (r : Tgs)
inductive Iter where
  | seq (e : Ex) | rng (es : Exs) | enum (e : Ex) | zip (strict : Bool) (a b : Ex) | items (e : Ex) | keys (e : Ex)
end

mutual
inductive Sm where
  | asg (tg : Tg) (e : Ex)
  | par (is : List Nat) (es : Exs)
  | expr (e : Ex)
  | ret (e : Ex) | retN
  | iff (c : Ex) (a b : Sms)
  | whl (c : Ex) (b : Sms)
  | forr (tg : Tg) (it : Iter) (b : Sms)
  | never
inductive Sms where
  | nil | cons (s : Sm) (r : Sms)
end

/-! ### views -/
def getL (hs : Hs) : D → Option (List D)
  | .lst xs => some xs
  | .ref n => match hs[n]? with
    | some (.lst xs) => some xs
    | _ => none
  | _ => none
def getS (hs : Hs) : D → Option (List D)
  | .tup xs => some xs
  | d => getL hs d
def getDk (hs : Hs) : D → Option (List (Key × D))
  | .dk xs => some xs
  | .ref n => match hs[n]? with
    | some (.dk xs) => some xs
    | _ => none
  | _ => none
def getDt (hs : Hs) : D → Option (List (List Key × D))
  | .dt xs => some xs
  | .ref n => match hs[n]? with
    | some (.dt xs) => some xs
    | _ => none
  | _ => none
/-- a value as data -/
def py (hs : Hs) : Nat → D → Option PyData
  | _, .non => some .none
  | _, .bl b => some (.bool b)
  | _, .int i => some (.int i)
  | _, .str s => some (.str s)
  | 0, _ => none
  | n + 1, .tup xs => (xs.mapM (py hs n)).map .tuple
  | n + 1, .lst xs => (xs.mapM (py hs n)).map .list
  | n + 1, .ref k => match hs[k]? with
    | some (.lst xs) => (xs.mapM (py hs n)).map .list
    | _ => none
  | _ + 1, .dk _ => none
  | _ + 1, .dt _ => none
  | _ + 1, .scr _ => none
def keyOf : D → Option Key
  | .int i => some (.inl i)
  | .str s => some (.inr s)
  | _ => none
def keysOf : D → Option (List Key)
  | .tup xs => xs.mapM keyOf
  | _ => none
def ofKey : Key → D
  | .inl i => .int i
  | .inr s => .str s
def ofKeys (ks : List Key) : D := .tup (ks.map ofKey)
def look {κ : Type} [DecidableEq κ] (kvs : List (κ × D)) (k : κ) : Option D := (kvs.find? fun p => decide (p.1 = k)).map (·.2)
def put {κ : Type} [DecidableEq κ] (kvs : List (κ × D)) (k : κ) (v : D) : List (κ × D) :=
  if kvs.any (fun p => decide (p.1 = k)) then kvs.map (fun p => if p.1 = k then (p.1, v) else p) else kvs ++ [(k, v)]

/-! ### operations by values -/
open Classical in
noncomputable def chk {α : Type} (c : Prop) (x : α) : Option α := if c then some x else none
noncomputable def binD (hs : Hs) (op : Bop) (x y : D) : Option D :=
  match op, x, y with
  | .add, .int i, .int j => some (.int (i + j))
  | .sub, .int i, .int j => some (.int (i - j))
  | .mul, .int i, .int j => chk (CMul i j) (.int (i * j))
  | .fdiv, .int i, .int j => chk (CDiv i j) (.int (i / j))
  | .mod, .int i, .int j => chk (0 < j) (.int (i % j))
  | .pow, .int i, .int j => chk (CPow i j) (.int (i ^ j.toNat))
  | .add, .tup xs, .tup ys => chk (xs.length + ys.length ≤ sizeLine) (.tup (xs ++ ys))
  | .add, a, b => match getL hs a, getL hs b with
    | some xs, some ys => chk (xs.length + ys.length ≤ sizeLine) (.lst (xs ++ ys))
    | _, _ => none
  | .mul, a, .int k => match getL hs a with
    | some xs => chk (-(2 ^ 63) ≤ k ∧ k < 2 ^ 63 ∧ xs.length * k.toNat ≤ sizeLine) (.lst (List.replicate k.toNat xs).flatten)
    | none => none
  | _, _, _ => none

open Classical in
noncomputable def memD {κ : Type} (kvs : List (κ × D)) (k : κ) : Bool := decide (∃ p ∈ kvs, p.1 = k)
def strs2 : D → D → Option (Str × Str)
  | .str a, .str b => some (a, b)
  | _, _ => none
noncomputable def cmpD (hs : Hs) (op : Cop) (x y : D) : Option Bool :=
  match op with
  | .eq => match strs2 x y with
    | some p => some (decide (p.1 = p.2))
    | none => match py hs 60 x, py hs 60 y with
      | some p, some q => chk (p.canLay0 = true ∧ q.canLay0 = true) (PyData.eqv p q)
      | _, _ => none
  | .ne => match strs2 x y with
    | some p => some (!decide (p.1 = p.2))
    | none => match py hs 60 x, py hs 60 y with
      | some p, some q => chk (p.canLay0 = true ∧ q.canLay0 = true) (!PyData.eqv p q)
      | _, _ => none
  | .lt => match x, y with
    | .int i, .int j => some (decide (i < j))
    | _, _ => none
  | .le => match x, y with
    | .int i, .int j => some (decide (i ≤ j))
    | _, _ => none
  | .gt => match x, y with
    | .int i, .int j => some (decide (j < i))
    | _, _ => none
  | .ge => match x, y with
    | .int i, .int j => some (decide (j ≤ i))
    | .tup _, .tup _ => match py hs 60 x, py hs 60 y with
      | some p, some q => chk (PySem.W.alike p q = true) (!PySem.W.dataLt p q)
      | _, _ => none
    | _, _ => none
  | .is => match y, x with
    | .non, .non => some true
    | .non, .bl _ => some false
    | .non, .int _ => some false
    | .non, .str _ => some false
    | .non, .tup _ => some false
    | .non, .lst _ => some false
    | .bl b, .bl c => some (decide (c = b))
    | _, _ => none
  | .isnt => match y, x with
    | .non, .non => some false
    | .non, .bl _ => some true
    | .non, .int _ => some true
    | .non, .str _ => some true
    | .non, .tup _ => some true
    | .non, .lst _ => some true
    | .bl b, .bl c => some (!decide (c = b))
    | _, _ => none
  | .isin => match getDk hs y, getDt hs y with
    | some kvs, _ => (keyOf x).map fun k => (look kvs k).isSome
    | _, some kvs => (keysOf x).map fun k => (look kvs k).isSome
    | none, none => match getS hs y, py hs 60 y, py hs 60 x with
      | some _, some (.list ps), some q => chk ((PyData.list ps).canLay0 = true ∧ q.canLay0 = true) (ps.any fun z => PyData.eqv z q)
      | some _, some (.tuple ps), some q => chk ((PyData.tuple ps).canLay0 = true ∧ q.canLay0 = true) (ps.any fun z => PyData.eqv z q)
      | _, _, _ => none
  | .notin => match getDk hs y, getDt hs y with
    | some kvs, _ => (keyOf x).map fun k => !(look kvs k).isSome
    | _, some kvs => (keysOf x).map fun k => !(look kvs k).isSome
    | none, none => match getS hs y, py hs 60 y, py hs 60 x with
      | some _, some (.list ps), some q => chk ((PyData.list ps).canLay0 = true ∧ q.canLay0 = true) (!ps.any fun z => PyData.eqv z q)
      | some _, some (.tuple ps), some q => chk ((PyData.tuple ps).canLay0 = true ∧ q.canLay0 = true) (!ps.any fun z => PyData.eqv z q)
      | _, _, _ => none

def intsD : List D → Option (List Int)
  | [] => some []
  | .int i :: r => (intsD r).map (i :: ·)
  | _ :: _ => none
def boolsD : List D → Option (List Bool)
  | [] => some []
  | .bl i :: r => (boolsD r).map (i :: ·)
  | _ :: _ => none
def maxI : Int → List Int → Int
  | a, [] => a
  | a, b :: r => maxI (max a b) r
def minI : Int → List Int → Int
  | a, [] => a
  | a, b :: r => minI (min a b) r
/-- the kind of a value, as isinstance sees it -/
def isaD (hs : Hs) (t : String) : D → Option Bool
  | .non => some false
  | .bl _ => some (t == "bool" || t == "int")
  | .int _ => some (t == "int")
  | .str _ => some (t == "str")
  | .tup _ => some (t == "tuple")
  | .lst _ => some (t == "list")
  | .dk _ => some (t == "dict")
  | .dt _ => some (t == "dict")
  | .scr _ => none
  | .ref n => match hs[n]? with
    | some (.lst _) => some (t == "list")
    | some _ => some (t == "dict")
    | none => none
def lenD (hs : Hs) : List D → Option D
  | [.str s] => if s.length ≤ sizeLine then some (.int s.length) else none
  | [x] => match getS hs x with
    | some l => some (.int l.length)
    | none => match getDk hs x with
      | some l => some (.int l.length)
      | none => match getDt hs x with
        | some l => some (.int l.length)
        | none => none
  | _ => none
def absD : List D → Option D
  | [.int i] => some (.int i.natAbs)
  | _ => none
def int1D : List D → Option D
  | [.int i] => some (.int i)
  | [.bl b] => some (.int (if b then 1 else 0))
  | _ => none
def max2D : List D → Option D
  | [.int i, .int j] => some (.int (max i j))
  | _ => none
def min2D : List D → Option D
  | [.int i, .int j] => some (.int (min i j))
  | _ => none
def one : List D → Option D
  | [x] => some x
  | _ => none
def max1D (hs : Hs) (xs : List D) : Option D := match (one xs).bind fun x => (getL hs x).bind intsD with
  | some (i :: r) => some (.int (maxI i r))
  | _ => none
def min1D (hs : Hs) (xs : List D) : Option D := match (one xs).bind fun x => (getL hs x).bind intsD with
  | some (i :: r) => some (.int (minI i r))
  | _ => none
def sumD (hs : Hs) (xs : List D) : Option D := ((one xs).bind fun x => (getL hs x).bind intsD).map fun l => .int l.sum
def allD (hs : Hs) (xs : List D) : Option D := ((one xs).bind fun x => (getL hs x).bind boolsD).map fun l => .bl (l.all id)
def anyD (hs : Hs) (xs : List D) : Option D := ((one xs).bind fun x => (getL hs x).bind boolsD).map fun l => .bl (l.any id)
def listD (hs : Hs) (xs : List D) : Option D := ((one xs).bind fun x => getS hs x).map .lst
def tupleD (hs : Hs) (xs : List D) : Option D := ((one xs).bind fun x => getS hs x).map .tup
noncomputable def reprD (hs : Hs) (xs : List D) : Option D := match (one xs).bind fun x => py hs 60 x with
  | some p => chk (p.showable = true ∧ p.hasDict = false ∧ p.leavesShort 40 = true ∧ p.bulk ≤ 390000) (.str p.shown)
  | none => none
noncomputable def sortedD (hs : Hs) (xs : List D) : Option D := match (one xs).bind fun x => getS hs x with
  | some l => match l.mapM (py hs 50) with
    | some ps => chk (PySem.W.AllAlike ps ∧ PySem.W.Sortable ps) (.lst (((l.zip ps).mergeSort fun a b => PySem.W.dataLe false (·.2) a b).map (·.1)))
    | none => none
  | none => none
mutual
def ofPy : PyData → D
  | .none => .non
  | .bool b => .bl b
  | .int i => .int i
  | .str s => .str s
  | .list l => .lst (ofPys l)
  | .tuple l => .tup (ofPys l)
  | .dict _ => .non
def ofPys : List PyData → List D
  | [] => []
  | x :: r => ofPy x :: ofPys r
end
def nl : D → Bool
  | .lst _ => false
  | .dk _ => false
  | .dt _ => false
  | _ => true
noncomputable def mindD (hs : Hs) (xs : List D) : Option D := match (one xs).bind fun x => (getL hs x).bind fun l => l.mapM (py [] 50) with
  | some (p :: ps) => chk (PySem.W.AlikeAll (p :: ps) ∧ nl (ofPy (PySem.W.minD p ps)) = true) (ofPy (PySem.W.minD p ps))
  | _ => none
noncomputable def maxdD (hs : Hs) (xs : List D) : Option D := match (one xs).bind fun x => (getL hs x).bind fun l => l.mapM (py [] 50) with
  | some (p :: ps) => chk (PySem.W.AlikeAll (p :: ps) ∧ nl (ofPy (PySem.W.maxD p ps)) = true) (ofPy (PySem.W.maxD p ps))
  | _ => none
def dictD (hs : Hs) (xs : List D) : Option D := ((one xs).bind fun x => getDk hs x).map .dk
def valsD (hs : Hs) (xs : List D) : Option D := ((one xs).bind fun x => getDk hs x).map fun kvs => .lst (kvs.map (·.2))
def isaL (hs : Hs) (t : String) (xs : List D) : Option D := ((one xs).bind fun x => isaD hs t x).map .bl
def rngL (lo : Int) : Nat → List D
  | 0 => []
  | n + 1 => .int lo :: rngL (lo + 1) n
noncomputable def lrngD : List D → Option D
  | [.int j] => chk (RgOk 0 j) (.lst (rngL 0 j.toNat))
  | [.int i, .int j] => chk (RgOk i j) (.lst (rngL i (j - i).toNat))
  | _ => none
noncomputable def biD (hs : Hs) (f : Bi) (xs : List D) : Option D :=
  match f with
  | .len => lenD hs xs
  | .abs => absD xs
  | .int1 => int1D xs
  | .max2 => max2D xs
  | .min2 => min2D xs
  | .max1 => max1D hs xs
  | .min1 => min1D hs xs
  | .sum => sumD hs xs
  | .all => allD hs xs
  | .any => anyD hs xs
  | .list => listD hs xs
  | .tuple => tupleD hs xs
  | .repr => reprD hs xs
  | .sorted => sortedD hs xs
  | .dictc => dictD hs xs
  | .dictp => none
  | .mind => mindD hs xs
  | .maxd => maxdD hs xs
  | .vals => valsD hs xs
  | .lrng => lrngD xs
  | .isa t => isaL hs t xs
/-- a dict's display: keys and values in turn -/
def pairsD : List D → Option (List (Key × D))
  | [] => some []
  | k :: v :: r => match keyOf k, pairsD r with
    | some k, some l => some ((k, v) :: l)
    | _, _ => none
  | _ => none
def pairK : D → Option (Key × D)
  | .tup [k, v] => (keyOf k).map fun k => (k, v)
  | _ => none
def mergeD {κ : Type} [DecidableEq κ] (kvs more : List (κ × D)) : List (κ × D) := more.foldl (fun acc kv => put acc kv.1 kv.2) kvs
/-- the place that an index means -/
def ix (n : Nat) (i : Int) : Option Nat := if 0 ≤ i then (if i < n then some i.toNat else none) else if -(n : Int) ≤ i then some (i + n).toNat else none
noncomputable def subD (hs : Hs) (x i : D) : Option D :=
  match getDk hs x, getDt hs x with
  | some kvs, _ => (keyOf i).bind (look kvs)
  | _, some kvs => (keysOf i).bind (look kvs)
  | none, none => match getS hs x, i with
    | some l, .int k => (ix l.length k).bind fun j => l[j]?
    | _, _ => none
/-- a bound of a slice; d where there is none -/
def sx (n d : Nat) : Option Int → Nat
  | none => d
  | some v => if v < 0 then (v + n).toNat else min v.toNat n
def cut {α : Type} (l : List α) (lo hi : Nat) : List α := (l.take hi).drop lo
def bnd : Sk → List D → Option (Option Int × Option Int)
  | .lo, [.int i] => some (some i, none)
  | .hi, [.int j] => some (none, some j)
  | .lohi, [.int i, .int j] => some (some i, some j)
  | _, _ => none
def cutO (hs : Hs) (x : D) (lo hi : Option Int) : Option D :=
  match x with
  | .tup l => some (.tup (cut l (sx l.length 0 lo) (sx l.length l.length hi)))
  | x => match getL hs x with
    | some l => some (.lst (cut l (sx l.length 0 lo) (sx l.length l.length hi)))
    | none => none
def revO (hs : Hs) (x : D) : Option D :=
  match x with
  | .tup l => some (.tup l.reverse)
  | x => match getL hs x with
    | some l => some (.lst l.reverse)
    | none => none
def slcD (hs : Hs) (k : Sk) (x : D) (is : List D) : Option D :=
  match k with
  | .rev => match is with
    | [] => revO hs x
    | _ => none
  | k => match bnd k is with
    | some (lo, hi) => cutO hs x lo hi
    | none => none
/-- the thing is of the method's kind -/
def mokD (hs : Hs) (m : Mt) (o : D) : Bool :=
  match m with
  | .get2 => (getDk hs o).isSome || (getDt hs o).isSome
  | .index => (getL hs o).isSome
  | .count => (getL hs o).isSome
  | _ => match o with
    | .ref _ => (getL hs o).isSome
    | _ => false
noncomputable def appendD (hs : Hs) : D → List D → Option (D × Hs)
  | .ref n, [x] => match hs[n]? with
    | some (.lst l) => chk (l.length < sizeLine) (.non, hs.set n (.lst (l ++ [x])))
    | _ => none
  | _, _ => none
noncomputable def extendD (hs : Hs) : D → List D → Option (D × Hs)
  | .ref n, [.lst l'] => match hs[n]? with
    | some (.lst l) => chk (l.length + l'.length ≤ sizeLine) (.non, hs.set n (.lst (l ++ l')))
    | _ => none
  | _, _ => none
def popD (hs : Hs) : D → List D → Option (D × Hs)
  | .ref n, [] => match hs[n]? with
    | some (.lst l) => match l.getLast? with
      | some x => some (x, hs.set n (.lst l.dropLast))
      | none => none
    | _ => none
  | _, _ => none
noncomputable def popatD (hs : Hs) : D → List D → Option (D × Hs)
  | .ref n, [.int i] => match hs[n]? with
    | some (.lst l) => match ix l.length i with
      | some j => match l[j]? with
        | some x => chk (-(2 ^ 63) ≤ i ∧ i < 2 ^ 63) (x, hs.set n (.lst (l.eraseIdx j)))
        | none => none
      | none => none
    | _ => none
  | _, _ => none
def get2D (hs : Hs) : D → List D → Option (D × Hs)
  | d, [k, z] => match getDk hs d with
    | some kvs => (keyOf k).map fun k => ((look kvs k).getD z, hs)
    | none => match getDt hs d with
      | some kvs => (keysOf k).map fun k => ((look kvs k).getD z, hs)
      | none => none
  | _, _ => none
def idxOf (k : Int) : List Int → Option Nat
  | [] => none
  | i :: r => if i = k then some 0 else (idxOf k r).map (· + 1)
def indexD (hs : Hs) : D → List D → Option (D × Hs)
  | o, [.int k] => match (getL hs o).bind intsD with
    | some ns => (idxOf k ns).map fun j => (.int (j : Nat), hs)
    | none => none
  | _, _ => none
def countD (hs : Hs) : D → List D → Option (D × Hs)
  | o, [.int k] => ((getL hs o).bind intsD).map fun ns => (.int (ns.count k : Nat), hs)
  | _, _ => none
noncomputable def mthD (hs : Hs) (m : Mt) (o : D) (xs : List D) : Option (D × Hs) :=
  match m with
  | .append => appendD hs o xs
  | .extend => extendD hs o xs
  | .pop => popD hs o xs
  | .popat => popatD hs o xs
  | .get2 => get2D hs o xs
  | .index => indexD hs o xs
  | .count => countD hs o xs
  | _ => none
/-- x[i] = v -/
noncomputable def setD (hs : Hs) (x i v : D) : Option Hs :=
  match x with
  | .ref n => match hs[n]?, i with
    | some (.lst l), .int k => (ix l.length k).map fun j => hs.set n (.lst (l.set j v))
    | some (.dk kvs), i => match keyOf i with
      | some k => chk (kvs.length < sizeLine) (hs.set n (.dk (put kvs k v)))
      | none => none
    | some (.dt kvs), i => match keysOf i with
      | some k => chk (kvs.length < sizeLine) (hs.set n (.dt (put kvs k v)))
      | none => none
    | _, _ => none
  | _ => none

/-! ### what is walked -/
def rngC (lo c : Int) : Nat → List D
  | 0 => []
  | n + 1 => .int lo :: rngC (lo + c) c n
def enumL (k : Int) : List D → List D
  | [] => []
  | x :: r => .tup [.int k, x] :: enumL (k + 1) r
def zipL : List D → List D → List D
  | x :: xs, y :: ys => .tup [x, y] :: zipL xs ys
  | _, _ => []

inductive Fl where
  | nx (e : Ev) (h : Hs)
  | rt (d : D) (h : Hs)
/-- what is walked: the items, and the store's list that they come from -/
abbrev Src := List D × List (Nat × List D)

def okSrc (hs : Hs) (s : Src) : Prop := ∀ p ∈ s.2, hs[p.1]? = some (.lst p.2)

noncomputable def loopS (src : Src) (g : D → Ev → Hs → Option Fl) : List D → Ev → Hs → Option Fl
  | [], e, h => (chk (okSrc h src) (Fl.nx e h))
  | x :: r, e, h => match chk (okSrc h src) () with
    | some _ => match g x e h with
      | some (.nx e' h') => loopS src g r e' h'
      | r => r
    | none => none
noncomputable def loopC (src : Src) (g : D → Hs → Option (Option D × Hs)) : List D → Hs → Option (List D × Hs)
  | [], h => chk (okSrc h src) ([], h)
  | x :: r, h => match chk (okSrc h src) () with
    | some _ => match g x h with
      | some (o, h') => match loopC src g r h' with
        | some (l, h'') => some (o.toList ++ l, h'')
        | none => none
      | none => none
    | none => none
def loopW (c : Ev → Hs → Option (Bool × Hs)) (b : Ev → Hs → Option Fl) : Nat → Ev → Hs → Option Fl
  | 0, _, _ => none
  | n + 1, e, h => match c e h with
    | some (true, h') => match b e h' with
      | some (.nx e' h'') => loopW c b n e' h''
      | r => r
    | some (false, h') => some (.nx e h')
    | none => none
def wipeD (e : Ev) : List Nat → Ev
  | [] => e
  | v :: vs => (wipeD e vs).set v none

abbrev Cal := Nat → List D → Hs → Option (D × Hs)

section
variable (C : Cal) (L : Nat)
mutual
noncomputable def evE : Ex → Ev → Hs → Option (D × Hs)
  | .nm i, e, h => match e[i]? with
    | some (some d) => some (d, h)
    | _ => none
  | .lnon, _, h => some (.non, h)
  | .lbl b, _, h => some (.bl b, h)
  | .lint i, _, h => some (.int i, h)
  | .lstr s, _, h => some (.str s, h)
  | .tup es, e, h => match evA es e h with
    | some (ds, h') => chk (ds.length ≤ sizeLine) (.tup ds, h')
    | none => none
  | .lst es, e, h => match evA es e h with
    | some (ds, h') => chk (ds.length ≤ sizeLine) (.lst ds, h')
    | none => none
  | .bin op a b, e, h => match evE a e h with
    | some (x, h1) => match evE b e h1 with
      | some (y, h2) => (binD h2 op x y).map fun d => (d, h2)
      | none => none
    | none => none
  | .neg a, e, h => match evE a e h with
    | some (.int i, h1) => some (.int (-i), h1)
    | _ => none
  | .nt a, e, h => match evE a e h with
    | some (.bl b, h1) => some (.bl (!b), h1)
    | _ => none
  | .bool isAnd a es, e, h => match evE a e h with
    | some (.bl b, h1) => if b = isAnd then evB isAnd es e h1 else some (.bl b, h1)
    | _ => none
  | .cmp op a b, e, h => match evE a e h with
    | some (x, h1) => match evE b e h1 with
      | some (y, h2) => (cmpD h2 op x y).map fun d => (.bl d, h2)
      | none => none
    | none => none
  | .cmp2 op op' a b c, e, h => match evE a e h with
    | some (x, h1) => match evE b e h1 with
      | some (y, h2) => match cmpD h2 op x y with
        | some true => match evE c e h2 with
          | some (z, h3) => (cmpD h3 op' y z).map fun d => (.bl d, h3)
          | none => none
        | some false => some (.bl false, h2)
        | none => none
      | none => none
    | none => none
  | .ife c a b, e, h => match evE c e h with
    | some (.bl true, h1) => evE a e h1
    | some (.bl false, h1) => evE b e h1
    | _ => none
  | .call f es, e, h => match evA es e h with
    | some (ds, h') => C f ds h'
    | none => none
  | .bi f es, e, h => match evA es e h with
    | some (ds, h') => (biD h' f ds).map fun d => (d, h')
    | none => none
  | .mth m o es, e, h => match evE o e h with
    | some (x, h1) => if mokD h1 m x = true then match evA es e h1 with
        | some (ds, h2) => mthD h2 m x ds
        | none => none
      else none
    | none => none
  | .sub o i, e, h => match evE o e h with
    | some (x, h1) => match evE i e h1 with
      | some (y, h2) => (subD h2 x y).map fun d => (d, h2)
      | none => none
    | none => none
  | .slc k o es, e, h => match evE o e h with
    | some (x, h1) => match evA es e h1 with
      | some (ds, h2) => (slcD h2 k x ds).map fun d => (d, h2)
      | none => none
    | none => none
  | .comp elt tg it ifs own, e, h => match evI it e h with
    | some (src, h1) => match loopC src (fun x h => match evT tg x (wipeD e own) h with
        | some (e2, h2) => match evC ifs e2 h2 with
          | some (true, h3) => match evE elt e2 h3 with
            | some (d, h4) => some (some d, h4)
            | none => none
          | some (false, h3) => some (none, h3)
          | none => none
        | none => none) src.1 h1 with
      | some (l, h2) => chk (src.1.length ≤ sizeLine) (.lst l, h2)
      | none => none
    | none => none
  | .dcomp ke ve tg it ifs own, e, h => match evI it e h with
    | some (src, h1) => match loopC src (fun x h => match evT tg x (wipeD e own) h with
        | some (e2, h2) => match evC ifs e2 h2 with
          | some (true, h3) => match evE ke e2 h3 with
            | some (k, h4) => match keyOf k with
              | some _ => match evE ve e2 h4 with
                | some (v, h5) => some (some (.tup [k, v]), h5)
                | none => none
              | none => none
            | none => none
          | some (false, h3) => some (none, h3)
          | none => none
        | none => none) src.1 h1 with
      | some (l, h2) => chk (src.1.length ≤ sizeLine) (.dk (mergeD [] (l.filterMap pairK)), h2)
      | none => none
    | none => none
  | .dct ps, e, h => match evA ps e h with
    | some (ds, h1) => match pairsD ds with
      | some kvs => chk (kvs.length ≤ 15) (.dk (mergeD [] kvs), h1)
      | none => none
    | none => none
  | .dnewt, _, h => some (.dt [], h)
  | .al a, e, h => match evE a e h with
    | some (.lst l, h') => some (.ref h'.length, h' ++ [.lst l])
    | some (.dk l, h') => some (.ref h'.length, h' ++ [.dk l])
    | some (.dt l, h') => some (.ref h'.length, h' ++ [.dt l])
    | _ => none
noncomputable def evA : Exs → Ev → Hs → Option (List D × Hs)
  | .nil, _, h => some ([], h)
  | .cons s a r, e, h => match evE a e h with
    | some (x, h1) => match (if s then getS h1 x else some [x]) with
      | some xs => match evA r e h1 with
        | some (ys, h2) => some (xs ++ ys, h2)
        | none => none
      | none => none
    | none => none
/-- the rest of an and, an or -/
noncomputable def evB (isAnd : Bool) : Exs → Ev → Hs → Option (D × Hs)
  | .nil, _, _ => none
  | .cons _ a .nil, e, h => evE a e h
  | .cons _ a r, e, h => match evE a e h with
    | some (.bl b, h1) => if b = isAnd then evB isAnd r e h1 else some (.bl b, h1)
    | _ => none
/-- the tests of a comprehension: none or one -/
noncomputable def evC : Exs → Ev → Hs → Option (Bool × Hs)
  | .nil, _, h => some (true, h)
  | .cons _ a .nil, e, h => match evE a e h with
    | some (.bl b, h1) => some (b, h1)
    | _ => none
  | .cons _ _ (.cons _ _ _), _, _ => none
/-- a target takes a value -/
noncomputable def evT : Tg → D → Ev → Hs → Option (Ev × Hs)
  | .nm i, d, e, h => some (e.set i (some d), h)
  | .tup ts, d, e, h => match getS h d with
    | some l => evTs ts l e h
    | none => none
  | .sub o i, d, e, h => match evE o e h with
    | some (x, h1) => match evE i e h1 with
      | some (y, h2) => (setD h2 x y d).map fun h3 => (e, h3)
      | none => none
    | none => none
noncomputable def evTs : Tgs → List D → Ev → Hs → Option (Ev × Hs)
  | .nil, [], e, h => some (e, h)
  | .cons t r, d :: l, e, h => match evT t d e h with
    | some (e', h') => evTs r l e' h'
    | none => none
  | _, _, _, _ => none
noncomputable def evI : Iter → Ev → Hs → Option (Src × Hs)
  | .seq a, e, h => match evE a e h with
    | some (.tup l, h1) => some ((l, []), h1)
    | some (.lst l, h1) => some ((l, []), h1)
    | some (.ref n, h1) => match h1[n]? with
      | some (.lst l) => some ((l, [(n, l)]), h1)
      | _ => none
    | some (.scr ns, h1) => some ((ns.map .int, []), h1)
    | _ => none
  | .rng es, e, h => match evA es e h with
    | some ([.int j], h1) => chk (-(2 ^ 62) ≤ j ∧ j < 2 ^ 62) ((rngL 0 j.toNat, []), h1)
    | some ([.int i, .int j], h1) => chk (-(2 ^ 62) ≤ i ∧ i < 2 ^ 62 ∧ -(2 ^ 62) ≤ j ∧ j < 2 ^ 62) ((rngL i (j - i).toNat, []), h1)
    | _ => none
  | .enum a, e, h => match evE a e h with
    | some (.tup l, h1) => some ((enumL 0 l, []), h1)
    | some (.lst l, h1) => some ((enumL 0 l, []), h1)
    | some (.ref n, h1) => match h1[n]? with
      | some (.lst l) => some ((enumL 0 l, [(n, l)]), h1)
      | _ => none
    | _ => none
  | .zip _ a b, e, h => match evE a e h with
    | some (x, h1) => match evE b e h1 with
      | some (y, h2) => match x, y with
        | .tup l, .tup l' => some ((zipL l l', []), h2)
        | .lst l, .lst l' => some ((zipL l l', []), h2)
        | _, _ => none
      | none => none
    | none => none
  | .items _, _, _ => none
  | .keys _, _, _ => none
end
end

end Z

set_option Elab.async false
set_option linter.all false
set_option maxRecDepth 100000
set_option maxHeartbeats 4000000
/-! Z2: how values stand in the heap -/
namespace Z
open PySem PySem.Spec PyProof.Rows L2

/-- where the store's things stand, and what is in the making -/
structure Mp where
  r : List Addr
  x : List Addr
instance : Membership Addr Mp := ⟨fun m a => a ∈ m.r ∨ a ∈ m.x⟩
/-- the store grows -/
def Mp.add (m : Mp) (p : Addr) : Mp := ⟨m.r ++ [p], m.x⟩
/-- a thing in the making -/
def Mp.ex (m : Mp) (p : Addr) : Mp := ⟨m.r, p :: m.x⟩
/-- what stands at an address that is not the store's -/
def Fz (m : Mp) (H : Hp) (a : Addr) (u : HO) : Prop := H a = some u ∧ a ∉ m
/-- the script -/
def Scr (K : PySem.W.Frag) (m : Mp) (H : Hp) (a : Addr) (xs : List V) : Prop := (∃ o, Fz m H a (.frz o (.lst xs))) ∨
  ∃ (o : Obj) (its : Array Value) (n : Nat), K.lookup a = some o ∧ o.cls = .type "list" ∧ o.dict = none ∧ o.data = .seq its n ∧ its.size ≤ sizeLine ∧ Vals xs its.toList

mutual
inductive Rep (K : PySem.W.Frag) (m : Mp) (H : Hp) : V → D → Prop
  | non : Rep K m H .non .non
  | bl (b : Bool) : Rep K m H (.bl b) (.bl b)
  | int (i : Int) : Rep K m H (.int i) (.int i)
  | str (s : Str) : Rep K m H (.str s) (.str s)
  | tup {a : Addr} {vs : List V} {ds : List D} : Fz m H a (.tup vs) → Reps K m H vs ds → Rep K m H (.ref a) (.tup ds)
  | lst {a : Addr} {vs : List V} {ds : List D} : Fz m H a (.lst vs) → Reps K m H vs ds → Rep K m H (.ref a) (.lst ds)
  | dk {a : Addr} {us : List (Key × V)} {kvs : List (Key × D)} : Fz m H a (.dK us) → us.map (·.1) = kvs.map (·.1) → Reps K m H (us.map (·.2)) (kvs.map (·.2)) → Rep K m H (.ref a) (.dk kvs)
  | dt {a : Addr} {us : List (List Key × V)} {kvs : List (List Key × D)} : Fz m H a (.dT us) → us.map (·.1) = kvs.map (·.1) → Reps K m H (us.map (·.2)) (kvs.map (·.2)) → Rep K m H (.ref a) (.dt kvs)
  | ref {a : Addr} {n : Nat} : m.r[n]? = some a → Rep K m H (.ref a) (.ref n)
  | scr {a : Addr} {ns : List Int} : Scr K m H a (ns.map V.int) → Rep K m H (.ref a) (.scr ns)
inductive Reps (K : PySem.W.Frag) (m : Mp) (H : Hp) : List V → List D → Prop
  | nil : Reps K m H [] []
  | cons {v : V} {vs : List V} {d : D} {ds : List D} : Rep K m H v d → Reps K m H vs ds → Reps K m H (v :: vs) (d :: ds)
end

/-- what stands still stands -/
structure Gw (m : Mp) (H : Hp) (m' : Mp) (H' : Hp) : Prop where
  keep : ∀ a o, H a = some o → a ∉ m → H' a = some o ∧ a ∉ m'
  ref : ∀ (n : Nat) (a : Addr), m.r[n]? = some a → m'.r[n]? = some a
/-- the heap and the store go on -/
structure Go (m : Mp) (H : Hp) (m' : Mp) (H' : Hp) : Prop extends Gw m H m' H' where
  mx : m'.x = m.x
  mkeep : ∀ a ∈ m.x, ∀ o, H a = some o → H' a = some o

theorem Go.refl (m : Mp) (H : Hp) : Go m H m H := ⟨⟨fun _ _ e n => ⟨e, n⟩, fun _ _ e => e⟩, rfl, fun _ _ _ e => e⟩
theorem Go.trans {m1 m2 m3 : Mp} {H1 H2 H3 : Hp} (x : Go m1 H1 m2 H2) (y : Go m2 H2 m3 H3) : Go m1 H1 m3 H3 :=
  ⟨⟨fun a o e n => let ⟨e2, n2⟩ := x.keep a o e n; y.keep a o e2 n2, fun n a e => y.ref n a (x.ref n a e)⟩, y.mx.trans x.mx, fun a ha o e => y.mkeep a (by rw [x.mx]; exact ha) o (x.mkeep a ha o e)⟩
theorem Go.same {m : Mp} {H H' : Hp} (s : Same H H') : Go m H m H' := ⟨⟨fun a o e n => ⟨s a o e, n⟩, fun _ _ e => e⟩, rfl, fun a _ o e => s a o e⟩

section
variable {K : PySem.W.Frag} {m m' : Mp} {H H' : Hp}
theorem Fz.monoW {a : Addr} {u : HO} (g : Gw m H m' H') (h : Fz m H a u) : Fz m' H' a u := g.keep a _ h.1 h.2
theorem Scr.monoW {a : Addr} {xs : List V} (g : Gw m H m' H') (h : Scr K m H a xs) : Scr K m' H' a xs := by
  rcases h with ⟨o, h⟩ | h
  · exact .inl ⟨o, h.monoW g⟩
  · exact .inr h
theorem Fz.mono {a : Addr} {u : HO} (g : Go m H m' H') (h : Fz m H a u) : Fz m' H' a u := h.monoW g.toGw
theorem Scr.mono {a : Addr} {xs : List V} (g : Go m H m' H') (h : Scr K m H a xs) : Scr K m' H' a xs := h.monoW g.toGw
theorem Scr.sq {a : Addr} {xs : List V} (h : Scr K m H a xs) : SqL K H a xs := by
  rcases h with ⟨o, h⟩ | h
  · exact .inl (.inr ⟨o, h.1⟩)
  · exact .inr h
theorem Fz.sqL {a : Addr} {xs : List V} (h : Fz m H a (.lst xs)) : SqL K H a xs := .inl (.inl h.1)
theorem Fz.sqT {a : Addr} {xs : List V} (h : Fz m H a (.tup xs)) : SqT K H a xs := .inl (.inl h.1)
mutual
theorem Rep.monoW (g : Gw m H m' H') : ∀ {v : V} {d : D}, Rep K m H v d → Rep K m' H' v d
  | _, _, .non => .non
  | _, _, .bl b => .bl b
  | _, _, .int i => .int i
  | _, _, .str s => .str s
  | _, _, .tup h r => .tup (h.monoW g) (r.monoW g)
  | _, _, .lst h r => .lst (h.monoW g) (r.monoW g)
  | _, _, .dk h e r => .dk (h.monoW g) e (r.monoW g)
  | _, _, .dt h e r => .dt (h.monoW g) e (r.monoW g)
  | _, _, .ref e => .ref (g.ref _ _ e)
  | _, _, .scr h => .scr (h.monoW g)
theorem Reps.monoW (g : Gw m H m' H') : ∀ {vs : List V} {ds : List D}, Reps K m H vs ds → Reps K m' H' vs ds
  | _, _, .nil => .nil
  | _, _, .cons h r => .cons (h.monoW g) (r.monoW g)
end
theorem Rep.mono (g : Go m H m' H') {v : V} {d : D} (h : Rep K m H v d) : Rep K m' H' v d := h.monoW g.toGw
theorem Reps.mono (g : Go m H m' H') {v : List V} {d : List D} (h : Reps K m H v d) : Reps K m' H' v d := h.monoW g.toGw
theorem Reps.length : ∀ {vs : List V} {ds : List D}, Reps K m H vs ds → vs.length = ds.length
  | _, _, .nil => rfl
  | _, _, .cons _ r => by rw [List.length_cons, List.length_cons, r.length]
theorem Reps.app : ∀ {vs ws : List V} {ds es : List D}, Reps K m H vs ds → Reps K m H ws es → Reps K m H (vs ++ ws) (ds ++ es)
  | _, _, _, _, .nil, s => s
  | _, _, _, _, .cons h r, s => .cons h (r.app s)
theorem Reps.get : ∀ {vs : List V} {ds : List D} {i : Nat} {d : D}, Reps K m H vs ds → ds[i]? = some d → ∃ v, vs[i]? = some v ∧ Rep K m H v d
  | _, _, _, _, .nil, e => by simp at e
  | _, _, 0, _, .cons h r, e => by simp at e; subst e; exact ⟨_, rfl, h⟩
  | _, _, i + 1, _, .cons h r, e => by
    obtain ⟨v, e2, q⟩ := r.get (i := i) (by simpa using e)
    exact ⟨v, by simpa using e2, q⟩
theorem Reps.get' : ∀ {vs : List V} {ds : List D} {i : Nat} {v : V}, Reps K m H vs ds → vs[i]? = some v → ∃ d, ds[i]? = some d ∧ Rep K m H v d
  | _, _, _, _, .nil, e => by simp at e
  | _, _, 0, _, .cons h r, e => by simp at e; subst e; exact ⟨_, rfl, h⟩
  | _, _, i + 1, _, .cons h r, e => by
    obtain ⟨v, e2, q⟩ := r.get' (i := i) (by simpa using e)
    exact ⟨v, by simpa using e2, q⟩
theorem Reps.set {v : V} {d : D} (h : Rep K m H v d) : ∀ {vs : List V} {ds : List D} (i : Nat), Reps K m H vs ds → Reps K m H (vs.set i v) (ds.set i d)
  | _, _, _, .nil => .nil
  | _, _, 0, .cons _ r => .cons h r
  | _, _, i + 1, .cons q r => .cons q (r.set h i)
theorem Reps.take : ∀ {vs : List V} {ds : List D} (n : Nat), Reps K m H vs ds → Reps K m H (vs.take n) (ds.take n)
  | _, _, 0, _ => .nil
  | _, _, _ + 1, .nil => .nil
  | _, _, n + 1, .cons h r => .cons h (r.take n)
theorem Reps.drop : ∀ {vs : List V} {ds : List D} (n : Nat), Reps K m H vs ds → Reps K m H (vs.drop n) (ds.drop n)
  | _, _, 0, r => r
  | _, _, _ + 1, .nil => .nil
  | _, _, n + 1, .cons h r => r.drop n
theorem Reps.eraseIdx : ∀ {vs : List V} {ds : List D} (n : Nat), Reps K m H vs ds → Reps K m H (vs.eraseIdx n) (ds.eraseIdx n)
  | _, _, _, .nil => .nil
  | _, _, 0, .cons _ r => r
  | _, _, n + 1, .cons h r => .cons h (r.eraseIdx n)
theorem Reps.reverse : ∀ {vs : List V} {ds : List D}, Reps K m H vs ds → Reps K m H vs.reverse ds.reverse
  | _, _, .nil => .nil
  | _, _, .cons h r => by
    rw [List.reverse_cons, List.reverse_cons]
    exact r.reverse.app (.cons h .nil)
theorem Reps.one {v : V} {d : D} (h : Rep K m H v d) : Reps K m H [v] [d] := .cons h .nil
theorem Reps.nil' {vs : List V} (h : Reps K m H vs []) : vs = [] := by cases h; rfl
theorem Reps.cons' {vs : List V} {d : D} {ds : List D} (h : Reps K m H vs (d :: ds)) : ∃ v r, vs = v :: r ∧ Rep K m H v d ∧ Reps K m H r ds := by
  cases h with
  | cons a b => exact ⟨_, _, rfl, a, b⟩
theorem Reps.rep1 {vs : List V} {d : D} (h : Reps K m H vs [d]) : ∃ v, vs = [v] ∧ Rep K m H v d := by
  obtain ⟨v, r, rfl, h1, h2⟩ := h.cons'
  obtain rfl := h2.nil'
  exact ⟨v, rfl, h1⟩
theorem Reps.rep2 {vs : List V} {d e : D} (h : Reps K m H vs [d, e]) : ∃ v w, vs = [v, w] ∧ Rep K m H v d ∧ Rep K m H w e := by
  obtain ⟨v, r, rfl, h1, h2⟩ := h.cons'
  obtain ⟨w, rfl, h3⟩ := h2.rep1
  exact ⟨v, w, rfl, h1, h3⟩
theorem Reps.flat {vs : List V} {ds : List D} (h : Reps K m H vs ds) : ∀ n : Nat, Reps K m H (List.replicate n vs).flatten (List.replicate n ds).flatten
  | 0 => .nil
  | n + 1 => by
    rw [List.replicate_succ, List.replicate_succ, List.flatten_cons, List.flatten_cons]
    exact h.app (h.flat n)

/-! ### the store -/
def OR (K : PySem.W.Frag) (m : Mp) (H : Hp) (a : Addr) : O → Prop
  | .lst ds => ∃ vs, H a = some (.lst vs) ∧ Reps K m H vs ds
  | .dk kvs => ∃ us : List (Key × V), H a = some (.dK us) ∧ us.map (·.1) = kvs.map (·.1) ∧ Reps K m H (us.map (·.2)) (kvs.map (·.2))
  | .dt kvs => ∃ us : List (List Key × V), H a = some (.dT us) ∧ us.map (·.1) = kvs.map (·.1) ∧ Reps K m H (us.map (·.2)) (kvs.map (·.2))
structure RH (K : PySem.W.Frag) (m : Mp) (H : Hp) (hs : Hs) : Prop where
  nd : m.r.Nodup
  len : m.r.length = hs.length
  mt : ∀ a ∈ m.x, ∃ o, H a = some o
  md : ∀ a ∈ m.x, a ∉ m.r
  ob : ∀ (n : Nat) (o : O), hs[n]? = some o → ∃ a, m.r[n]? = some a ∧ OR K m H a o
structure RE (K : PySem.W.Frag) (m : Mp) (H : Hp) (σ : L2.St) (e : Ev) : Prop where
  len : σ.length = e.length
  get : ∀ (i : Nat) (d : D), e[i]? = some (some d) → ∃ v, σ[i]? = some (some v) ∧ Rep K m H v d
theorem RE.mono {σ : L2.St} {e : Ev} (g : Go m H m' H') (h : RE K m H σ e) : RE K m' H' σ e :=
  ⟨h.len, fun i d q => let ⟨v, e1, r⟩ := h.get i d q; ⟨v, e1, r.mono g⟩⟩
theorem RE.monoW {σ : L2.St} {e : Ev} (g : Gw m H m' H') (h : RE K m H σ e) : RE K m' H' σ e :=
  ⟨h.len, fun i d q => let ⟨v, e1, r⟩ := h.get i d q; ⟨v, e1, r.monoW g⟩⟩
theorem OR.same {a : Addr} {o : O} (s : Same H H') (h : OR K m H a o) : OR K m H' a o := by
  cases o with
  | lst ds => obtain ⟨vs, e, r⟩ := h; exact ⟨vs, s _ _ e, r.mono (Go.same s)⟩
  | dk kvs => obtain ⟨vs, e, q, r⟩ := h; exact ⟨vs, s _ _ e, q, r.mono (Go.same s)⟩
  | dt kvs => obtain ⟨vs, e, q, r⟩ := h; exact ⟨vs, s _ _ e, q, r.mono (Go.same s)⟩
theorem RH.same {hs : Hs} (s : Same H H') (h : RH K m H hs) : RH K m H' hs :=
  ⟨h.nd, h.len, fun a ha => let ⟨o, e⟩ := h.mt a ha; ⟨o, s _ _ e⟩, h.md, fun n o e => let ⟨a, q, r⟩ := h.ob n o e; ⟨a, q, r.same s⟩⟩
theorem same_new {p : Addr} {o : HO} (h : H p = none) : Same H (upd H p o) := fun b x e => by
  rw [upd_ne (ne_of_none e h)]
  exact e
/-- what the store holds is tracked -/
theorem RH.trk {hs : Hs} (h : RH K m H hs) {a : Addr} (ha : a ∈ m) : ∃ o, H a = some o := by
  rcases ha with ha | ha
  rotate_left
  · exact h.mt a ha
  obtain ⟨n, hn⟩ := List.getElem?_of_mem ha
  have hl : n < hs.length := by
    have := (List.getElem?_eq_some_iff.mp hn).1
    rw [← h.len]
    exact this
  obtain ⟨a', e, r⟩ := h.ob n _ (List.getElem?_eq_getElem hl)
  rw [hn] at e
  cases e
  revert r
  generalize hs[n] = o
  intro r
  cases o with
  | lst ds => obtain ⟨vs, e, _⟩ := r; exact ⟨_, e⟩
  | dk kvs => obtain ⟨vs, e, _⟩ := r; exact ⟨_, e⟩
  | dt kvs => obtain ⟨vs, e, _⟩ := r; exact ⟨_, e⟩
theorem RH.new {hs : Hs} (h : RH K m H hs) {p : Addr} (hp : H p = none) : p ∉ m := fun hm => by
  obtain ⟨o, e⟩ := h.trk hm
  rw [hp] at e
  cases e
/-- a fresh thing may be read as what it is -/
theorem RH.fz {hs : Hs} (h : RH K m H hs) {p : Addr} {u : HO} (hp : H p = none) : Fz m (upd H p u) p u := ⟨upd_same, h.new hp⟩
/-- the fresh thing joins the store -/
theorem Go.alloc {hs : Hs} (h : RH K m H hs) {p : Addr} {u : HO} (hp : H p = none) : Go m H (m.add p) (upd H p u) where
  keep := fun a o e n => ⟨by rw [upd_ne (ne_of_none e hp)]; exact e, fun z => by
    rcases z with z | z
    · rcases List.mem_append.mp z with z | z
      · exact n (.inl z)
      · exact ne_of_none e hp (List.mem_singleton.mp z)
    · exact n (.inr z)⟩
  ref := fun n a e => by
    show (m.r ++ [p])[n]? = _
    rw [List.getElem?_append_left (List.getElem?_eq_some_iff.mp e).1]
    exact e
  mx := rfl
  mkeep := fun a _ o e => by rw [upd_ne (ne_of_none e hp)]; exact e
theorem OR.go {a : Addr} {o : O} (g : Gw m H m' H') (e1 : ∀ u, H a = some u → H' a = some u) (h : OR K m H a o) : OR K m' H' a o := by
  cases o with
  | lst ds => obtain ⟨vs, e, r⟩ := h; exact ⟨vs, e1 _ e, r.monoW g⟩
  | dk kvs => obtain ⟨vs, e, q, r⟩ := h; exact ⟨vs, e1 _ e, q, r.monoW g⟩
  | dt kvs => obtain ⟨vs, e, q, r⟩ := h; exact ⟨vs, e1 _ e, q, r.monoW g⟩
theorem RH.alloc {hs : Hs} (h : RH K m H hs) {p : Addr} {u : HO} {o : O} (hp : H p = none) (ho : OR K (m.add p) (upd H p u) p o) : RH K (m.add p) (upd H p u) (hs ++ [o]) where
  nd := List.nodup_append.mpr ⟨h.nd, by simp, fun a ha b hb z => by
    have : b = p := by simpa using hb
    subst this
    subst z
    exact h.new hp (.inl ha)⟩
  len := by show (m.r ++ [p]).length = _; rw [List.length_append, List.length_append, h.len]; rfl
  mt := fun a ha => let ⟨o, e⟩ := h.mt a ha; ⟨o, by rw [upd_ne (ne_of_none e hp)]; exact e⟩
  md := fun a ha z => by
    rcases List.mem_append.mp z with z | z
    · exact h.md a ha z
    · obtain ⟨o, e⟩ := h.mt a ha
      exact ne_of_none e hp (List.mem_singleton.mp z)
  ob := fun n o' e => by
    by_cases hn : n < hs.length
    · rw [List.getElem?_append_left hn] at e
      obtain ⟨a, q, r⟩ := h.ob n o' e
      refine ⟨a, (Go.alloc (u := u) h hp).ref n a q, r.go (Go.alloc h hp).toGw fun u e => ?_⟩
      rw [upd_ne (ne_of_none e hp)]
      exact e
    · rw [List.getElem?_append_right (by omega)] at e
      have hz : n - hs.length = 0 := by
        have := (List.getElem?_eq_some_iff.mp e).1
        simp at this
        omega
      rw [hz] at e
      cases e
      refine ⟨p, ?_, ho⟩
      show (m.r ++ [p])[n]? = _
      rw [List.getElem?_append_right (by rw [h.len]; omega), h.len, hz]
      rfl
/-- the store's object n is changed -/
theorem RH.inj {hs : Hs} (h : RH K m H hs) {i j : Nat} {a : Addr} (e1 : m.r[i]? = some a) (e2 : m.r[j]? = some a) : i = j := by
  obtain ⟨h1, q1⟩ := List.getElem?_eq_some_iff.mp e1
  obtain ⟨h2, q2⟩ := List.getElem?_eq_some_iff.mp e2
  exact (List.getElem_inj h.nd).mp (q1.trans q2.symm)
theorem Go.write {hs : Hs} (h : RH K m H hs) {a : Addr} {u : HO} (ha : a ∈ m.r) : Go m H m (upd H a u) where
  keep := fun b o e n => ⟨by rw [upd_ne (show b ≠ a from fun z => n (.inl (by rw [z]; exact ha)))]; exact e, n⟩
  ref := fun _ _ e => e
  mx := rfl
  mkeep := fun b hb o e => by
    rw [upd_ne (show b ≠ a from fun z => h.md b hb (by rw [z]; exact ha))]
    exact e
theorem RH.write {hs : Hs} (h : RH K m H hs) {n : Nat} {a : Addr} {u : HO} {o : O} (e : m.r[n]? = some a) (ho : OR K m (upd H a u) a o) : RH K m (upd H a u) (hs.set n o) where
  nd := h.nd
  len := by rw [List.length_set]; exact h.len
  mt := fun b hb => by
    obtain ⟨o, e'⟩ := h.mt b hb
    refine ⟨o, ?_⟩
    rw [upd_ne (show b ≠ a from fun z => h.md b hb (by rw [z]; exact List.mem_of_getElem? e))]
    exact e'
  md := h.md
  ob := fun j o' q => by
    have ha : a ∈ m.r := List.mem_of_getElem? e
    by_cases hj : j = n
    · subst hj
      have hl : j < hs.length := by rw [← h.len]; exact (List.getElem?_eq_some_iff.mp e).1
      rw [List.getElem?_set_self hl] at q
      cases q
      exact ⟨a, e, ho⟩
    · rw [List.getElem?_set_ne (Ne.symm hj)] at q
      obtain ⟨b, q1, r⟩ := h.ob j o' q
      refine ⟨b, q1, r.go (Go.write h ha).toGw fun u' e' => ?_⟩
      rw [upd_ne (show b ≠ a from fun z => hj (h.inj q1 (by rw [z]; exact e)))]
      exact e'
/-- a thing in the making: begun, written -/
theorem Gw.ex {p : Addr} {u : HO} (hp : H p = none) : Gw m H (m.ex p) (upd H p u) where
  keep := fun a o e n => ⟨by rw [upd_ne (ne_of_none e hp)]; exact e, fun z => by
    rcases z with z | z
    · exact n (.inl z)
    · rcases List.mem_cons.mp z with z | z
      · exact ne_of_none e hp z
      · exact n (.inr z)⟩
  ref := fun _ _ e => e
theorem RH.exS {hs : Hs} (h : RH K m H hs) {p : Addr} {u : HO} (hp : H p = none) : RH K (m.ex p) (upd H p u) hs where
  nd := h.nd
  len := h.len
  mt := fun a ha => by
    rcases List.mem_cons.mp ha with rfl | ha
    · exact ⟨_, upd_same⟩
    · obtain ⟨o, e⟩ := h.mt a ha
      exact ⟨o, by rw [upd_ne (ne_of_none e hp)]; exact e⟩
  md := fun a ha z => by
    rcases List.mem_cons.mp ha with rfl | ha
    · exact h.new hp (.inl z)
    · exact h.md a ha z
  ob := fun n o e => let ⟨a, q, r⟩ := h.ob n o e; ⟨a, q, r.go (Gw.ex hp) fun u' e' => by rw [upd_ne (ne_of_none e' hp)]; exact e'⟩
/-- it is written -/
theorem Gw.exW {p : Addr} {u : HO} (ha : p ∈ m.x) : Gw m H m (upd H p u) where
  keep := fun b o e n => ⟨by rw [upd_ne (show b ≠ p from fun z => n (.inr (by rw [z]; exact ha)))]; exact e, n⟩
  ref := fun _ _ e => e
theorem RH.exW {hs : Hs} (h : RH K m H hs) {p : Addr} {u : HO} (hp : p ∈ m.x) : RH K m (upd H p u) hs where
  nd := h.nd
  len := h.len
  mt := fun a ha => by
    by_cases z : a = p
    · subst z
      exact ⟨_, upd_same⟩
    · obtain ⟨o, e⟩ := h.mt a ha
      exact ⟨o, by rw [upd_ne z]; exact e⟩
  md := h.md
  ob := fun n o e => let ⟨a, q, r⟩ := h.ob n o e; ⟨a, q, r.go (Gw.exW hp) fun u' e' => by rw [upd_ne (show a ≠ p from fun z => h.md p hp (by rw [← z]; exact List.mem_of_getElem? q))]; exact e'⟩
/-- the heap without it -/
def del (H : Hp) (p : Addr) : Hp := fun b => if b = p then none else H b
theorem del_same {p : Addr} : del H p p = none := by simp [del]
theorem del_ne {p b : Addr} (h : b ≠ p) : del H p b = H b := by simp [del, h]
theorem upd_del {p : Addr} {u : HO} : upd (del H p) p u = upd H p u := by
  funext b
  by_cases h : b = p
  · subst h
    rw [upd_same, upd_same]
  · rw [upd_ne h, upd_ne h, del_ne h]
theorem Gw.del {p : Addr} {r x : List Addr} : Gw ⟨r, p :: x⟩ H ⟨r, x⟩ (del H p) where
  keep := fun a o e n => by
    have hne : a ≠ p := fun z => n (.inr (by rw [z]; exact List.mem_cons_self))
    refine ⟨by rw [del_ne hne]; exact e, fun z => ?_⟩
    rcases z with z | z
    · exact n (.inl z)
    · exact n (.inr (List.mem_cons_of_mem _ z))
  ref := fun _ _ e => e
theorem RH.del {hs : Hs} {p : Addr} {r x : List Addr} (h : RH K ⟨r, p :: x⟩ H hs) (hx : p ∉ x) : RH K ⟨r, x⟩ (del H p) hs where
  nd := h.nd
  len := h.len
  mt := fun a ha => by
    obtain ⟨o, e⟩ := h.mt a (List.mem_cons_of_mem _ ha)
    exact ⟨o, by rw [del_ne (show a ≠ p from fun z => hx (by rw [← z]; exact ha))]; exact e⟩
  md := fun a ha => h.md a (List.mem_cons_of_mem _ ha)
  ob := fun n o e => let ⟨a, q, r⟩ := h.ob n o e; ⟨a, q, r.go Gw.del fun u' e' => by rw [del_ne (show a ≠ p from fun z => h.md p List.mem_cons_self (by rw [← z]; exact List.mem_of_getElem? q))]; exact e'⟩

theorem del_upd {p : Addr} {u : HO} : del (upd H p u) p = del H p := by
  funext b
  by_cases h : b = p
  · subst h
    rw [del_same, del_same]
  · rw [del_ne h, del_ne h, upd_ne h]
theorem del_new {p : Addr} (h : H p = none) : del H p = H := by
  funext b
  by_cases e : b = p
  · subst e
    rw [del_same, h]
  · rw [del_ne e]
/-- what goes on while p is made -/
theorem Go.delM {p : Addr} {x : List Addr} (hx : m.x = p :: x) (g : Go m H m' H') : Go ⟨m.r, x⟩ (del H p) ⟨m'.r, x⟩ (del H' p) where
  keep := fun a o e n => by
    by_cases hne : a = p
    · subst hne
      rw [del_same] at e
      cases e
    rw [del_ne hne] at e ⊢
    have hn : a ∉ m := fun z => by
      rcases z with z | z
      · exact n (.inl z)
      · rw [hx] at z
        rcases List.mem_cons.mp z with z | z
        · exact hne z
        · exact n (.inr z)
    obtain ⟨e', n'⟩ := g.keep a o e hn
    exact ⟨e', fun z => n' (by
      rcases z with z | z
      · exact .inl z
      · exact .inr (by rw [g.mx, hx]; exact List.mem_cons_of_mem _ z))⟩
  ref := g.ref
  mx := rfl
  mkeep := fun a ha o e => by
    by_cases hne : a = p
    · subst hne
      rw [del_same] at e
      cases e
    rw [del_ne hne] at e ⊢
    exact g.mkeep a (by rw [hx]; exact List.mem_cons_of_mem _ ha) o e
theorem Gw.undel {p : Addr} (hp : H p = none) (hx : m'.x = p :: m.x) (g : Go m H ⟨m'.r, m.x⟩ (Z.del H' p)) : Gw m H m' H' where
  keep := fun a o e n => by
    have hne := ne_of_none e hp
    obtain ⟨e', n'⟩ := g.keep a o e n
    rw [del_ne hne] at e'
    refine ⟨e', fun z => n' ?_⟩
    rcases z with z | z
    · exact .inl z
    · rw [hx] at z
      rcases List.mem_cons.mp z with z | z
      · exact absurd z hne
      · exact .inr z
  ref := g.ref
theorem Gw.delM {p : Addr} {x : List Addr} (hx : m.x = p :: x) : Gw m H ⟨m.r, x⟩ (Z.del H p) := by
  obtain ⟨r, y⟩ := m
  cases hx
  exact Gw.del
theorem RH.delM {hs : Hs} {p : Addr} {x : List Addr} (hx : m.x = p :: x) (h : RH K m H hs) (hn : p ∉ x) : RH K ⟨m.r, x⟩ (Z.del H p) hs := by
  obtain ⟨r, y⟩ := m
  cases hx
  exact h.del hn
/-! ### views -/
theorem RH.getL {hs : Hs} (h : RH K m H hs) {v : V} {d : D} {ds : List D} (r : Rep K m H v d) (e : getL hs d = some ds) : ∃ a vs, v = .ref a ∧ H a = some (.lst vs) ∧ Reps K m H vs ds := by
  cases r with
  | lst f q => cases e; exact ⟨_, _, rfl, f.1, q⟩
  | @ref a n em =>
    simp only [Z.getL] at e
    split at e
    · cases e
      rename_i xs he
      obtain ⟨a', e1, vs, e2, q⟩ := h.ob _ _ he
      rw [em] at e1
      cases e1
      exact ⟨_, _, rfl, e2, q⟩
    · cases e
  | _ => cases e
theorem RH.getS {hs : Hs} (h : RH K m H hs) {v : V} {d : D} {ds : List D} (r : Rep K m H v d) (e : getS hs d = some ds) : ∃ a vs, v = .ref a ∧ (H a = some (.lst vs) ∨ H a = some (.tup vs)) ∧ Reps K m H vs ds := by
  cases r with
  | tup f q => cases e; exact ⟨_, _, rfl, .inr f.1, q⟩
  | lst f q => cases e; exact ⟨_, _, rfl, .inl f.1, q⟩
  | ref em =>
    obtain ⟨a, vs, e1, q1, q2⟩ := h.getL (.ref em) (ds := ds) e
    exact ⟨a, vs, e1, .inl q1, q2⟩
  | _ => cases e
mutual
theorem py_dp {hs : Hs} (h : RH K m H hs) : ∀ (n : Nat) {v : V} {d : D} {p : PyData}, Rep K m H v d → py hs n d = some p → Dp K H v p
  | 0, _, _, _, .non, e => by simp only [py] at e; cases e; exact .non
  | 0, _, _, _, .bl b, e => by simp only [py] at e; cases e; exact .bl b
  | 0, _, _, _, .int b, e => by simp only [py] at e; cases e; exact .int b
  | 0, _, _, _, .str b, e => by simp only [py] at e; cases e; exact .str b
  | 0, _, _, _, .tup _ _, e => by simp only [py] at e; cases e
  | 0, _, _, _, .lst _ _, e => by simp only [py] at e; cases e
  | 0, _, _, _, .dk _ _ _, e => by simp only [py] at e; cases e
  | 0, _, _, _, .dt _ _ _, e => by simp only [py] at e; cases e
  | 0, _, _, _, .ref _, e => by simp only [py] at e; cases e
  | 0, _, _, _, .scr _, e => by simp only [py] at e; cases e
  | n + 1, _, _, _, .non, e => by simp only [py] at e; cases e; exact .non
  | n + 1, _, _, _, .bl b, e => by simp only [py] at e; cases e; exact .bl b
  | n + 1, _, _, _, .int b, e => by simp only [py] at e; cases e; exact .int b
  | n + 1, _, _, _, .str b, e => by simp only [py] at e; cases e; exact .str b
  | n + 1, _, _, _, .tup f r, e => by
    simp only [py] at e
    obtain ⟨ps, e1, e2⟩ := Option.map_eq_some_iff.mp e
    subst e2
    exact .tup f.sqT (py_dps h n r e1)
  | n + 1, _, _, _, .lst f r, e => by
    simp only [py] at e
    obtain ⟨ps, e1, e2⟩ := Option.map_eq_some_iff.mp e
    subst e2
    exact .lst f.sqL (py_dps h n r e1)
  | n + 1, _, _, _, .dk _ _ _, e => by simp only [py] at e; cases e
  | n + 1, _, _, _, .dt _ _ _, e => by simp only [py] at e; cases e
  | n + 1, _, _, _, .scr _, e => by simp only [py] at e; cases e
  | n + 1, _, _, _, .ref em, e => by
    simp only [py] at e
    split at e
    · rename_i xs he
      obtain ⟨a', e1, vs, e2, q⟩ := h.ob _ _ he
      rw [em] at e1
      cases e1
      obtain ⟨ps, e1, e2'⟩ := Option.map_eq_some_iff.mp e
      subst e2'
      exact .lst (.inl (.inl e2)) (py_dps h n q e1)
    · cases e
theorem py_dps {hs : Hs} (h : RH K m H hs) : ∀ (n : Nat) {vs : List V} {ds : List D} {ps : List PyData}, Reps K m H vs ds → ds.mapM (py hs n) = some ps → DpAll K H vs ps
  | n, _, _, _, .nil, e => by simp at e; subst e; exact .nil
  | n, _, _, _, .cons a r, e => by
    simp only [List.mapM_cons, Option.bind_eq_bind, Option.pure_def] at e
    obtain ⟨p, e1, e⟩ := Option.bind_eq_some_iff.mp e
    obtain ⟨ps, e2, e⟩ := Option.bind_eq_some_iff.mp e
    cases e
    exact .cons (py_dp h n a e1) (py_dps h n r e2)
end
end
end Z

set_option Elab.async false
set_option linter.all false
set_option maxRecDepth 100000
set_option maxHeartbeats 4000000
/-! Z3: the operations by values are what the machine does -/
namespace Z
open PySem PySem.Spec PyProof.Rows L2

def AfN (K : PySem.W.Frag) (m : Mp) (H : Hp) (d : D) (Q : VK) : Prop := ∀ v H', Same H H' → Rep K m H' v d → Q v H'
def AfF (K : PySem.W.Frag) (m : Mp) (H : Hp) (d : D) (Q : VK) : Prop :=
  match d with
  | .lst ds => ∀ vs p H', Same H H' → H' p = none → Reps K m H' vs ds → Q (.ref p) (upd H' p (.lst vs))
  | .dk kvs => ∀ (us : List (Key × V)) p H', Same H H' → H' p = none → us.map (·.1) = kvs.map (·.1) → Reps K m H' (us.map (·.2)) (kvs.map (·.2)) → Q (.ref p) (upd H' p (.dK us))
  | .dt kvs => ∀ (us : List (List Key × V)) p H', Same H H' → H' p = none → us.map (·.1) = kvs.map (·.1) → Reps K m H' (us.map (·.2)) (kvs.map (·.2)) → Q (.ref p) (upd H' p (.dT us))
  | _ => False
def Af (K : PySem.W.Frag) (m : Mp) (H : Hp) (d : D) (Q : VK) : Prop := AfN K m H d Q ∨ AfF K m H d Q

section
variable {K : PySem.W.Frag} {m : Mp} {H : Hp} {hs : Hs} {Q : VK} {d : D}
theorem Af.lst {ds : List D} (h : RH K m H hs) (a : Af K m H (.lst ds) Q) : ∀ vs p H', Same H H' → H' p = none → Reps K m H' vs ds → Q (.ref p) (upd H' p (.lst vs)) := by
  rcases a with a | a
  · intro vs p H' s hp r
    have h' := h.same s
    exact a _ _ (s.trans (same_new hp)) (.lst (h'.fz hp) (r.mono (Go.same (same_new hp))))
  · exact a
theorem Af.dk {kvs : List (Key × D)} (h : RH K m H hs) (a : Af K m H (.dk kvs) Q) : ∀ (us : List (Key × V)) p H', Same H H' → H' p = none → us.map (·.1) = kvs.map (·.1) → Reps K m H' (us.map (·.2)) (kvs.map (·.2)) → Q (.ref p) (upd H' p (.dK us)) := by
  rcases a with a | a
  · intro vs p H' s hp e r
    have h' := h.same s
    exact a _ _ (s.trans (same_new hp)) (.dk (h'.fz hp) e (r.mono (Go.same (same_new hp))))
  · exact a
theorem Af.dt {kvs : List (List Key × D)} (h : RH K m H hs) (a : Af K m H (.dt kvs) Q) : ∀ (us : List (List Key × V)) p H', Same H H' → H' p = none → us.map (·.1) = kvs.map (·.1) → Reps K m H' (us.map (·.2)) (kvs.map (·.2)) → Q (.ref p) (upd H' p (.dT us)) := by
  rcases a with a | a
  · intro vs p H' s hp e r
    have h' := h.same s
    exact a _ _ (s.trans (same_new hp)) (.dt (h'.fz hp) e (r.mono (Go.same (same_new hp))))
  · exact a
theorem Af.tup {ds : List D} (h : RH K m H hs) (a : Af K m H (.tup ds) Q) : ∀ vs p H', Same H H' → H' p = none → Reps K m H' vs ds → Q (.ref p) (upd H' p (.tup vs)) := by
  rcases a with a | a
  · intro vs p H' s hp r
    have h' := h.same s
    exact a _ _ (s.trans (same_new hp)) (.tup (h'.fz hp) (r.mono (Go.same (same_new hp))))
  · exact a.elim
theorem Af.n {d : D} (a : Af K m H d Q) (hd : match d with | .lst _ => False | .dk _ => False | .dt _ => False | _ => True) : AfN K m H d Q := by
  rcases a with a | a
  · exact a
  · cases d <;> first | exact a.elim | exact hd.elim
theorem Af.int {i : Int} (a : Af K m H (.int i) Q) : Q (.int i) H := (a.n trivial) _ _ (Same.refl H) (.int i)
theorem Af.bl {i : Bool} (a : Af K m H (.bl i) Q) : Q (.bl i) H := (a.n trivial) _ _ (Same.refl H) (.bl i)
theorem Af.str {i : Str} (a : Af K m H (.str i) Q) : Q (.str i) H := (a.n trivial) _ _ (Same.refl H) (.str i)
end
theorem chk_some {α : Type} {c : Prop} {x y : α} (h : chk c x = some y) : c ∧ x = y := by
  unfold chk at h
  split at h
  · exact ⟨by assumption, Option.some.inj h⟩
  · cases h
@[simp] theorem chk_pos {α : Type} {c : Prop} {x : α} (h : c) : chk c x = some x := by
  unfold chk
  rw [if_pos h]
def bopOf : Bop → Operator
  | .add => .Add | .sub => .Sub | .mul => .Mult | .fdiv => .FloorDiv | .mod => .Mod | .pow => .Pow
def copOf : Cop → CmpOp
  | .eq => .Eq | .ne => .NotEq | .lt => .Lt | .le => .LtE | .gt => .Gt | .ge => .GtE | .is => .Is | .isnt => .IsNot | .isin => .In | .notin => .NotIn

section
variable {X : Cx}
def rBin (K : PySem.W.Frag) (op : Bop) : R2 := fun x y H Q => ∃ m hs dx dy d, RH K m H hs ∧ Rep K m H x dx ∧ Rep K m H y dy ∧ binD hs op dx dy = some d ∧ Af K m H d Q
theorem rep_int {K : PySem.W.Frag} {m : Mp} {H : Hp} {v : V} {i : Int} (r : Rep K m H v (.int i)) : v = .int i := by cases r; rfl
theorem rep_bl {K : PySem.W.Frag} {m : Mp} {H : Hp} {v : V} {i : Bool} (r : Rep K m H v (.bl i)) : v = .bl i := by cases r; rfl
theorem rep_str {K : PySem.W.Frag} {m : Mp} {H : Hp} {v : V} {i : Str} (r : Rep K m H v (.str i)) : v = .str i := by cases r; rfl
theorem rep_tup {K : PySem.W.Frag} {m : Mp} {H : Hp} {v : V} {ds : List D} (r : Rep K m H v (.tup ds)) : ∃ a vs, v = .ref a ∧ H a = some (.tup vs) ∧ Reps K m H vs ds ∧ a ∉ m := by
  cases r with
  | tup f q => exact ⟨_, _, rfl, f.1, q, f.2⟩
theorem op_bin (op : Bop) : OpR X (binaryOp (bopOf op)) (rBin X.K op) := by
  intro pins s σ H x y v u Q I rx ry h
  obtain ⟨m, hs, dx, dy, d, hR, hx, hy, hd, af⟩ := h
  unfold binD at hd
  split at hd
  · cases rep_int hx
    cases rep_int hy
    cases hd
    exact op_add pins s σ H _ _ v u Q I rx ry ⟨_, _, rfl, rfl, af.int⟩
  · cases rep_int hx
    cases rep_int hy
    cases hd
    exact op_sub pins s σ H _ _ v u Q I rx ry ⟨_, _, rfl, rfl, af.int⟩
  · cases rep_int hx
    cases rep_int hy
    obtain ⟨hc, rfl⟩ := chk_some hd
    exact op_mul pins s σ H _ _ v u Q I rx ry ⟨_, _, rfl, rfl, hc, af.int⟩
  · cases rep_int hx
    cases rep_int hy
    obtain ⟨hc, rfl⟩ := chk_some hd
    exact op_fdiv pins s σ H _ _ v u Q I rx ry ⟨_, _, rfl, rfl, hc, af.int⟩
  · cases rep_int hx
    cases rep_int hy
    obtain ⟨hc, rfl⟩ := chk_some hd
    exact op_mod pins s σ H _ _ v u Q I rx ry ⟨_, _, rfl, rfl, hc, af.int⟩
  · cases rep_int hx
    cases rep_int hy
    obtain ⟨hc, rfl⟩ := chk_some hd
    exact op_pow pins s σ H _ _ v u Q I rx ry ⟨_, _, rfl, rfl, hc, af.int⟩
  · obtain ⟨a, vs, rfl, ea, ra, na⟩ := rep_tup hx
    obtain ⟨b, ws, rfl, eb, rb, nb⟩ := rep_tup hy
    obtain ⟨hc, rfl⟩ := chk_some hd
    refine op_catA pins s σ H _ _ v u Q I rx ry ⟨a, b, vs, ws, rfl, rfl, .of ea, .of eb, by rw [ra.length, rb.length]; exact hc, fun e => ?_, fun _ e => ?_, fun _ _ p hp => ?_⟩
    · subst e
      cases ra
      exact (af.n trivial) _ _ (Same.refl H) (.tup ⟨eb, nb⟩ rb)
    · subst e
      cases rb
      rw [List.append_nil] at af
      exact (af.n trivial) _ _ (Same.refl H) (.tup ⟨ea, na⟩ ra)
    · exact af.tup hR _ _ _ (Same.refl H) hp (ra.app rb)
  · split at hd
    · rename_i e1 e2
      obtain ⟨a, vs, rfl, ea, ra⟩ := hR.getL hx e1
      obtain ⟨b, ws, rfl, eb, rb⟩ := hR.getL hy e2
      obtain ⟨hc, rfl⟩ := chk_some hd
      exact op_cat pins s σ H _ _ v u Q I rx ry ⟨a, b, vs, ws, rfl, rfl, ea, eb, by rw [ra.length, rb.length]; exact hc, fun p hp => af.lst hR _ _ _ (Same.refl H) hp (ra.app rb)⟩
    · cases hd
  · split at hd
    · rename_i e1
      obtain ⟨a, vs, rfl, ea, ra⟩ := hR.getL hx e1
      cases rep_int hy
      obtain ⟨hc, rfl⟩ := chk_some hd
      exact op_rep pins s σ H _ _ v u Q I rx ry ⟨a, _, vs, rfl, rfl, ea, hc.1, hc.2.1, by rw [ra.length]; exact hc.2.2, fun p hp => af.lst hR _ _ _ (Same.refl H) hp (ra.flat _)⟩
    · cases hd
  · cases hd

/-! ### comparisons -/
def rCmp (K : PySem.W.Frag) (op : Cop) : R2 := fun x y H Q => ∃ m hs dx dy b, RH K m H hs ∧ Rep K m H x dx ∧ Rep K m H y dy ∧ cmpD hs op dx dy = some b ∧ Q (.bl b) H
theorem py_depth {hs : Hs} : ∀ (n : Nat) {d : D} {p : PyData}, py hs n d = some p → p.depth ≤ n
  | n, .non, _, e => by cases n <;> (simp only [py] at e; cases e; simp [PyData.depth])
  | n, .bl b, _, e => by cases n <;> (simp only [py] at e; cases e; simp [PyData.depth])
  | n, .int b, _, e => by cases n <;> (simp only [py] at e; cases e; simp [PyData.depth])
  | n, .str b, _, e => by cases n <;> (simp only [py] at e; cases e; simp [PyData.depth])
  | 0, .tup _, _, e => by simp only [py] at e; cases e
  | 0, .lst _, _, e => by simp only [py] at e; cases e
  | 0, .dk _, _, e => by simp only [py] at e; cases e
  | 0, .dt _, _, e => by simp only [py] at e; cases e
  | 0, .ref _, _, e => by simp only [py] at e; cases e
  | 0, .scr _, _, e => by simp only [py] at e; cases e
  | n + 1, .tup xs, p, e => by
    simp only [py] at e
    obtain ⟨ps, e1, rfl⟩ := Option.map_eq_some_iff.mp e
    have := all n xs ps e1
    simp only [PyData.depth]
    omega
  | n + 1, .lst xs, p, e => by
    simp only [py] at e
    obtain ⟨ps, e1, rfl⟩ := Option.map_eq_some_iff.mp e
    have := all n xs ps e1
    simp only [PyData.depth]
    omega
  | n + 1, .dk _, _, e => by simp only [py] at e; cases e
  | n + 1, .dt _, _, e => by simp only [py] at e; cases e
  | n + 1, .scr _, _, e => by simp only [py] at e; cases e
  | n + 1, .ref k, p, e => by
    simp only [py] at e
    split at e
    · obtain ⟨ps, e1, rfl⟩ := Option.map_eq_some_iff.mp e
      have := all n _ ps e1
      simp only [PyData.depth]
      omega
    · cases e
where all (n : Nat) : ∀ (xs : List D) (ps : List PyData), xs.mapM (py hs n) = some ps → PyData.depthAll ps ≤ n
  | [], ps, e => by simp at e; subst e; simp [PyData.depthAll]
  | x :: xs, ps, e => by
    simp only [List.mapM_cons, Option.bind_eq_bind, Option.pure_def] at e
    obtain ⟨p, e1, e⟩ := Option.bind_eq_some_iff.mp e
    obtain ⟨qs, e2, e⟩ := Option.bind_eq_some_iff.mp e
    cases e
    have h1 := py_depth n e1
    have h2 := all n xs qs e2
    simp only [PyData.depthAll]
    omega
theorem shaped_py {hs : Hs} {d : D} {p : PyData} (e : py hs 60 d = some p) (h : p.canLay0 = true) : SeqAt.shaped p = true := by
  unfold SeqAt.shaped
  rw [h, decide_eq_true (Nat.le_trans (py_depth 60 e) (by decide))]
  rfl

theorem kV_rep {K : PySem.W.Frag} {m : Mp} {H : Hp} {v : V} {d : D} {k : Key} (r : Rep K m H v d) (e : keyOf d = some k) : v = kV k := by
  cases r <;> simp only [keyOf] at e <;> first
    | (cases e; rfl)
    | cases e
theorem kVs_rep {K : PySem.W.Frag} {m : Mp} {H : Hp} : ∀ {vs : List V} {ds : List D} {ks : List Key}, Reps K m H vs ds → ds.mapM keyOf = some ks → vs = ks.map kV
  | _, _, _, .nil, e => by simp at e; subst e; rfl
  | _, _, _, .cons r t, e => by
    simp only [List.mapM_cons, Option.bind_eq_bind, Option.pure_def] at e
    obtain ⟨p, e1, e⟩ := Option.bind_eq_some_iff.mp e
    obtain ⟨qs, e2, e⟩ := Option.bind_eq_some_iff.mp e
    cases e
    rw [List.map_cons, kV_rep r e1, kVs_rep t e2]
theorem keys_rep {K : PySem.W.Frag} {m : Mp} {H : Hp} {v : V} {d : D} {ks : List Key} (r : Rep K m H v d) (e : keysOf d = some ks) : ∃ b, v = .ref b ∧ H b = some (.tup (ks.map kV)) := by
  cases r <;> simp only [keysOf] at e <;> first
    | cases e
    | skip
  rename_i f q
  rw [← kVs_rep q e]
  exact ⟨_, rfl, f.1⟩
theorem look_rep {κ : Type} [DecidableEq κ] {K : PySem.W.Frag} {m : Mp} {H : Hp} (k : κ) : ∀ {us : List (κ × V)} {kvs : List (κ × D)}, us.map (·.1) = kvs.map (·.1) → Reps K m H (us.map (·.2)) (kvs.map (·.2)) →
    (∃ v d, valV us k = some v ∧ look kvs k = some d ∧ Rep K m H v d) ∨ (valV us k = none ∧ look kvs k = none)
  | [], [], _, _ => .inr ⟨rfl, rfl⟩
  | [], _ :: _, e, _ => by simp at e
  | _ :: _, [], e, _ => by simp at e
  | u :: us, p :: kvs, e, r => by
    simp only [List.map_cons, List.cons.injEq] at e
    cases r with
    | cons a t =>
      by_cases h : p.1 = k
      · refine .inl ⟨u.2, p.2, valV_pos (e.1.trans h), ?_, a⟩
        simp [look, List.find?_cons, h]
      · rw [valV_neg (fun z => h (e.1.symm.trans z))]
        have : look (p :: kvs) k = look kvs k := by simp [look, List.find?_cons, h]
        rw [this]
        exact look_rep k e.2 t
theorem look_some {κ : Type} [DecidableEq κ] {K : PySem.W.Frag} {m : Mp} {H : Hp} {k : κ} {us : List (κ × V)} {kvs : List (κ × D)} (e : us.map (·.1) = kvs.map (·.1)) (r : Reps K m H (us.map (·.2)) (kvs.map (·.2))) {d : D}
    (h : look kvs k = some d) : ∃ v, valV us k = some v ∧ Rep K m H v d := by
  rcases look_rep k e r with ⟨v, d', h1, h2, h3⟩ | ⟨h1, h2⟩
  · rw [h] at h2
    cases h2
    exact ⟨v, h1, h3⟩
  · rw [h] at h2
    cases h2
theorem look_is {κ : Type} [DecidableEq κ] {K : PySem.W.Frag} {m : Mp} {H : Hp} {k : κ} {us : List (κ × V)} {kvs : List (κ × D)} (e : us.map (·.1) = kvs.map (·.1)) (r : Reps K m H (us.map (·.2)) (kvs.map (·.2))) :
    (valV us k).isSome = (look kvs k).isSome := by
  rcases look_rep k e r with ⟨v, d', h1, h2, h3⟩ | ⟨h1, h2⟩
  · rw [h1, h2]
    rfl
  · rw [h1, h2]; rfl
/-- a dict of the one kind, of the other -/
theorem RH.getDk {K : PySem.W.Frag} {m : Mp} {H : Hp} {hs : Hs} (h : RH K m H hs) {v : V} {d : D} {kvs : List (Key × D)} (r : Rep K m H v d) (e : getDk hs d = some kvs) :
    ∃ a us, v = .ref a ∧ H a = some (.dK us) ∧ us.map (·.1) = kvs.map (·.1) ∧ Reps K m H (us.map (·.2)) (kvs.map (·.2)) := by
  cases r with
  | dk f q w => cases e; exact ⟨_, _, rfl, f.1, q, w⟩
  | @ref a n em =>
    simp only [Z.getDk] at e
    split at e
    · cases e
      rename_i xs he
      obtain ⟨a', e1, us, e2, q, w⟩ := h.ob _ _ he
      rw [em] at e1
      cases e1
      exact ⟨_, _, rfl, e2, q, w⟩
    · cases e
  | _ => cases e
theorem RH.getDt {K : PySem.W.Frag} {m : Mp} {H : Hp} {hs : Hs} (h : RH K m H hs) {v : V} {d : D} {kvs : List (List Key × D)} (r : Rep K m H v d) (e : getDt hs d = some kvs) :
    ∃ a us, v = .ref a ∧ H a = some (.dT us) ∧ us.map (·.1) = kvs.map (·.1) ∧ Reps K m H (us.map (·.2)) (kvs.map (·.2)) := by
  cases r with
  | dt f q w => cases e; exact ⟨_, _, rfl, f.1, q, w⟩
  | @ref a n em =>
    simp only [Z.getDt] at e
    split at e
    · cases e
      rename_i xs he
      obtain ⟨a', e1, us, e2, q, w⟩ := h.ob _ _ he
      rw [em] at e1
      cases e1
      exact ⟨_, _, rfl, e2, q, w⟩
    · cases e
  | _ => cases e

theorem is_ref {v : V} {a : Addr} (e : v = .ref a) : decide (v = V.non) = false := by subst e; rfl
theorem op_is_n {K : PySem.W.Frag} {m : Mp} {H : Hp} {hs : Hs} {x y : D} {vx vy : V} {b : Bool} (hx : Rep K m H vx x) (hy : Rep K m H vy y) (h : cmpD hs .is x y = some b) :
    (vy = .non ∧ b = decide (vx = .non)) ∨ ∃ p q, vx = .bl p ∧ vy = .bl q ∧ b = decide (p = q) := by
  simp only [cmpD] at h
  split at h <;> first
    | (cases h; cases hy; cases hx; exact .inl ⟨rfl, rfl⟩)
    | (cases h; cases hy; cases hx; exact .inr ⟨_, _, rfl, rfl, rfl⟩)
    | cases h
theorem op_isnt_n {K : PySem.W.Frag} {m : Mp} {H : Hp} {hs : Hs} {x y : D} {vx vy : V} {b : Bool} (hx : Rep K m H vx x) (hy : Rep K m H vy y) (h : cmpD hs .isnt x y = some b) :
    (vy = .non ∧ b = !decide (vx = .non)) ∨ ∃ p q, vx = .bl p ∧ vy = .bl q ∧ b = !decide (p = q) := by
  simp only [cmpD] at h
  split at h <;> first
    | (cases h; cases hy; cases hx; exact .inl ⟨rfl, rfl⟩)
    | (cases h; cases hy; cases hx; exact .inr ⟨_, _, rfl, rfl, rfl⟩)
    | cases h
theorem strs2_some {x y : D} {p : Str × Str} (h : strs2 x y = some p) : ∃ a b, x = .str a ∧ y = .str b ∧ p = (a, b) := by
  unfold strs2 at h
  split at h
  · cases h
    exact ⟨_, _, rfl, rfl, rfl⟩
  · cases h
theorem str_beq {a b : Str} : decide (a = b) = (a == b) := by
  rw [Bool.eq_iff_iff]
  simp
theorem op_cmp (hu : X.A.units + 66 < cLine) (op : Cop) : OpR X (compareOp (copOf op)) (rCmp X.K op) := by
  intro pins s σ H x y v u Q I rx ry h
  obtain ⟨m, hs, dx, dy, b, hR, hx, hy, hd, q⟩ := h
  cases op with
  | eq =>
    simp only [cmpD] at hd
    split at hd
    · rename_i p ep
      cases hd
      obtain ⟨z1, z2, rfl, rfl, rfl⟩ := strs2_some ep
      cases rep_str hx
      cases rep_str hy
      refine op_eq pins s σ H _ _ v u Q I rx ry ⟨rfl, ?_⟩
      rw [dec_str]
      rw [← str_beq]
      exact q
    · split at hd
      · rename_i p p' e1 e2
        obtain ⟨hc, rfl⟩ := chk_some hd
        exact op_eqD (by omega) pins s σ H x y v u Q I rx ry ⟨p, p', py_dp hR _ hx e1, py_dp hR _ hy e2, shaped_py e1 hc.1, shaped_py e2 hc.2, q⟩
      · cases hd
  | ne =>
    simp only [cmpD] at hd
    split at hd
    · rename_i p ep
      cases hd
      obtain ⟨z1, z2, rfl, rfl, rfl⟩ := strs2_some ep
      cases rep_str hx
      cases rep_str hy
      refine op_ne pins s σ H _ _ v u Q I rx ry ⟨rfl, ?_⟩
      rw [dec_str]
      rw [← str_beq]
      exact q
    · split at hd
      · rename_i p p' e1 e2
        obtain ⟨hc, rfl⟩ := chk_some hd
        exact op_neD (by omega) pins s σ H x y v u Q I rx ry ⟨p, p', py_dp hR _ hx e1, py_dp hR _ hy e2, shaped_py e1 hc.1, shaped_py e2 hc.2, q⟩
      · cases hd
  | lt =>
    simp only [cmpD] at hd
    split at hd
    · cases rep_int hx
      cases rep_int hy
      cases hd
      exact op_lt pins s σ H _ _ v u Q I rx ry ⟨_, _, rfl, rfl, q⟩
    · cases hd
  | le =>
    simp only [cmpD] at hd
    split at hd
    · cases rep_int hx
      cases rep_int hy
      cases hd
      exact op_le pins s σ H _ _ v u Q I rx ry ⟨_, _, rfl, rfl, q⟩
    · cases hd
  | gt =>
    simp only [cmpD] at hd
    split at hd
    · cases rep_int hx
      cases rep_int hy
      cases hd
      exact op_gt pins s σ H _ _ v u Q I rx ry ⟨_, _, rfl, rfl, q⟩
    · cases hd
  | ge =>
    simp only [cmpD] at hd
    split at hd
    · cases rep_int hx
      cases rep_int hy
      cases hd
      exact op_ge pins s σ H _ _ v u Q I rx ry ⟨_, _, rfl, rfl, q⟩
    · split at hd
      · rename_i p p' e1 e2
        obtain ⟨hc, rfl⟩ := chk_some hd
        obtain ⟨as, r1⟩ := Dp.reads I p x v (py_dp hR _ hx e1) rx
        obtain ⟨bs, r2⟩ := Dp.reads I p' y u (py_dp hR _ hy e2) ry
        have h1 := py_depth 60 e1
        have hm : min p.depth p'.depth ≤ p.depth := Nat.min_le_left _ _
        refine PySem.W.ge_data r1 r2 hc (fun z => ?_) (by omega) ⟨.bl _, H, I, rfl, q⟩
        subst z
        simp only [py] at e1
        cases hq : List.mapM (py hs 59) _ with
        | none => rw [hq] at e1; cases e1
        | some l => rw [hq] at e1; cases e1
      · cases hd
    · cases hd
  | is =>
    rcases op_is_n hx hy hd with ⟨e, rfl⟩ | ⟨p, p', rfl, rfl, rfl⟩
    · exact op_isN pins s σ H _ _ v u Q I rx ry ⟨e, q⟩
    · exact op_is_bl pins s σ H _ _ v u Q I rx ry ⟨_, _, rfl, rfl, q⟩
  | isnt =>
    rcases op_isnt_n hx hy hd with ⟨e, rfl⟩ | ⟨p, p', rfl, rfl, rfl⟩
    · exact op_notN pins s σ H _ _ v u Q I rx ry ⟨e, q⟩
    · exact op_isnot_bl pins s σ H _ _ v u Q I rx ry ⟨_, _, rfl, rfl, q⟩
  | isin =>
    simp only [cmpD] at hd
    split at hd
    · rename_i kvs _ e1
      obtain ⟨k, ek, rfl⟩ := Option.map_eq_some_iff.mp hd
      obtain ⟨a, us, rfl, ea, eq, er⟩ := hR.getDk hy e1
      obtain rfl := kV_rep hx ek
      cases ry
      refine d_in (o := valV us k) (by omega) I (DGet.k ea) rx fun s' I' => ⟨.bl _, H, I', rfl, ?_⟩
      rw [look_is eq er]
      exact q
    · rename_i kvs e2 _
      obtain ⟨k, ek, rfl⟩ := Option.map_eq_some_iff.mp hd
      obtain ⟨a, us, rfl, ea, eq, er⟩ := hR.getDt hy e2
      obtain ⟨b, rfl, eb⟩ := keys_rep hx ek
      cases ry
      refine d_in (o := valV us k) (by omega) I (DGet.t ea eb) rx fun s' I' => ⟨.bl _, H, I', rfl, ?_⟩
      rw [look_is eq er]
      exact q
    · split at hd
      · rename_i e1 e2 e3
        obtain ⟨hc, rfl⟩ := chk_some hd
        obtain ⟨as, r1⟩ := Dp.reads I _ x v (py_dp hR _ hx e3) rx
        obtain ⟨bs, r2⟩ := Dp.reads I _ y u (py_dp hR _ hy e2) ry
        exact SeqAt.in_list_reads r2 r1 hc.1 hc.2 (by have := py_depth 60 e3; omega) ⟨.bl _, H, I, rfl, q⟩
      · rename_i e1 e2 e3
        obtain ⟨hc, rfl⟩ := chk_some hd
        obtain ⟨as, r1⟩ := Dp.reads I _ x v (py_dp hR _ hx e3) rx
        obtain ⟨bs, r2⟩ := Dp.reads I _ y u (py_dp hR _ hy e2) ry
        exact SeqAt.in_tuple_reads r2 r1 hc.1 hc.2 (by have := py_depth 60 e3; omega) ⟨.bl _, H, I, rfl, q⟩
      · cases hd
  | notin =>
    simp only [cmpD] at hd
    split at hd
    · rename_i kvs _ e1
      obtain ⟨k, ek, rfl⟩ := Option.map_eq_some_iff.mp hd
      obtain ⟨a, us, rfl, ea, eq, er⟩ := hR.getDk hy e1
      obtain rfl := kV_rep hx ek
      cases ry
      refine d_notIn (o := valV us k) (by omega) I (DGet.k ea) rx fun s' I' => ⟨.bl _, H, I', rfl, ?_⟩
      rw [look_is eq er]
      exact q
    · rename_i kvs e2 _
      obtain ⟨k, ek, rfl⟩ := Option.map_eq_some_iff.mp hd
      obtain ⟨a, us, rfl, ea, eq, er⟩ := hR.getDt hy e2
      obtain ⟨b, rfl, eb⟩ := keys_rep hx ek
      cases ry
      refine d_notIn (o := valV us k) (by omega) I (DGet.t ea eb) rx fun s' I' => ⟨.bl _, H, I', rfl, ?_⟩
      rw [look_is eq er]
      exact q
    · split at hd
      · rename_i e1 e2 e3
        obtain ⟨hc, rfl⟩ := chk_some hd
        obtain ⟨as, r1⟩ := Dp.reads I _ x v (py_dp hR _ hx e3) rx
        obtain ⟨bs, r2⟩ := Dp.reads I _ y u (py_dp hR _ hy e2) ry
        exact SeqAt.notIn_list_reads r2 r1 hc.1 hc.2 (by have := py_depth 60 e3; omega) ⟨.bl _, H, I, rfl, q⟩
      · rename_i e1 e2 e3
        obtain ⟨hc, rfl⟩ := chk_some hd
        obtain ⟨as, r1⟩ := Dp.reads I _ x v (py_dp hR _ hx e3) rx
        obtain ⟨bs, r2⟩ := Dp.reads I _ y u (py_dp hR _ hy e2) ry
        exact SeqAt.notIn_tuple_reads r2 r1 hc.1 hc.2 (by have := py_depth 60 e3; omega) ⟨.bl _, H, I, rfl, q⟩
      · cases hd
end
end Z

set_option Elab.async false
set_option linter.all false
set_option maxRecDepth 100000
set_option maxHeartbeats 4000000
/-! Z3e: sorted over what can be collected -/
namespace Z
open PySem PySem.Spec PyProof.Rows L2
section
variable {prog : Program} {w : World} {A : Around} {E : Value → Shared → Prop} {s : Shared}
/-- x can be gathered: its items are vs -/
def Gath (prog : Program) (w : World) (A : Around) (s : Shared) (x : Value) (vs : List Value) : Prop :=
  ∀ (Q' : List Value → Shared → Prop) (E' : Value → Shared → Prop), (∀ h' : Heap, (∀ b o, s.heap.get? b = some o → h'.get? b = some o) → Q' vs { s with heap := h' }) → wpAny (model prog w) A (collect x) Q' E' s
theorem gath_seq {a : Addr} {T : String} {o : Obj} {items : Array Value} {n : Nat} (hT : T = "list" ∨ T = "tuple") (ho : s.heap.get? a = some o) (hc : o.cls = .type T) (hd : o.data = .seq items n) (hz : items.size ≤ sizeLine) : Gath prog w A s (.ref a) items.toList :=
  fun _ _ h => wpAny_collect_seq a hT ho hc hd h hz
theorem sorted_gath {β : Type} {R : Value → β → Prop} {enc : β → PyData} {bs : List β} {x : Value} {vs : List Value} {Q : Value → Shared → Prop} (g : Gath prog w A.in1 s x vs) (e : PySem.W.EachIs R vs bs)
    (er : PySem.W.EachIs (fun v b => ∃ as, Reads s.heap v (enc b) as) vs bs) (hal : PySem.W.AllAlike (bs.map enc)) (hk : PySem.W.Sortable (bs.map enc)) (hL : bs.length ≤ sizeLine) (hu : ∀ b, b ∈ bs → A.units + 2 + (enc b).depth < cLine)
    (h : ∀ (h' : Heap) (out : List Value), (∀ b o, s.heap.get? b = some o → h'.get? b = some o) → out.length = bs.length → PySem.W.EachIs R out (bs.mergeSort (PySem.W.dataLe false enc)) →
      Q (.ref h'.objs.size) { s with heap := sortedHeap (h'.push (PyProof.Rows.seqObj "list" vs.toArray 0)) h'.objs.size vs out.toArray }) :
    wpAny (model prog w) A (call (.builtin "sorted") [x]) Q E s := by
  have hvl : vs.length ≤ sizeLine := by rw [e.length]; exact hL
  refine call_function_entry_kw kind_sorted plain_sorted entry_sorted (args_sorted1 _) ?_
  unfold Builtin.«sorted»
  refine wpAny_bind (m := checkCount "sorted" 1 1 _) (wpAny_pure ?_)
  refine wpAny_bind (g _ _ fun h' keep => ?_)
  refine wpAny_bind (wpAny_newList ?_ hvl)
  have at0 : (h'.push (PyProof.Rows.seqObj "list" vs.toArray 0)).get? h'.objs.size = some (PyProof.Rows.seqObj "list" vs.toArray 0) := Heap.get?_push_size _ rfl
  refine wpAny_bind (wpAny_holding (wpAny_call_entry_kw slot_list_sort ⟨_, at0, rfl⟩ entry_list_sort ?body (args_list_sort _)))
  case body =>
    have er' : PySem.W.EachIs (fun v b => ∃ as, Reads (PySem.W.sortingHeap (h'.push (PyProof.Rows.seqObj "list" vs.toArray 0)) h'.objs.size vs) v (enc b) as) vs bs :=
      er.mono fun _ _ ⟨as, r⟩ => ⟨as, PyProof.Rows.Reads.keeps (fun b o q => PySem.W.sortingHeap_old (Nat.ne_of_lt (Heap.lt_size (keep b o q))) (Heap.get?_push_of_some _ (keep b o q))) r⟩
    refine wpAny_mono (PySem.W.list_sort_vals (P := fun f s2 => f = .done (.ret .none) ∧ Q (.ref h'.objs.size) s2) (s := { s with heap := h'.push (PyProof.Rows.seqObj "list" vs.toArray 0) }) at0
      (PySem.W.SortsAt.data (s := { s with heap := PySem.W.sortingHeap (h'.push (PyProof.Rows.seqObj "list" vs.toArray 0)) h'.objs.size vs }) (PySem.W.each_map (R := fun v d => ∃ as, Reads (PySem.W.sortingHeap (h'.push (PyProof.Rows.seqObj "list" vs.toArray 0)) h'.objs.size vs) v d as) enc er') hal hk (PySem.W.bound_map hu)) hvl
      ⟨rfl, h h' _ keep (by rw [PySem.W.sortVals_length false rfl]; exact e.length) (PySem.W.sortVals_data false e er' hal)⟩) (fun f s' hf => ?_) fun _ _ e => e
    obtain ⟨rfl, hq⟩ := hf
    exact ⟨_, rfl, wpAny_pure ⟨_, rfl, hq⟩⟩
end
end Z

set_option Elab.async false
set_option linter.all false
set_option maxRecDepth 100000
set_option maxHeartbeats 4000000
/-! Z3b: the built-in functions -/
namespace Z
open PySem PySem.Spec PyProof.Rows L2
def biV : Bi → Value
  | .len => .builtin "len" | .abs => .builtin "abs" | .int1 => .type "int" | .max1 => .builtin "max" | .min1 => .builtin "min" | .max2 => .builtin "max" | .min2 => .builtin "min"
  | .sum => .builtin "sum" | .all => .builtin "all" | .any => .builtin "any" | .list => .type "list" | .tuple => .type "tuple" | .repr => .builtin "repr" | .sorted => .builtin "sorted"
  | .dictc => .type "dict" | .dictp => .type "dict" | .isa _ => .builtin "isinstance" | .vals => .type "list" | .lrng => .type "list" | .mind => .builtin "min" | .maxd => .builtin "max"
def isIsa : Bi → Bool
  | .isa _ => true
  | .vals => true
  | .lrng => true
  | _ => false
theorem maxI_spec : ∀ (l : List Int) (a : Int), maxI a l ∈ a :: l ∧ ∀ y ∈ a :: l, y ≤ maxI a l
  | [], a => by simp [maxI]
  | b :: r, a => by
    obtain ⟨h1, h2⟩ := maxI_spec r (max a b)
    simp only [maxI]
    refine ⟨?_, fun y hy => ?_⟩
    · rcases List.mem_cons.mp h1 with h | h
      · rw [h]
        rcases Int.le_total a b with q | q
        · rw [Int.max_eq_right q]; simp
        · rw [Int.max_eq_left q]; simp
      · simp [h]
    · have hm := h2 _ List.mem_cons_self
      rcases List.mem_cons.mp hy with rfl | hy
      · exact Int.le_trans (Int.le_max_left _ _) hm
      · rcases List.mem_cons.mp hy with rfl | hy
        · exact Int.le_trans (Int.le_max_right _ _) hm
        · exact h2 y (List.mem_cons_of_mem _ hy)
theorem minI_spec : ∀ (l : List Int) (a : Int), minI a l ∈ a :: l ∧ ∀ y ∈ a :: l, minI a l ≤ y
  | [], a => by simp [minI]
  | b :: r, a => by
    obtain ⟨h1, h2⟩ := minI_spec r (min a b)
    simp only [minI]
    refine ⟨?_, fun y hy => ?_⟩
    · rcases List.mem_cons.mp h1 with h | h
      · rw [h]
        rcases Int.le_total a b with q | q
        · rw [Int.min_eq_left q]; simp
        · rw [Int.min_eq_right q]; simp
      · simp [h]
    · have hm := h2 _ List.mem_cons_self
      rcases List.mem_cons.mp hy with rfl | hy
      · exact Int.le_trans hm (Int.min_le_left _ _)
      · rcases List.mem_cons.mp hy with rfl | hy
        · exact Int.le_trans hm (Int.min_le_right _ _)
        · exact h2 y (List.mem_cons_of_mem _ hy)
section
variable {K : PySem.W.Frag} {m : Mp} {H : Hp}
theorem ints_rep : ∀ {vs : List V} {ds : List D} {ns : List Int}, Reps K m H vs ds → intsD ds = some ns → vs = ns.map V.int
  | _, _, _, .nil, e => by simp [intsD] at e; subst e; rfl
  | _, _, _, .cons (.int i) t, e => by
    simp only [intsD] at e
    obtain ⟨r, e1, rfl⟩ := Option.map_eq_some_iff.mp e
    rw [List.map_cons, ints_rep t e1]
  | _, _, _, .cons .non _, e => by simp [intsD] at e
  | _, _, _, .cons (.bl _) _, e => by simp [intsD] at e
  | _, _, _, .cons (.str _) _, e => by simp [intsD] at e
  | _, _, _, .cons (.tup _ _) _, e => by simp [intsD] at e
  | _, _, _, .cons (.lst _ _) _, e => by simp [intsD] at e
  | _, _, _, .cons (.dk _ _ _) _, e => by simp [intsD] at e
  | _, _, _, .cons (.dt _ _ _) _, e => by simp [intsD] at e
  | _, _, _, .cons (.ref _) _, e => by simp [intsD] at e
  | _, _, _, .cons (.scr _) _, e => by simp [intsD] at e
theorem bools_rep : ∀ {vs : List V} {ds : List D} {ns : List Bool}, Reps K m H vs ds → boolsD ds = some ns → vs = ns.map V.bl
  | _, _, _, .nil, e => by simp [boolsD] at e; subst e; rfl
  | _, _, _, .cons (.bl i) t, e => by
    simp only [boolsD] at e
    obtain ⟨r, e1, rfl⟩ := Option.map_eq_some_iff.mp e
    rw [List.map_cons, bools_rep t e1]
  | _, _, _, .cons .non _, e => by simp [boolsD] at e
  | _, _, _, .cons (.int _) _, e => by simp [boolsD] at e
  | _, _, _, .cons (.str _) _, e => by simp [boolsD] at e
  | _, _, _, .cons (.tup _ _) _, e => by simp [boolsD] at e
  | _, _, _, .cons (.lst _ _) _, e => by simp [boolsD] at e
  | _, _, _, .cons (.dk _ _ _) _, e => by simp [boolsD] at e
  | _, _, _, .cons (.dt _ _ _) _, e => by simp [boolsD] at e
  | _, _, _, .cons (.ref _) _, e => by simp [boolsD] at e
  | _, _, _, .cons (.scr _) _, e => by simp [boolsD] at e
end
def rBi (K : PySem.W.Frag) (f : Bi) : List V → Hp → VK → Prop := fun xs H Q => ∃ m hs ds d, RH K m H hs ∧ Reps K m H xs ds ∧ biD hs f ds = some d ∧ Af K m H d Q
section
variable {X : Cx}
/-- sorted -/
theorem reps_of {K : PySem.W.Frag} {m : Mp} {H : Hp} {β : Type} (f : β → V) (g : β → D) : ∀ {bs : List β}, (∀ b ∈ bs, Rep K m H (f b) (g b)) → Reps K m H (bs.map f) (bs.map g)
  | [], _ => .nil
  | b :: bs, h => .cons (h b List.mem_cons_self) (reps_of f g fun c hc => h c (List.mem_cons_of_mem _ hc))
theorem each_vals {β : Type} (f : β → V) : ∀ {us : List Value} {bs : List β}, PySem.W.EachIs (fun u b => RelV (f b) u) us bs → Vals (bs.map f) us
  | _, _, .nil => .nil
  | _, _, .cons h t => .cons h (each_vals f t)
theorem trip {K : PySem.W.Frag} {m : Mp} {H : Hp} {hs : Hs} (hR : RH K m H hs) (n : Nat) : ∀ (vs : List V) (ds : List D) (ps : List PyData) (us : List Value), Reps K m H vs ds → ds.mapM (py hs n) = some ps → Vals vs us →
    ∃ bs : List (V × D × PyData), bs.map (·.1) = vs ∧ bs.map (·.2) = ds.zip ps ∧ bs.map (·.2.2) = ps ∧ (∀ b ∈ bs, Rep K m H b.1 b.2.1 ∧ Dp K H b.1 b.2.2 ∧ py hs n b.2.1 = some b.2.2) ∧ PySem.W.EachIs (fun u b => RelV b.1 u) us bs
  | [], [], _, [], .nil, e, .nil => by
    simp at e
    subst e
    exact ⟨[], rfl, rfl, rfl, fun _ h => (by cases h), .nil⟩
  | v :: vs, d :: ds, _, u :: us, .cons a t, e, .cons r rr => by
    simp only [List.mapM_cons, Option.bind_eq_bind, Option.pure_def] at e
    obtain ⟨p, e1, e⟩ := Option.bind_eq_some_iff.mp e
    obtain ⟨qs, e2, e⟩ := Option.bind_eq_some_iff.mp e
    cases e
    obtain ⟨bs, h1, h2, h3, h4, h5⟩ := trip hR n vs ds qs us t e2 rr
    refine ⟨(v, d, p) :: bs, ?_, ?_, ?_, fun b hb => ?_, .cons r h5⟩
    · rw [List.map_cons, h1]
    · rw [List.map_cons, h2]; rfl
    · rw [List.map_cons, h3]
    · rcases List.mem_cons.mp hb with rfl | hb
      · exact ⟨a, py_dp hR n a e1, e1⟩
      · exact h4 b hb
theorem call_sorted (hu : X.A.units + 66 < cLine) : CallR X (.builtin "sorted") (rBi X.K .sorted) := by
  intro pins s σ H vs us Q I r h
  obtain ⟨m, hs, ds, d, hR, hx, hd, af⟩ := h
  match ds, hx, hd with
  | [], _, hd => simp [biD, sortedD, one] at hd
  | _ :: _ :: _, _, hd => simp [biD, sortedD, one] at hd
  | [x], hx, hd =>
    simp only [biD, sortedD, one, Option.bind_some] at hd
    split at hd
    · rename_i l el
      split at hd
      · rename_i ps ep
        obtain ⟨hc, rfl⟩ := chk_some hd
        obtain ⟨v, rfl, rx⟩ := hx.rep1
        obtain ⟨a, ws, rfl, ea, rw'⟩ := hR.getS rx el
        cases r with
        | cons r0 rn =>
          cases rn
          cases r0
          obtain ⟨its, rv, g, hz⟩ : ∃ its, Vals ws its ∧ Gath X.prog X.w X.A.in1 s (.ref a) its ∧ ws.length ≤ sizeLine := by
            rcases ea with ea | ea
            · obtain ⟨its, rv, hl, hz⟩ := I.list (.of ea)
              obtain ⟨o, ho, hc, n, hd⟩ := hl.isList
              have := gath_seq (prog := X.prog) (w := X.w) (A := X.A.in1) (.inl rfl) ho hc hd (by rw [List.size_toArray, ← rv.length]; exact hz)
              exact ⟨its, rv, this, hz⟩
            · obtain ⟨its, rv, hl, hz⟩ := I.tuple (.of ea)
              obtain ⟨o, ho, hc, n, hd⟩ := hl
              have := gath_seq (prog := X.prog) (w := X.w) (A := X.A.in1) (.inr rfl) ho hc hd (by rw [List.size_toArray, ← rv.length]; exact hz)
              exact ⟨its, rv, this, hz⟩
          obtain ⟨bs, h1, h2, h3, h4, h5⟩ := trip hR 50 _ _ _ _ rw' ep rv
          have hE : PySem.W.EachIs (fun u b => ∃ as, Reads s.heap u b.2.2 as) its bs := by
            have hq : ∀ (us : List Value) (cs : List (V × D × PyData)), (∀ b ∈ cs, b ∈ bs) → PySem.W.EachIs (fun u b => RelV b.1 u) us cs → PySem.W.EachIs (fun u b => ∃ as, Reads s.heap u b.2.2 as) us cs := by
              intro us cs hsub hh
              induction hh with
              | nil => exact .nil
              | cons q t ih => exact .cons (Dp.reads I _ _ _ (h4 _ (hsub _ List.mem_cons_self)).2.1 q) (ih fun b hb => hsub b (List.mem_cons_of_mem _ hb))
            exact hq its bs (fun _ h => h) h5
          have hlen : bs.length = ws.length := by rw [← h1, List.length_map]
          refine sorted_gath (β := V × D × PyData) (enc := fun b => b.2.2) (R := fun u b => RelV b.1 u) g h5 hE (by rw [h3]; exact hc.1) (by rw [h3]; exact hc.2) (by rw [hlen]; exact hz) (fun b hb => ?_) fun h' out keep hol hout => ?_
          · have hdp := py_depth 50 (h4 b hb).2.2
            omega
          · have at0 : (h'.push (PyProof.Rows.seqObj "list" its.toArray 0)).get? h'.objs.size = some (PyProof.Rows.seqObj "list" its.toArray 0) := Heap.get?_push_size _ rfl
            obtain ⟨ep', he'⟩ := PyProof.Rows.sortedHeap_at (out := out.toArray) at0
            have hvals := each_vals (fun b : V × D × PyData => b.1) hout
            have hzl : ((bs.mergeSort (PySem.W.dataLe false fun b => b.2.2)).map fun b : V × D × PyData => b.1).length ≤ sizeLine := by
              rw [List.length_map, List.length_mergeSort, hlen]
              exact hz
            have I1 : Inv X pins σ H { s with heap := h' } := I.kept (t' := s.toks) keep
            refine ⟨.ref _, upd H h'.objs.size (.lst ((bs.mergeSort (PySem.W.dataLe false fun b => b.2.2)).map fun b : V × D × PyData => b.1)),
              I1.laid (t' := s.toks) (fun b o q => (PyProof.Rows.sortedHeap_old (Nat.ne_of_lt (Heap.lt_size q)) (Heap.lt_size (Heap.get?_push_of_some _ q))).trans (Heap.get?_push_of_some _ q)) (Nat.le_refl _) ⟨hzl, out, ep', hvals, he'⟩, rfl, ?_⟩
            refine af.lst hR _ _ _ (Same.refl H) (I1.hok.fresh (Nat.le_refl _)) ?_
            have hm : (bs.mergeSort (PySem.W.dataLe false fun b => b.2.2)).map (·.2) = (l.zip ps).mergeSort (PySem.W.dataLe false (·.2)) := by
              rw [← h2]
              exact PySem.W.sort_maps (fun b : V × D × PyData => b.2) fun _ _ _ _ => rfl
            have hg : ((l.zip ps).mergeSort fun a b => PySem.W.dataLe false (·.2) a b).map (·.1) = (bs.mergeSort (PySem.W.dataLe false fun b => b.2.2)).map fun b => b.2.1 := by
              show ((l.zip ps).mergeSort (PySem.W.dataLe false (·.2))).map (·.1) = _
              rw [← hm, List.map_map]
              rfl
            rw [hg]
            exact reps_of _ _ fun b hb => (h4 b (List.mem_mergeSort.mp hb)).1
      · cases hd
    · cases hd
/-- repr -/
theorem call_repr (hu : X.A.units + 66 < cLine) (hg : X.A.guards = some []) : CallR X (.builtin "repr") (rBi X.K .repr) := by
  intro pins s σ H vs us Q I r h
  obtain ⟨m, hs, ds, d, hR, hx, hd, af⟩ := h
  match ds, hx, hd with
  | [], _, hd => simp [biD, reprD, one] at hd
  | _ :: _ :: _, _, hd => simp [biD, reprD, one] at hd
  | [x], hx, hd =>
    simp only [biD, reprD, one, Option.bind_some] at hd
    split at hd
    · rename_i p ep
      obtain ⟨⟨c1, c2, c3, c4⟩, rfl⟩ := chk_some hd
      have hfit : p.shown.length ≤ sizeLine := by
        have h1 := PyData.shown_le_bulk 40 (by decide) p c3
        have h2 : sizeLine = 16777216 := sizeLine_eq
        omega
      obtain ⟨v, rfl, rx⟩ := hx.rep1
      cases r with
      | cons r0 rn =>
        cases rn
        have hdp := py_dp hR 60 rx ep
        have dep := py_depth 60 ep
        obtain ⟨as, hr⟩ := Dp.reads I p v _ hdp r0
        have fin : ∀ h' u tk, (∀ b o, s.heap.get? b = some o → h'.get? b = some o) → EP X pins σ Q (.str p.shown u) { s with heap := h', toks := tk } := fun h' u tk hk =>
          ⟨.str p.shown, H, I.kept (t' := tk) hk, ⟨_, rfl⟩, af.str⟩
        cases hr with
        | none => exact PySem.P.repr_of_none (fin s.heap s.toks (s.toks + 1) fun _ _ e => e)
        | bool b => exact PySem.P.repr_of_bool (fin s.heap s.toks (s.toks + 1) fun _ _ e => e)
        | int i t => exact PySem.P.repr_of_int (by simpa [PyData.showable] using c1) (fin s.heap s.toks (s.toks + 1) fun _ _ e => e)
        | str z t => exact PySem.P.repr_of_str (fin s.heap s.toks (s.toks + 1) fun _ _ e => e) hfit
        | list h1 h2 h3 h4 => exact repr_of_reads' (.list h1 h2 h3 h4) c1 (fun z => by rw [c2] at z; cases z) hg (by omega) (fun _ _ e => e) fin hfit
        | tuple h1 h2 h3 h4 => exact repr_of_reads' (.tuple h1 h2 h3 h4) c1 (fun z => by rw [c2] at z; cases z) hg (by omega) (fun _ _ e => e) fin hfit
        | dict h1 h2 h3 h4 h5 => simp [PyData.hasDict] at c2
    · cases hd

theorem vals_one {v : V} {us : List Value} (r : Vals [v] us) : ∃ u, us = [u] ∧ RelV v u := by
  cases r with
  | cons a t => cases t; exact ⟨_, rfl, a⟩
theorem one_of {xs : List D} {x : D} (h : one xs = some x) : xs = [x] := by
  unfold one at h
  split at h
  · cases h; rfl
  · cases h
mutual
theorem ofPy_py : ∀ (n : Nat) {d : D} {p : PyData}, py [] n d = some p → ofPy p = d
  | n, .non, p, e => by cases n <;> (simp only [py, Option.some.injEq] at e; subst e; rfl)
  | n, .bl b, p, e => by cases n <;> (simp only [py, Option.some.injEq] at e; subst e; rfl)
  | n, .int b, p, e => by cases n <;> (simp only [py, Option.some.injEq] at e; subst e; rfl)
  | n, .str b, p, e => by cases n <;> (simp only [py, Option.some.injEq] at e; subst e; rfl)
  | 0, .tup l, p, e => by simp only [py] at e; cases e
  | 0, .lst l, p, e => by simp only [py] at e; cases e
  | n + 1, .tup l, p, e => by
    simp only [py] at e
    obtain ⟨ps, e1, rfl⟩ := Option.map_eq_some_iff.mp e
    simp only [ofPy, ofPys_py n e1]
  | n + 1, .lst l, p, e => by
    simp only [py] at e
    obtain ⟨ps, e1, rfl⟩ := Option.map_eq_some_iff.mp e
    simp only [ofPy, ofPys_py n e1]
  | n, .ref k, p, e => by cases n <;> simp [py] at e
  | n, .dk k, p, e => by cases n <;> simp [py] at e
  | n, .dt k, p, e => by cases n <;> simp [py] at e
  | n, .scr k, p, e => by cases n <;> simp [py] at e
theorem ofPys_py : ∀ (n : Nat) {d : List D} {p : List PyData}, d.mapM (py [] n) = some p → ofPys p = d
  | n, [], p, e => by
    simp at e
    subst e
    rfl
  | n, x :: r, p, e => by
    simp only [List.mapM_cons, Option.bind_eq_bind, Option.pure_def] at e
    obtain ⟨q, e1, e⟩ := Option.bind_eq_some_iff.mp e
    obtain ⟨qs, e2, e⟩ := Option.bind_eq_some_iff.mp e
    cases e
    simp only [ofPys, ofPy_py n e1, ofPys_py n e2]
end
theorem af_nl {K : PySem.W.Frag} {m : Mp} {H : Hp} {Q : VK} {d : D} (a : Af K m H d Q) (h : nl d = true) : AfN K m H d Q := by
  cases d with
  | lst _ => cases h
  | dk _ => cases h
  | dt _ => cases h
  | _ => exact a.n trivial
mutual
theorem py_emp (hs : Hs) : ∀ (n : Nat) {d : D} {p : PyData}, py [] n d = some p → py hs n d = some p
  | n, .non, p, e => by cases n <;> (simp only [py] at e ⊢; exact e)
  | n, .bl b, p, e => by cases n <;> (simp only [py] at e ⊢; exact e)
  | n, .int b, p, e => by cases n <;> (simp only [py] at e ⊢; exact e)
  | n, .str b, p, e => by cases n <;> (simp only [py] at e ⊢; exact e)
  | 0, .tup l, p, e => by simp only [py] at e; cases e
  | 0, .lst l, p, e => by simp only [py] at e; cases e
  | n + 1, .tup l, p, e => by
    simp only [py] at e ⊢
    obtain ⟨ps, e1, rfl⟩ := Option.map_eq_some_iff.mp e
    rw [py_emps hs n e1]
    rfl
  | n + 1, .lst l, p, e => by
    simp only [py] at e ⊢
    obtain ⟨ps, e1, rfl⟩ := Option.map_eq_some_iff.mp e
    rw [py_emps hs n e1]
    rfl
  | n, .ref k, p, e => by cases n <;> simp [py] at e
  | n, .dk k, p, e => by cases n <;> simp [py] at e
  | n, .dt k, p, e => by cases n <;> simp [py] at e
  | n, .scr k, p, e => by cases n <;> simp [py] at e
theorem py_emps (hs : Hs) : ∀ (n : Nat) {d : List D} {p : List PyData}, d.mapM (py [] n) = some p → d.mapM (py hs n) = some p
  | n, [], p, e => e
  | n, x :: r, p, e => by
    simp only [List.mapM_cons, Option.bind_eq_bind, Option.pure_def] at e ⊢
    obtain ⟨q, e1, e⟩ := Option.bind_eq_some_iff.mp e
    obtain ⟨qs, e2, e⟩ := Option.bind_eq_some_iff.mp e
    cases e
    rw [py_emp hs n e1, py_emps hs n e2]
    rfl
end
theorem mapM_at {α β : Type} {f : α → Option β} : ∀ {l : List α} {q : List β} {i : Nat} {y : β}, l.mapM f = some q → q[i]? = some y → ∃ x, l[i]? = some x ∧ f x = some y
  | [], q, i, y, e, h => by
    simp at e
    subst e
    simp at h
  | x :: r, q, i, y, e, h => by
    simp only [List.mapM_cons, Option.bind_eq_bind, Option.pure_def] at e
    obtain ⟨z, e1, e⟩ := Option.bind_eq_some_iff.mp e
    obtain ⟨zs, e2, e⟩ := Option.bind_eq_some_iff.mp e
    cases e
    cases i with
    | zero =>
      cases h
      exact ⟨x, rfl, e1⟩
    | succ i =>
      have h' : zs[i]? = some y := h
      obtain ⟨x', h1, h2⟩ := mapM_at e2 h'
      exact ⟨x', h1, h2⟩
theorem each_at {β : Type} {R : Value → β → Prop} : ∀ {us : List Value} {bs : List β} {i : Nat} {u : Value}, PySem.W.EachIs R us bs → us[i]? = some u → ∃ b, bs[i]? = some b ∧ R u b
  | _, _, i, u, .nil, h => by simp at h
  | _, _, 0, u, .cons r t, h => by
    cases h
    exact ⟨_, rfl, r⟩
  | _, _, i + 1, u, .cons r t, h => by
    obtain ⟨b, h1, h2⟩ := each_at (i := i) t h
    exact ⟨b, h1, h2⟩
theorem call_mind (hc : X.calm = true) (hu : X.A.units + 66 < cLine) : CallR X (.builtin "min") (rBi X.K .mind) := by
  intro pins s σ H vs us Q I r h
  obtain ⟨m, hs, ds, d, hR, hx, hd, af⟩ := h
  simp only [biD, mindD] at hd
  split at hd
  · rename_i p ps e
    obtain ⟨x, e0, e9⟩ := Option.bind_eq_some_iff.mp e
    obtain rfl := one_of e0
    obtain ⟨⟨hal, hnl⟩, rfl⟩ := chk_some hd
    obtain ⟨v, rfl, rx⟩ := hx.rep1
    obtain ⟨l, e1, e2⟩ := Option.bind_eq_some_iff.mp e9
    obtain ⟨a, ws, rfl, ea, rw'⟩ := hR.getL rx e1
    obtain ⟨u, rfl, ru⟩ := vals_one r
    obtain rfl : u = .ref a := ru
    obtain ⟨its, rv, hl, hz⟩ := I.list (.of ea)
    have e3 := py_emps hs 50 e2
    have dps : DpAll X.K H ws (p :: ps) := py_dps hR 50 rw' e3
    obtain ⟨as, hr⟩ := Dp.readsAll I (p :: ps) ws its dps rv
    have dep : PyData.depthAll (p :: ps) ≤ 50 := py_depth.all 50 _ _ e2
    refine PySem.W.min_list_data (I.ok.hd hc) hl.isList (by simpa using hr) hal (by omega) fun i v h' tk bs hi hrd keep => ?_
    have hi' : its[i]? = some v := by simpa using hi
    obtain ⟨bs', h1, h2, h3, h4, h5⟩ := trip hR 50 _ _ _ _ rw' e3 rv
    obtain ⟨b, hb, hrel⟩ := each_at h5 hi'
    have q4 := h4 b (List.mem_of_getElem? hb)
    obtain ⟨as2, hrd2⟩ := Dp.reads I _ _ _ q4.2.1 hrel
    have heq := (reads_det (fun b o q _ => keep b o q) hrd2 hrd).1
    have hd0 : b.2.1 = ofPy (PySem.W.minD p ps) := by
      rw [heq]
      have hl1 : l[i]? = some b.2.1 ∧ (p :: ps)[i]? = some b.2.2 := by
        have : (bs'.map (·.2))[i]? = some b.2 := by rw [List.getElem?_map, hb]; rfl
        rw [h2] at this
        exact List.getElem?_zip_eq_some.mp this
      obtain ⟨d0, e5, e6⟩ := mapM_at e2 hl1.2
      rw [e5] at hl1
      cases hl1.1
      exact (ofPy_py 50 e6).symm
    rw [← hd0] at af hnl
    exact ⟨b.1, H, I.kept (t' := tk) keep, hrel, af_nl af hnl _ _ (Same.refl H) q4.1⟩
  · cases hd
theorem call_maxd (hc : X.calm = true) (hu : X.A.units + 66 < cLine) : CallR X (.builtin "max") (rBi X.K .maxd) := by
  intro pins s σ H vs us Q I r h
  obtain ⟨m, hs, ds, d, hR, hx, hd, af⟩ := h
  simp only [biD, maxdD] at hd
  split at hd
  · rename_i p ps e
    obtain ⟨x, e0, e9⟩ := Option.bind_eq_some_iff.mp e
    obtain rfl := one_of e0
    obtain ⟨⟨hal, hnl⟩, rfl⟩ := chk_some hd
    obtain ⟨v, rfl, rx⟩ := hx.rep1
    obtain ⟨l, e1, e2⟩ := Option.bind_eq_some_iff.mp e9
    obtain ⟨a, ws, rfl, ea, rw'⟩ := hR.getL rx e1
    obtain ⟨u, rfl, ru⟩ := vals_one r
    obtain rfl : u = .ref a := ru
    obtain ⟨its, rv, hl, hz⟩ := I.list (.of ea)
    have e3 := py_emps hs 50 e2
    have dps : DpAll X.K H ws (p :: ps) := py_dps hR 50 rw' e3
    obtain ⟨as, hr⟩ := Dp.readsAll I (p :: ps) ws its dps rv
    have dep : PyData.depthAll (p :: ps) ≤ 50 := py_depth.all 50 _ _ e2
    refine PySem.W.max_list_data (I.ok.hd hc) hl.isList (by simpa using hr) hal (by omega) fun i v h' tk bs hi hrd keep => ?_
    have hi' : its[i]? = some v := by simpa using hi
    obtain ⟨bs', h1, h2, h3, h4, h5⟩ := trip hR 50 _ _ _ _ rw' e3 rv
    obtain ⟨b, hb, hrel⟩ := each_at h5 hi'
    have q4 := h4 b (List.mem_of_getElem? hb)
    obtain ⟨as2, hrd2⟩ := Dp.reads I _ _ _ q4.2.1 hrel
    have heq := (reads_det (fun b o q _ => keep b o q) hrd2 hrd).1
    have hd0 : b.2.1 = ofPy (PySem.W.maxD p ps) := by
      rw [heq]
      have hl1 : l[i]? = some b.2.1 ∧ (p :: ps)[i]? = some b.2.2 := by
        have : (bs'.map (·.2))[i]? = some b.2 := by rw [List.getElem?_map, hb]; rfl
        rw [h2] at this
        exact List.getElem?_zip_eq_some.mp this
      obtain ⟨d0, e5, e6⟩ := mapM_at e2 hl1.2
      rw [e5] at hl1
      cases hl1.1
      exact (ofPy_py 50 e6).symm
    rw [← hd0] at af hnl
    exact ⟨b.1, H, I.kept (t' := tk) keep, hrel, af_nl af hnl _ _ (Same.refl H) q4.1⟩
  · cases hd
/-- the others -/
theorem call_bi (hc : X.calm = true) (hu : X.A.units + 66 < cLine) (hg : X.A.guards = some []) (f : Bi) (hf : isIsa f = false) : CallR X (biV f) (rBi X.K f) := by
  cases f with
  | isa t => cases hf
  | vals => cases hf
  | lrng => cases hf
  | sorted => exact call_sorted hu
  | repr => exact call_repr hu hg
  | mind => exact call_mind hc hu
  | maxd => exact call_maxd hc hu
  | dictp =>
    intro pins s σ H vs us Q I r h
    obtain ⟨m, hs, ds, d, hR, hx, hd, af⟩ := h
    simp [biD] at hd
  | len =>
    intro pins s σ H vs us Q I r h
    obtain ⟨m, hs, ds, d, hR, hx, hd, af⟩ := h
    simp only [biD, lenD] at hd
    split at hd
    · split at hd
      · rename_i z _ hz
        cases hd
        obtain ⟨v, rfl, rx⟩ := hx.rep1
        cases rep_str rx
        exact call_len_str pins s σ H _ us Q I r ⟨_, rfl, hz, af.int⟩
      · cases hd
    · obtain ⟨v, rfl, rx⟩ := hx.rep1
      split at hd
      · rename_i l e1
        · cases hd
          obtain ⟨a, ws, rfl, ea, rw'⟩ := hR.getS rx e1
          refine call_len_seq pins s σ H _ us Q I r ⟨a, ws, rfl, ?_, ?_⟩
          · rcases ea with ea | ea
            · exact .inl (.of ea)
            · exact .inr (.of ea)
          · rw [rw'.length]
            exact af.int
      · split at hd
        · rename_i l e1
          cases hd
          obtain ⟨a, ws, rfl, ea, e2, rw'⟩ := hR.getDk rx e1
          have hl : ws.length = l.length := by
            have := congrArg List.length e2
            simpa using this
          refine call_lenD pins s σ H _ us Q I r ⟨a, ws, rfl, ea, ?_⟩
          rw [hl]
          exact af.int
        · split at hd
          · rename_i l e1
            cases hd
            obtain ⟨a, ws, rfl, ea, e2, rw'⟩ := hR.getDt rx e1
            have hl : ws.length = l.length := by
              have := congrArg List.length e2
              simpa using this
            refine call_len_dT pins s σ H _ us Q I r ⟨a, ws, rfl, ea, ?_⟩
            rw [hl]
            exact af.int
          · cases hd
    · cases hd
  | abs =>
    intro pins s σ H vs us Q I r h
    obtain ⟨m, hs, ds, d, hR, hx, hd, af⟩ := h
    simp only [biD, absD] at hd
    split at hd
    · rename_i i
      cases hd
      obtain ⟨v, rfl, rx⟩ := hx.rep1
      cases rep_int rx
      refine call_abs pins s σ H _ us Q I r ⟨i, rfl, ?_⟩
      have : (if i < 0 then -i else i) = (i.natAbs : Int) := by
        split <;> omega
      rw [this]
      exact af.int
    · cases hd
  | int1 =>
    intro pins s σ H vs us Q I r h
    obtain ⟨m, hs, ds, d, hR, hx, hd, af⟩ := h
    simp only [biD, int1D] at hd
    split at hd
    · rename_i i
      cases hd
      obtain ⟨v, rfl, rx⟩ := hx.rep1
      cases rep_int rx
      exact call_int1 pins s σ H _ us Q I r (.inl ⟨i, rfl, af.int⟩)
    · rename_i i
      cases hd
      obtain ⟨v, rfl, rx⟩ := hx.rep1
      cases rep_bl rx
      exact call_int1 pins s σ H _ us Q I r (.inr ⟨i, rfl, af.int⟩)
    · cases hd
  | max2 =>
    intro pins s σ H vs us Q I r h
    obtain ⟨m, hs, ds, d, hR, hx, hd, af⟩ := h
    simp only [biD, max2D] at hd
    split at hd
    · rename_i i j
      cases hd
      obtain ⟨v, w, rfl, rx, ry⟩ := hx.rep2
      cases rep_int rx
      cases rep_int ry
      refine call_max2 hc pins s σ H _ us Q I r ⟨i, j, rfl, ?_⟩
      have : (if j > i then j else i) = max i j := by
        split <;> omega
      rw [this]
      exact af.int
    · cases hd
  | min2 =>
    intro pins s σ H vs us Q I r h
    obtain ⟨m, hs, ds, d, hR, hx, hd, af⟩ := h
    simp only [biD, min2D] at hd
    split at hd
    · rename_i i j
      cases hd
      obtain ⟨v, w, rfl, rx, ry⟩ := hx.rep2
      cases rep_int rx
      cases rep_int ry
      refine call_min2 hc pins s σ H _ us Q I r ⟨i, j, rfl, ?_⟩
      have : (if j < i then j else i) = min i j := by
        split <;> omega
      rw [this]
      exact af.int
    · cases hd
  | max1 =>
    intro pins s σ H vs us Q I r h
    obtain ⟨m, hs, ds, d, hR, hx, hd, af⟩ := h
    simp only [biD, max1D] at hd
    split at hd
    · rename_i i l e
      obtain ⟨x, e0, e9⟩ := Option.bind_eq_some_iff.mp e
      obtain rfl := one_of e0
      cases hd
      obtain ⟨v, rfl, rx⟩ := hx.rep1
      obtain ⟨xs, e1, e2⟩ := Option.bind_eq_some_iff.mp e9
      obtain ⟨a, ws, rfl, ea, rw'⟩ := hR.getL rx e1
      obtain rfl := ints_rep rw' e2
      obtain ⟨h1, h2⟩ := maxI_spec l i
      refine cr_max hc pins s σ H _ us Q I r ⟨a, _, rfl, .of ea, by simp, fun k hk hle => ?_⟩
      have : k = maxI i l := Int.le_antisymm (h2 k hk) (hle _ h1)
      rw [this]
      exact af.int
    · cases hd
  | min1 =>
    intro pins s σ H vs us Q I r h
    obtain ⟨m, hs, ds, d, hR, hx, hd, af⟩ := h
    simp only [biD, min1D] at hd
    split at hd
    · rename_i i l e
      obtain ⟨x, e0, e9⟩ := Option.bind_eq_some_iff.mp e
      obtain rfl := one_of e0
      cases hd
      obtain ⟨v, rfl, rx⟩ := hx.rep1
      obtain ⟨xs, e1, e2⟩ := Option.bind_eq_some_iff.mp e9
      obtain ⟨a, ws, rfl, ea, rw'⟩ := hR.getL rx e1
      obtain rfl := ints_rep rw' e2
      obtain ⟨h1, h2⟩ := minI_spec l i
      refine cr_min hc pins s σ H _ us Q I r ⟨a, _, rfl, .of ea, by simp, fun k hk hle => ?_⟩
      have : k = minI i l := Int.le_antisymm (hle _ h1) (h2 k hk)
      rw [this]
      exact af.int
    · cases hd
  | sum =>
    intro pins s σ H vs us Q I r h
    obtain ⟨m, hs, ds, d, hR, hx, hd, af⟩ := h
    simp only [biD, sumD] at hd
    obtain ⟨l, e, rfl⟩ := Option.map_eq_some_iff.mp hd
    obtain ⟨x, e0, e9⟩ := Option.bind_eq_some_iff.mp e
    obtain rfl := one_of e0
    obtain ⟨v, rfl, rx⟩ := hx.rep1
    obtain ⟨xs, e1, e2⟩ := Option.bind_eq_some_iff.mp e9
    obtain ⟨a, ws, rfl, ea, rw'⟩ := hR.getL rx e1
    obtain rfl := ints_rep rw' e2
    exact cr_sum hc pins s σ H _ us Q I r ⟨a, _, rfl, .of ea, af.int⟩
  | all =>
    intro pins s σ H vs us Q I r h
    obtain ⟨m, hs, ds, d, hR, hx, hd, af⟩ := h
    simp only [biD, allD] at hd
    obtain ⟨l, e, rfl⟩ := Option.map_eq_some_iff.mp hd
    obtain ⟨x, e0, e9⟩ := Option.bind_eq_some_iff.mp e
    obtain rfl := one_of e0
    obtain ⟨v, rfl, rx⟩ := hx.rep1
    obtain ⟨xs, e1, e2⟩ := Option.bind_eq_some_iff.mp e9
    obtain ⟨a, ws, rfl, ea, rw'⟩ := hR.getL rx e1
    obtain rfl := bools_rep rw' e2
    exact cr_all hc pins s σ H _ us Q I r ⟨a, _, rfl, .of ea, af.bl⟩
  | any =>
    intro pins s σ H vs us Q I r h
    obtain ⟨m, hs, ds, d, hR, hx, hd, af⟩ := h
    simp only [biD, anyD] at hd
    obtain ⟨l, e, rfl⟩ := Option.map_eq_some_iff.mp hd
    obtain ⟨x, e0, e9⟩ := Option.bind_eq_some_iff.mp e
    obtain rfl := one_of e0
    obtain ⟨v, rfl, rx⟩ := hx.rep1
    obtain ⟨xs, e1, e2⟩ := Option.bind_eq_some_iff.mp e9
    obtain ⟨a, ws, rfl, ea, rw'⟩ := hR.getL rx e1
    obtain rfl := bools_rep rw' e2
    exact cr_any hc pins s σ H _ us Q I r ⟨a, _, rfl, .of ea, af.bl⟩
  | list =>
    intro pins s σ H vs us Q I r h
    obtain ⟨m, hs, ds, d, hR, hx, hd, af⟩ := h
    simp only [biD, listD] at hd
    obtain ⟨l, e, rfl⟩ := Option.map_eq_some_iff.mp hd
    obtain ⟨x, e0, e9⟩ := Option.bind_eq_some_iff.mp e
    obtain rfl := one_of e0
    obtain ⟨v, rfl, rx⟩ := hx.rep1
    obtain ⟨a, ws, rfl, ea, rw'⟩ := hR.getS rx e9
    refine call_list_of pins s σ H _ us Q I r ⟨a, ws, rfl, ?_, fun p hp => af.lst hR _ _ _ (Same.refl H) hp rw'⟩
    rcases ea with ea | ea
    · exact .inl (.of ea)
    · exact .inr (.of ea)
  | tuple =>
    intro pins s σ H vs us Q I r h
    obtain ⟨m, hs, ds, d, hR, hx, hd, af⟩ := h
    simp only [biD, tupleD] at hd
    obtain ⟨l, e, rfl⟩ := Option.map_eq_some_iff.mp hd
    obtain ⟨x, e0, e9⟩ := Option.bind_eq_some_iff.mp e
    obtain rfl := one_of e0
    obtain ⟨v, rfl, rx⟩ := hx.rep1
    cases rx with
    | tup f q =>
      cases e9
      exact call_tuple_of pins s σ H _ us Q I r ⟨_, _, rfl, .inr ⟨.of f.1, (af.n trivial) _ _ (Same.refl H) (.tup f q)⟩⟩
    | lst f q =>
      cases e9
      exact call_tuple_of pins s σ H _ us Q I r ⟨_, _, rfl, .inl ⟨.of f.1, fun p hp => af.tup hR _ _ _ (Same.refl H) hp q⟩⟩
    | ref em =>
      obtain ⟨a, ws, e1, ea, rw'⟩ := hR.getL (.ref em) (ds := l) e9
      cases e1
      exact call_tuple_of pins s σ H _ us Q I r ⟨_, _, rfl, .inl ⟨.of ea, fun p hp => af.tup hR _ _ _ (Same.refl H) hp rw'⟩⟩
    | _ => cases e9
  | dictc =>
    intro pins s σ H vs us Q I r h
    obtain ⟨m, hs, ds, d, hR, hx, hd, af⟩ := h
    simp only [biD, dictD] at hd
    obtain ⟨l, e, rfl⟩ := Option.map_eq_some_iff.mp hd
    obtain ⟨x, e0, e1⟩ := Option.bind_eq_some_iff.mp e
    obtain rfl := one_of e0
    obtain ⟨v, rfl, rx⟩ := hx.rep1
    obtain ⟨a, ws, rfl, ea, e2, rw'⟩ := hR.getDk rx e1
    exact call_dictD pins s σ H _ us Q I r ⟨a, ws, rfl, .inl ea, fun p hp => af.dk hR _ _ _ (Same.refl H) hp e2 rw'⟩
end
end Z

set_option Elab.async false
set_option linter.all false
set_option maxRecDepth 100000
set_option maxHeartbeats 4000000
/-! Z3c: subscripts, slices, stores, isinstance -/
namespace Z
open PySem PySem.Spec PyProof.Rows L2
section
variable {X : Cx}
def rSub (K : PySem.W.Frag) : R2 := fun x y H Q => ∃ m hs dx dy d, RH K m H hs ∧ Rep K m H x dx ∧ Rep K m H y dy ∧ subD hs dx dy = some d ∧ ∀ v, Rep K m H v d → Q v H
theorem ix_sub (hu : X.A.units + 66 < cLine) : IxR X (rSub X.K) := by
  intro value slice pins s σ H x y v u Q I rx ry h hsub
  obtain ⟨m, hs, dx, dy, d, hR, hx, hy, hd, q⟩ := h
  unfold subD at hd
  split at hd
  · rename_i kvs _ e1
    obtain ⟨k, ek, e2⟩ := Option.bind_eq_some_iff.mp hd
    obtain ⟨a, us, rfl, ea, eq, er⟩ := hR.getDk hx e1
    obtain rfl := kV_rep hy ek
    obtain ⟨w, hw, rw'⟩ := look_some eq er e2
    cases rx
    have g : DGet H a (kV k) (some w) := by rw [← hw]; exact DGet.k ea
    exact tail_any (ops := [.ref a, u]) (dict_typeIs I g) PySem.F.slot_dict_getitem.lookup (d_getItem (by omega) I g ry fun w' s' I' r' => ⟨w, H, I', r', q w rw'⟩) hsub
  · rename_i kvs e1 _
    obtain ⟨k, ek, e2⟩ := Option.bind_eq_some_iff.mp hd
    obtain ⟨a, us, rfl, ea, eq, er⟩ := hR.getDt hx e1
    obtain ⟨b, rfl, eb⟩ := keys_rep hy ek
    obtain ⟨w, hw, rw'⟩ := look_some eq er e2
    cases rx
    have g : DGet H a (.ref b) (some w) := by rw [← hw]; exact DGet.t ea eb
    exact tail_any (ops := [.ref a, u]) (dict_typeIs I g) PySem.F.slot_dict_getitem.lookup (d_getItem (by omega) I g ry fun w' s' I' r' => ⟨w, H, I', r', q w rw'⟩) hsub
  · split at hd
    · rename_i l k e1
      obtain ⟨a, vs, rfl, ea, er⟩ := hR.getS hx e1
      cases rep_int hy
      obtain ⟨j, ej, e2⟩ := Option.bind_eq_some_iff.mp hd
      obtain ⟨w, hw, rw'⟩ := er.get e2
      have hat : atI vs k = some w := by
        rw [← ix_at, er.length, ej]
        exact hw
      refine ix_seq value slice pins s σ H _ _ v u Q I rx ry ?_ hsub
      rcases ea with ea | ea
      · exact .inl ⟨a, vs, _, w, rfl, rfl, .of ea, hat, q w rw'⟩
      · exact .inr (.inl ⟨a, vs, _, w, rfl, rfl, .of ea, hat, q w rw'⟩)
    · cases hd
where
  ix_at {vs : List V} {k : Int} : ((ix vs.length k).bind fun j => vs[j]?) = atI vs k := rfl

/-! ### isinstance -/
def kinds : List String := ["int", "bool", "str", "tuple", "list", "dict"]
theorem kit_non : ∀ t ∈ kinds, kitB "NoneType" t = some false := by decide +kernel
theorem kit_bl : ∀ t ∈ kinds, kitB "bool" t = some (t == "bool" || t == "int") := by decide +kernel
theorem kit_int : ∀ t ∈ kinds, kitB "int" t = some (t == "int") := by decide +kernel
theorem kit_str : ∀ t ∈ kinds, kitB "str" t = some (t == "str") := by decide +kernel
theorem kit_tup : ∀ t ∈ kinds, kitB "tuple" t = some (t == "tuple") := by decide +kernel
theorem kit_lst : ∀ t ∈ kinds, kitB "list" t = some (t == "list") := by decide +kernel
theorem kit_dic : ∀ t ∈ kinds, kitB "dict" t = some (t == "dict") := by decide +kernel
def rIsa (K : PySem.W.Frag) (t : String) : List V → Hp → VK → Prop := fun xs H Q => ∃ m hs x d b, xs = [x, .ty t] ∧ RH K m H hs ∧ Rep K m H x d ∧ isaD hs t d = some b ∧ Q (.bl b) H
theorem call_isa {t : String} (ht : t ∈ kinds) : CallR X (.builtin "isinstance") (rIsa X.K t) := by
  intro pins s σ H xs us Q I r h
  obtain ⟨m, hs, x, d, b, rfl, hR, hx, hd, q⟩ := h
  have go : ∀ {T : String} {b' : Bool}, TyX X.K H x (.type T) → kitB T t = some b' → b = b' → wpAny (model X.prog X.w) X.A (call (.builtin "isinstance") us) (EP X pins σ Q) X.xe s := fun {T b'} ty e eb => by
    subst eb
    exact call_isi pins s σ H _ us Q I r ⟨x, .ty t, _, _, b, rfl, .ty t, ty, kit_ty e, q⟩
  cases hx with
  | non => cases hd; exact go (.base .non) (kit_non t ht) rfl
  | bl c => cases hd; exact go (.base (.bl c)) (kit_bl t ht) rfl
  | int c => cases hd; exact go (.base (.int c)) (kit_int t ht) rfl
  | str c => cases hd; exact go (.base (.str c)) (kit_str t ht) rfl
  | tup f e => cases hd; exact go (.base (.tup f.1)) (kit_tup t ht) rfl
  | lst f e => cases hd; exact go (.base (.lst f.1)) (kit_lst t ht) rfl
  | dk f e e' => cases hd; exact go (.base (.dK f.1)) (kit_dic t ht) rfl
  | dt f e e' => cases hd; exact go (.base (.dT f.1)) (kit_dic t ht) rfl
  | scr f => cases hd
  | ref em =>
    simp only [isaD] at hd
    split at hd
    · rename_i l he
      cases hd
      obtain ⟨a', e1, vs, e2, _⟩ := hR.ob _ _ he
      rw [em] at e1
      cases e1
      exact go (.base (.lst e2)) (kit_lst t ht) rfl
    · rename_i o he hne
      cases hd
      obtain ⟨a', e1, e2⟩ := hR.ob _ _ hne
      rw [em] at e1
      cases e1
      cases o with
      | lst l => exact (he l rfl).elim
      | dk l => obtain ⟨us', e3, _⟩ := e2; exact go (.base (.dK e3)) (kit_dic t ht) rfl
      | dt l => obtain ⟨us', e3, _⟩ := e2; exact go (.base (.dT e3)) (kit_dic t ht) rfl
    · cases hd

/-! ### x[i] = v -/
theorem PSet.or {t t' : TSet} (h : PSet X t) (h' : PSet X t') : PSet X (fun o i v H Q => t o i v H Q ∨ t' o i v H Q) := by
  intro pins s σ H o i v ov iv u Q I ro ri rv q
  rcases q with q | q
  · exact h pins s σ H o i v ov iv u Q I ro ri rv q
  · exact h' pins s σ H o i v ov iv u Q I ro ri rv q
theorem put_rep {κ : Type} [DecidableEq κ] {K : PySem.W.Frag} {m : Mp} {H : Hp} {k : κ} {us : List (κ × V)} {kvs : List (κ × D)} {v : V} {d : D} (e : us.map (·.1) = kvs.map (·.1)) (r : Reps K m H (us.map (·.2)) (kvs.map (·.2)))
    (hv : Rep K m H v d) : (putK us k v).map (·.1) = (put kvs k d).map (·.1) ∧ Reps K m H ((putK us k v).map (·.2)) ((put kvs k d).map (·.2)) := by
  have hany : (us.any fun p => decide (p.1 = k)) = kvs.any fun p => decide (p.1 = k) := by
    have h1 : (us.any fun p => decide (p.1 = k)) = (us.map (·.1)).any fun q => decide (q = k) := by rw [List.any_map]; rfl
    have h2 : (kvs.any fun p => decide (p.1 = k)) = (kvs.map (·.1)).any fun q => decide (q = k) := by rw [List.any_map]; rfl
    rw [h1, h2, e]
  unfold putK put
  rw [hany]
  by_cases hb : (kvs.any fun p => decide (p.1 = k)) = true
  · rw [if_pos hb, if_pos hb]
    clear hb hany
    induction us generalizing kvs with
    | nil =>
      cases kvs with
      | nil => exact ⟨rfl, .nil⟩
      | cons p kvs => simp at e
    | cons u us ih =>
      cases kvs with
      | nil => simp at e
      | cons p kvs =>
        simp only [List.map_cons, List.cons.injEq] at e
        cases r with
        | cons a t =>
          obtain ⟨h1, h2⟩ := ih e.2 t
          simp only [List.map_cons]
          by_cases hk : p.1 = k
          · rw [if_pos (e.1.trans hk), if_pos hk]
            exact ⟨by rw [h1, e.1], .cons hv h2⟩
          · rw [if_neg (fun z => hk (e.1.symm.trans z)), if_neg hk]
            exact ⟨by rw [h1, e.1], .cons a h2⟩
  · rw [if_neg hb, if_neg hb, List.map_append, List.map_append, List.map_append, List.map_append, e]
    exact ⟨rfl, r.app (.cons hv .nil)⟩
def rSet (K : PySem.W.Frag) : TSet := fun o i v H Q => ∃ m hs dx di dv hs', RH K m H hs ∧ Rep K m H o dx ∧ Rep K m H i di ∧ Rep K m H v dv ∧ setD hs dx di dv = some hs' ∧ ∀ H', Go m H m H' → RH K m H' hs' → Q H'
theorem set_any (hu : X.A.units + 66 < cLine) : PSet X (rSet X.K) := by
  intro pins s σ H o i v ov iv u Q I ro ri rv h
  obtain ⟨m, hs, dx, di, dv, hs', hR, hx, hi, hv, hd, q⟩ := h
  unfold setD at hd
  split at hd
  · rename_i n
    cases hx with
    | ref em =>
      have ha := List.mem_of_getElem? em
      split at hd
      · rename_i l k he
        obtain ⟨j, ej, rfl⟩ := Option.map_eq_some_iff.mp hd
        obtain ⟨a', e1, vs, e2, er⟩ := hR.ob _ _ he
        rw [em] at e1
        cases e1
        cases rep_int hi
        refine set_list pins s σ H _ _ _ ov iv u Q I ro ri rv ⟨_, vs, _, j, rfl, rfl, e2, by rw [er.length]; exact ej, ?_⟩
        have g : Go m H m (upd H _ (.lst (vs.set j v))) := Go.write hR ha
        exact q _ g (hR.write em ⟨_, upd_same, (er.mono g).set (hv.mono g) j⟩)
      · rename_i kvs he
        split at hd
        · rename_i k ek
          obtain ⟨hc, rfl⟩ := chk_some hd
          obtain ⟨a', e1, us, e2, e3, er⟩ := hR.ob _ _ he
          rw [em] at e1
          cases e1
          obtain rfl := kV_rep hi ek
          have hl : us.length = kvs.length := by simpa using congrArg List.length e3
          have g : Go m H m (upd H _ (.dK (putK us k v))) := Go.write hR ha
          obtain ⟨p1, p2⟩ := put_rep (k := k) e3 (er.mono g) (hv.mono g)
          exact set_dict (by omega) pins s σ H _ _ _ ov iv u Q I ro ri rv ⟨_, _, rfl, DPut.k e2 (by omega), q _ g (hR.write em ⟨_, upd_same, p1, p2⟩)⟩
        · cases hd
      · rename_i kvs he
        split at hd
        · rename_i k ek
          obtain ⟨hc, rfl⟩ := chk_some hd
          obtain ⟨a', e1, us, e2, e3, er⟩ := hR.ob _ _ he
          rw [em] at e1
          cases e1
          obtain ⟨b, rfl, eb⟩ := keys_rep hi ek
          have hl : us.length = kvs.length := by simpa using congrArg List.length e3
          have g : Go m H m (upd H _ (.dT (putK us k v))) := Go.write hR ha
          obtain ⟨p1, p2⟩ := put_rep (k := k) e3 (er.mono g) (hv.mono g)
          exact set_dict (by omega) pins s σ H _ _ _ ov iv u Q I ro ri rv ⟨_, _, rfl, DPut.t e2 eb (by omega), q _ g (hR.write em ⟨_, upd_same, p1, p2⟩)⟩
        · cases hd
      · cases hd
  · cases hd
end
end Z

set_option Elab.async false
set_option linter.all false
set_option maxRecDepth 100000
set_option maxHeartbeats 4000000
/-! Z3d: slices -/
namespace Z
open PySem PySem.Spec PyProof.Rows L2
section
variable {prog : Program} {w : World} {A : Around} {E : Value → Shared → Prop} {s : Shared}
theorem rev_places (n : Nat) : Builtin.Slice.sliceAdjust none none (-1) (n : Int) = ((n : Int) - 1, -1) ∧ Builtin.Slice.slicePlaces ((n : Int) - 1) (-1) (-1) = n := by
  constructor
  · simp [Builtin.Slice.sliceAdjust]
  · unfold Builtin.Slice.slicePlaces
    have h1 : ¬ (-1 : Int) > 0 := by omega
    rw [if_neg h1]
    split
    · have e : ((n : Int) - 1 - -1 - 1) / - -1 + 1 = n := by
        have : (- -1 : Int) = 1 := rfl
        rw [this, Int.ediv_one]
        omega
      rw [e]
      omega
    · omega
theorem rev_pick (xs : Array Value) : ((List.range xs.size).filterMap fun (j : Nat) => xs[(((xs.size : Int) - 1) + (j : Int) * (-1)).toNat]?).toArray = xs.toList.reverse.toArray := by
  congr 1
  apply List.ext_getElem?
  intro i
  have key : ∀ k, k ≤ xs.size → (List.range k).filterMap (fun (j : Nat) => xs[(((xs.size : Int) - 1) + (j : Int) * (-1)).toNat]?) = (xs.toList.reverse).take k := by
    intro k
    induction k with
    | zero => intro _; rfl
    | succ k ih =>
      intro hk
      rw [List.range_succ, List.filterMap_append, ih (by omega), List.take_add_one]
      congr 1
      have e1 : (((xs.size : Int) - 1) + (k : Int) * (-1)).toNat = xs.size - 1 - k := by omega
      have h1 : xs.size - 1 - k < xs.size := by omega
      simp only [List.filterMap_cons, List.filterMap_nil, e1]
      rw [Array.getElem?_eq_getElem h1, List.getElem?_reverse (by simp; omega)]
      rw [Array.length_toList, List.getElem?_eq_getElem (by simpa using h1)]
      simp
  rw [key xs.size (Nat.le_refl _), List.take_of_length_le (by simp)]
theorem revApplied {sl : Addr} {a b c : Value} {n : Nat} {Q : Int × Int × Nat → Shared → Prop} (hs : s.heap.IsSliceOf sl a b c) (pa : IsPart a none) (pb : IsPart b none) (pc : IsPart c (some (-1)))
    (h : Q ((n : Int) - 1, -1, n) s) : wpAny (model prog w) A (Builtin.Slice.sliceApplied (.ref sl) (pure (n : Int))) Q E s := by
  obtain ⟨os, h1, h2, h3⟩ := id hs
  unfold Builtin.Slice.sliceApplied Builtin.Slice.sliceFields
  refine wpAny_bind (wpAny_bind (wpAny_field h1 h3 (x := a) rfl (wpAny_bind (wpAny_field h1 h3 (x := b) rfl (wpAny_bind (wpAny_field h1 h3 (x := c) rfl (wpAny_pure ?_)))))))
  refine wpAny_bind (HT.slicePart_ pc ?_)
  show wpAny _ _ (if ((-1 : Int) == 0) = true then _ else _) _ _ s
  rw [if_neg (by decide)]
  refine wpAny_bind (HT.slicePart_ pa (wpAny_bind (HT.slicePart_ pb (wpAny_bind (wpAny_pure ?_)))))
  show wpAny _ _ (match Builtin.Slice.sliceAdjust none none (-1) (n : Int) with | (lo, hi) => pure (lo, (-1 : Int), Builtin.Slice.slicePlaces lo hi (-1))) _ _ s
  obtain ⟨e1, e2⟩ := rev_places n
  rw [e1]
  show wpAny _ _ (pure (((n : Int) - 1), (-1 : Int), Builtin.Slice.slicePlaces ((n : Int) - 1) (-1) (-1))) _ _ s
  rw [e2]
  exact wpAny_pure h
theorem getItem_tup_rev {t sl : Addr} {xs : Array Value} {a b c : Value} {Q : Value → Shared → Prop} (hT : IsTup s.heap t xs) (hs : s.heap.IsSliceOf sl a b c) (pa : IsPart a none) (pb : IsPart b none) (pc : IsPart c (some (-1)))
    (h : Q (.ref s.heap.objs.size) { s with heap := s.heap.push { cls := .type "tuple", data := .seq xs.toList.reverse.toArray } }) (hz : xs.size ≤ sizeLine) : wpAny (model prog w) A (getItem (.ref t) (.ref sl)) Q E s := by
  have hok : sizeOk (.seq xs.toList.reverse.toArray) := by
    show xs.toList.reverse.toArray.size ≤ sizeLine
    rw [List.size_toArray, List.length_reverse, Array.length_toList]
    exact hz
  obtain ⟨os, h1, h2, h3⟩ := id hs
  have hTs : s.TypeIs (.ref sl) "slice" := ⟨os, h1, h2⟩
  unfold getItem
  try with_reducible refine wpAny_holding ?_
  first | refine wpAny_bind (wpAny_pure ?_) | skip
  refine wpAny_bind (wpAny_sequenceKey hT.typeIs (by decide) ?_)
  refine wpAny_bind (wpAny_callSpecial?_slot (name := Str.ofString "__getitem__") hT.typeIs PyProof.Rows.slot_tuple_getitem
    (wpAny_call_entry PyProof.Rows.slot_tuple_getitem hT.typeIs PyProof.Rows.entry_tuple_getitem ?_ (PyProof.Rows.args_tuple_getitem _ _)))
  show wpAny _ _ (Builtin.Tuple.tupleItemsOf (.ref t) >>= _) _ _ s
  refine wpAny_bind (PyProof.Rows.tupleItemsOf_ hT ?_)
  refine wpAny_bind (wpAny_typeOf hTs ?_)
  rw [if_pos (by decide)]
  refine wpAny_bind (revApplied hs pa pb pc ?_)
  show wpAny _ _ (if (((xs.size : Int) - 1) == 0 && (-1 : Int) == 1 && xs.size == xs.size) = true then _ else _) _ _ s
  rw [if_neg (by simp), rev_pick]
  first
    | exact wpAny_bind (m := Builtin.Tuple.tupleExact _) (wpAny_newObj_type (wpAny_pure ⟨_, rfl, wpAny_pure h⟩) hok)
    | exact wpAny_bind (m := Builtin.Tuple.tupleExact _) (wpAny_newObj_type (wpAny_bind (wpAny_pure (wpAny_pure ⟨_, rfl, wpAny_pure h⟩))) hok)
    | exact wpAny_bind (wpAny_bind (m := Builtin.Tuple.tupleExact _) (wpAny_newObj_type (wpAny_pure (wpAny_pure ⟨_, rfl, wpAny_pure h⟩)) hok))
    | exact wpAny_bind (wpAny_bind (m := Builtin.Tuple.tupleExact _) (wpAny_newObj_type (wpAny_pure ⟨_, rfl, wpAny_pure h⟩) hok))
end

section
variable {X : Cx}
theorem sx_eq (n d : Nat) (o : Option Int) : sx n d o = HT.sIx n d o := by cases o <;> rfl
theorem cutV_cut (xs : List V) (lo hi : Option Int) : cutV xs lo hi = cut xs (HT.sIx xs.length 0 lo) (HT.sIx xs.length xs.length hi) := by
  unfold cutV cut
  rw [List.drop_take]
theorem Reps.cut {K : PySem.W.Frag} {m : Mp} {H : Hp} {vs : List V} {ds : List D} (r : Reps K m H vs ds) (a b : Nat) : Reps K m H (cut vs a b) (cut ds a b) := (r.take b).drop a
def rSlc (K : PySem.W.Frag) : V → Option Int → Option Int → Hp → VK → Prop := fun x lo hi H Q => ∃ m hs dx d, RH K m H hs ∧ Rep K m H x dx ∧ cutO hs dx lo hi = some d ∧ Af K m H d Q
theorem sl_any : SlR X (rSlc X.K) := by
  intro pins s σ H x v vl vu lo hi sl Q I rx hs pl pu h
  obtain ⟨m, hs', dx, d, hR, hx, hd, af⟩ := h
  unfold cutO at hd
  simp only [sx_eq] at hd
  split at hd
  · rename_i l
    cases hd
    obtain ⟨a, vs, rfl, ea, er, na⟩ := rep_tup hx
    have e := er.length
    refine sl_tupA pins s σ H _ v vl vu lo hi sl Q I rx hs pl pu ⟨a, vs, rfl, .of ea, fun hw => ?_, fun hw p hp => ?_⟩
    · have hc : Z.cut l (HT.sIx l.length 0 lo) (HT.sIx l.length l.length hi) = l := by
        rw [← e, hw.1, hw.2]
        unfold Z.cut
        rw [e, List.take_length, List.drop_zero]
      rw [hc] at af
      exact (af.n trivial) _ _ (Same.refl H) (.tup ⟨ea, na⟩ er)
    · rw [cutV_cut, e]
      exact af.tup hR _ _ _ (Same.refl H) hp (er.cut _ _)
  · split at hd
    · rename_i l e1
      cases hd
      obtain ⟨a, vs, rfl, ea, er⟩ := hR.getL hx e1
      have e := er.length
      refine sl_list pins s σ H _ v vl vu lo hi sl Q I rx hs pl pu ⟨a, vs, rfl, .of ea, fun p hp => ?_⟩
      rw [cutV_cut, e]
      exact af.lst hR _ _ _ (Same.refl H) hp (er.cut _ _)
    · cases hd
def tRevS (K : PySem.W.Frag) (te : TE) : TE := fun σ H Q => te σ H fun x H1 => ∃ m hs dx d, RH K m H1 hs ∧ Rep K m H1 x dx ∧ revO hs dx = some d ∧ Af K m H1 d Q
theorem pe_revS {e : Expr} {te : TE} {k : Nat} {p1 p2 p3 pos : Pos} (he : PE X e te) : PE X (.Subscript e (.Slice none none (some (.UnaryOp .USub (.Constant (.int 1) k p1) p2)) p3) pos) (tRevS X.K te) := by
  refine ⟨fun pins s σ H Q I h => ?_⟩
  refine Subscript_ (thn (he.run pins s σ H _ I h) fun v s1 ⟨x, H1, I1, r1, m, hs, dx, d, hR, hx, hd, af⟩ => ?_)
  have hst : PO X (some (.UnaryOp .USub (.Constant (.int 1) k p1) p2)) (tPart (tUn (rU fun i => .int (-i)) (tC (.int 1)))) := po_some (pe_un un_neg pe_int)
  refine wpAny_Slice (thn (po_none.run pins s1 σ H1 (fun o H2 => o = none ∧ H2 = H1) I1 ⟨rfl, rfl⟩) fun vl s2 ⟨l, H2, I2, pl, el, e2⟩ => ?_)
  subst el e2
  refine thn (po_none.run pins s2 σ H2 (fun o H3 => o = none ∧ H3 = H2) I2 ⟨rfl, rfl⟩) fun vu s3 ⟨u, H3, I3, pu, eu, e3⟩ => ?_
  subst eu e3
  refine thn (hst.run pins s3 σ H3 (fun o H4 => o = some (-1) ∧ H4 = H3) I3 ⟨1, rfl, -1, rfl, rfl, rfl⟩) fun vz s4 ⟨o, H4, I4, pz, eo, e4⟩ => ?_
  subst eo e4
  have I5 : L2.Inv X pins σ H4 { s4 with heap := s4.heap.push { cls := .type "slice", data := .fields #[vl, vu, vz] } } := I4.kept (t' := s4.toks) fun b ob q => Heap.get?_push_of_some _ q
  show wpAny (model X.prog X.w) X.A (subscriptTail e (.Slice none none (some (.UnaryOp .USub (.Constant (.int 1) k p1) p2)) p3) v (.ref s4.heap.objs.size)) (EP X pins σ Q) X.xe { s4 with heap := s4.heap.push { cls := .type "slice", data := .fields #[vl, vu, vz] } }
  unfold revO at hd
  split at hd
  · cases hd
    obtain ⟨a, vs, rfl, ea, er, na⟩ := rep_tup hx
    cases r1
    obtain ⟨its, r, ht, hz⟩ := I5.tuple (xs := vs) (.of ea)
    have hlen := r.length
    refine tail_any (ops := [.ref a, .ref s4.heap.objs.size]) ht.typeIs PyProof.Rows.slot_tuple_getitem.lookup ?_ (by with_unfolding_all rfl)
    refine getItem_tup_rev ht (Heap.IsSliceOf.new _ vl vu vz) pl pu pz ?_ (by rw [List.size_toArray]; omega)
    refine ⟨.ref _, _, I5.laid (t' := s4.toks) (o := .tup vs.reverse) (fun b ob q => Heap.get?_push_of_some _ q) (Nat.le_refl _) ?_, rfl, af.tup hR _ _ _ (Same.refl _) (I5.hok.fresh (Nat.le_refl _)) er.reverse⟩
    exact ⟨by rw [List.length_reverse]; exact hz, its.reverse, r.reverse, ⟨_, Heap.get?_push_size _ rfl, rfl, _, rfl⟩⟩
  · split at hd
    · rename_i l e1
      cases hd
      obtain ⟨a, vs, rfl, ea, er⟩ := hR.getL hx e1
      cases r1
      obtain ⟨its, r, ht, hz⟩ := I5.list (xs := vs) (.of ea)
      have hlen := r.length
      refine tail_any (ops := [.ref a, .ref s4.heap.objs.size]) ht.isList.typeIs PySem.slot_list_getitem.lookup ?_ (by with_unfolding_all rfl)
      refine wpAny_getItem_list_slice ht.isList (Heap.IsSliceOf.new _ vl vu vz) pl pu pz (by decide) ?_ (by rw [List.size_toArray]; omega)
      rw [PySem.W.krv_pick]
      refine ⟨.ref _, _, I5.laid (t' := s4.toks) (o := .lst vs.reverse) (fun b ob q => Heap.get?_push_of_some _ q) (Nat.le_refl _) ?_, rfl, af.lst hR _ _ _ (Same.refl _) (I5.hok.fresh (Nat.le_refl _)) er.reverse⟩
      exact ⟨by rw [List.length_reverse]; exact hz, its.reverse, 0, r.reverse, Heap.get?_push_size _ rfl⟩
    · cases hd
end
end Z

set_option Elab.async false
set_option linter.all false
set_option maxRecDepth 100000
set_option maxHeartbeats 4000000
/-! Z4: readings of the evaluator, what is walked -/
namespace Z
open PySem PySem.Spec PyProof.Rows L2

/-! ### readings -/
def KN (K : PySem.W.Frag) (m : Mp) (H : Hp) (d : D) (hs' : Hs) (Q : VK) : Prop := ∀ m' v H', Go m H m' H' → RH K m' H' hs' → Rep K m' H' v d → Q v H'
def KF (K : PySem.W.Frag) (m : Mp) (H : Hp) (d : D) (hs' : Hs) (Q : VK) : Prop :=
  match d with
  | .lst ds => ∀ m' vs p H', Go m H m' H' → RH K m' H' hs' → H' p = none → Reps K m' H' vs ds → Q (.ref p) (upd H' p (.lst vs))
  | .dk kvs => ∀ m' (us : List (Key × V)) p H', Go m H m' H' → RH K m' H' hs' → H' p = none → us.map (·.1) = kvs.map (·.1) → Reps K m' H' (us.map (·.2)) (kvs.map (·.2)) → Q (.ref p) (upd H' p (.dK us))
  | .dt kvs => ∀ m' (us : List (List Key × V)) p H', Go m H m' H' → RH K m' H' hs' → H' p = none → us.map (·.1) = kvs.map (·.1) → Reps K m' H' (us.map (·.2)) (kvs.map (·.2)) → Q (.ref p) (upd H' p (.dT us))
  | _ => False
def tE (K : PySem.W.Frag) (ev : Ev → Hs → Option (D × Hs)) : TE := fun σ H Q => ∃ m e hs d hs', RE K m H σ e ∧ RH K m H hs ∧ ev e hs = some (d, hs') ∧ KN K m H d hs' Q
/-- of a fresh thing -/
def tEF (K : PySem.W.Frag) (ev : Ev → Hs → Option (D × Hs)) : TE := fun σ H Q => ∃ m e hs d hs', RE K m H σ e ∧ RH K m H hs ∧ ev e hs = some (d, hs') ∧ KF K m H d hs' Q
def tT (K : PySem.W.Frag) (ev : Ev → Hs → Option (D × Hs)) : TT := fun σ H Q => ∃ m e hs b hs', RE K m H σ e ∧ RH K m H hs ∧ ev e hs = some (.bl b, hs') ∧ ∀ m' H', Go m H m' H' → RH K m' H' hs' → Q b H'
def tA (K : PySem.W.Frag) (ev : Ev → Hs → Option (List D × Hs)) : TA := fun σ H Q => ∃ m e hs ds hs', RE K m H σ e ∧ RH K m H hs ∧ ev e hs = some (ds, hs') ∧ ∀ m' vs H', Go m H m' H' → RH K m' H' hs' → Reps K m' H' vs ds → Q vs H'
def isOb : D → Prop
  | .lst _ => True
  | .dk _ => True
  | .dt _ => True
  | _ => False
theorem KN.f {K : PySem.W.Frag} {m : Mp} {H : Hp} {d : D} {hs' : Hs} {Q : VK} (a : KN K m H d hs' Q) (hd : isOb d) : KF K m H d hs' Q := by
  cases d <;> first
    | exact hd.elim
    | skip
  · intro m' vs p H' g r hp q
    exact a m' _ _ (g.trans (Go.same (same_new hp))) (r.same (same_new hp)) (.lst (r.fz hp) (q.mono (Go.same (same_new hp))))
  · intro m' vs p H' g r hp e q
    exact a m' _ _ (g.trans (Go.same (same_new hp))) (r.same (same_new hp)) (.dk (r.fz hp) e (q.mono (Go.same (same_new hp))))
  · intro m' vs p H' g r hp e q
    exact a m' _ _ (g.trans (Go.same (same_new hp))) (r.same (same_new hp)) (.dt (r.fz hp) e (q.mono (Go.same (same_new hp))))
/-- from where the parts have been reckoned -/
theorem KN.af {K : PySem.W.Frag} {m m1 : Mp} {H H1 : Hp} {d : D} {hs' : Hs} {Q : VK} (a : KN K m H d hs' Q) (g : Go m H m1 H1) (r : RH K m1 H1 hs') : Af K m1 H1 d Q :=
  .inl fun v H' s q => a m1 v H' (g.trans (Go.same s)) (r.same s) q
theorem KF.af {K : PySem.W.Frag} {m m1 : Mp} {H H1 : Hp} {d : D} {hs' : Hs} {Q : VK} (a : KF K m H d hs' Q) (g : Go m H m1 H1) (r : RH K m1 H1 hs') : Af K m1 H1 d Q := by
  refine .inr ?_
  cases d <;> first
    | exact a
    | skip
  · intro vs p H' s hp q
    exact a m1 vs p H' (g.trans (Go.same s)) (r.same s) hp q
  · intro vs p H' s hp e q
    exact a m1 vs p H' (g.trans (Go.same s)) (r.same s) hp e q
  · intro vs p H' s hp e q
    exact a m1 vs p H' (g.trans (Go.same s)) (r.same s) hp e q
section
variable {X : Cx}
theorem _root_.L2.PE.mono {e : Expr} {t t' : TE} (h : PE X e t) (q : ∀ σ H Q, t' σ H Q → t σ H Q) : PE X e t' := ⟨fun pins s σ H Q I hw => h.run pins s σ H Q I (q σ H Q hw)⟩
theorem _root_.L2.PT.mono {e : Expr} {t t' : TT} (h : PT X e t) (q : ∀ σ H Q, t' σ H Q → t σ H Q) : PT X e t' := ⟨fun pins s σ H Q I hw => h.run pins s σ H Q I (q σ H Q hw)⟩
theorem _root_.L2.PW.mono {e : Expr} {t t' : TT} (h : PW X e t) (q : ∀ σ H Q, t' σ H Q → t σ H Q) : PW X e t' := ⟨fun wh pins s σ H Q I hw => h.run wh pins s σ H Q I (q σ H Q hw)⟩
theorem _root_.L2.PA.mono {e : List Expr} {t t' : TA} (h : PA X e t) (q : ∀ σ H Q, t' σ H Q → t σ H Q) : PA X e t' := ⟨fun pos pins s σ H Q I hw => h.run pos pins s σ H Q I (q σ H Q hw)⟩
theorem _root_.L2.PE.or {e : Expr} {t t' : TE} (h : PE X e t) (h' : PE X e t') : PE X e (fun σ H Q => t σ H Q ∨ t' σ H Q) := ⟨fun pins s σ H Q I hw => hw.elim (h.run pins s σ H Q I) (h'.run pins s σ H Q I)⟩
theorem _root_.L2.PS.mono {e : Stmt} {t t' : TS} (h : PS X e t) (q : ∀ D σ H, t' D σ H → t D σ H) : PS X e t' := ⟨fun pins s σ H D I hw => h.run pins s σ H D I (q D σ H hw)⟩
theorem _root_.L2.PSs.mono {e : List Stmt} {t t' : TS} (h : PSs X e t) (q : ∀ D σ H, t' D σ H → t D σ H) : PSs X e t' := ⟨fun pins s σ H D I hw => h.run pins s σ H D I (q D σ H hw)⟩
theorem _root_.L2.PG.mono {e : Expr} {t t' : TG} (h : PG X e t) (q : ∀ v σ H Q, t' v σ H Q → t v σ H Q) : PG X e t' := ⟨fun pins s σ H v u Q I r hw => h.run pins s σ H v u Q I r (q v σ H Q hw)⟩
theorem _root_.L2.PG.or {e : Expr} {t t' : TG} (h : PG X e t) (h' : PG X e t') : PG X e (fun v σ H Q => t v σ H Q ∨ t' v σ H Q) := ⟨fun pins s σ H v u Q I r hw => hw.elim (h.run pins s σ H v u Q I r) (h'.run pins s σ H v u Q I r)⟩
theorem _root_.L2.PGs.mono {e : List Expr} {t t' : TGs} (h : PGs X e t) (q : ∀ v σ H Q, t' v σ H Q → t v σ H Q) : PGs X e t' := ⟨fun pins s σ H v u Q I r hw => h.run pins s σ H v u Q I r (q v σ H Q hw)⟩
theorem _root_.L2.PI.mono {tg e : Expr} {t t' : TI} (h : PI X tg e t) (q : ∀ σ H Q, t' σ H Q → t σ H Q) : PI X tg e t' := ⟨fun pins s σ H Q I hw => h.run pins s σ H Q I (q σ H Q hw)⟩
theorem _root_.L2.PI.or {tg e : Expr} {t t' : TI} (h : PI X tg e t) (h' : PI X tg e t') : PI X tg e (fun σ H Q => t σ H Q ∨ t' σ H Q) := ⟨fun pins s σ H Q I hw => hw.elim (h.run pins s σ H Q I) (h'.run pins s σ H Q I)⟩
/-- a fresh thing's reading is a thing's reading -/
theorem _root_.L2.PE.ofF {e : Expr} {ev : Ev → Hs → Option (D × Hs)} (h : PE X e (tEF X.K ev)) (hd : ∀ v s d s', ev v s = some (d, s') → isOb d) : PE X e (tE X.K ev) :=
  h.mono fun σ H Q ⟨m, e, hs, d, hs', h1, h2, h3, h4⟩ => ⟨m, e, hs, d, hs', h1, h2, h3, h4.f (hd _ _ _ _ h3)⟩
theorem _root_.L2.PT.ofE {e : Expr} {ev : Ev → Hs → Option (D × Hs)} (h : PE X e (tE X.K ev)) (he : ∀ whole, isTrue e X.env whole = (do let v ← whole; standAt e.pos; holding [v] (truthy v))) : PT X e (tT X.K ev) :=
  (pt_val h he).mono fun σ H Q ⟨m, e, hs, b, hs', h1, h2, h3, h4⟩ => ⟨m, e, hs, _, hs', h1, h2, h3, fun m' v H' g r q => ⟨b, rep_bl q, h4 m' H' g r⟩⟩
end

/-! ### what is walked -/
structure SrcOk (K : PySem.W.Frag) (m0 : Mp) (H0 : Hp) (src : Src) (J : It) : Prop where
  go : ∀ m H hs i, Gw m0 H0 m H → RH K m H hs → okSrc hs src → i < src.1.length → J.go i H
  yld : ∀ m H hs i v H' d, Gw m0 H0 m H → RH K m H hs → okSrc hs src → src.1[i]? = some d → J.yld i H v H' → Same H H' ∧ Rep K m H' v d
  stop : ∀ m H hs i, Gw m0 H0 m H → RH K m H hs → okSrc hs src → i = src.1.length → J.stop i H
def tI (K : PySem.W.Frag) (ev : Ev → Hs → Option (Src × Hs)) : TI := fun σ H R => ∃ m e hs src hs', RE K m H σ e ∧ RH K m H hs ∧ ev e hs = some (src, hs') ∧ ∀ m' H' J, Go m H m' H' → RH K m' H' hs' → SrcOk K m' H' src J → R J H'
section
variable {K : PySem.W.Frag} {m : Mp} {H : Hp}
theorem src_lst {a : Addr} {vs : List V} {ds : List D} (h : Fz m H a (.lst vs)) (r : Reps K m H vs ds) : SrcOk K m H (ds, []) (Itl K a) where
  go := fun m' H' hs i g _ _ hi => by
    have h' := h.monoW g
    obtain ⟨v, e, _⟩ := r.get (List.getElem?_eq_getElem hi)
    exact ⟨vs, v, h'.sqL, e⟩
  yld := fun m' H' hs i v H2 d g _ _ hd hy => by
    obtain ⟨rfl, hy⟩ := hy
    have h' := h.monoW g
    obtain ⟨w, e, q⟩ := r.get hd
    have := hy vs h'.sqL
    rw [e] at this
    cases this
    exact ⟨Same.refl _, q.monoW g⟩
  stop := fun m' H' hs i g _ _ hi => ⟨vs, (h.monoW g).sqL, by rw [r.length, hi]; exact Nat.le_refl _⟩
theorem src_tup {a : Addr} {vs : List V} {ds : List D} (h : Fz m H a (.tup vs)) (r : Reps K m H vs ds) : SrcOk K m H (ds, []) (Itt K a) where
  go := fun m' H' hs i g _ _ hi => by
    have h' := h.monoW g
    obtain ⟨v, e, _⟩ := r.get (List.getElem?_eq_getElem hi)
    exact ⟨vs, v, h'.sqT, e⟩
  yld := fun m' H' hs i v H2 d g _ _ hd hy => by
    obtain ⟨rfl, hy⟩ := hy
    have h' := h.monoW g
    obtain ⟨w, e, q⟩ := r.get hd
    have := hy vs h'.sqT
    rw [e] at this
    cases this
    exact ⟨Same.refl _, q.monoW g⟩
  stop := fun m' H' hs i g _ _ hi => ⟨vs, (h.monoW g).sqT, by rw [r.length, hi]; exact Nat.le_refl _⟩
theorem src_scr {a : Addr} {ns : List Int} (h : Scr K m H a (ns.map V.int)) : SrcOk K m H (ns.map .int, []) (Itl K a) where
  go := fun m' H' hs i g _ _ hi => by
    have h' := h.monoW g
    have hi' : i < ns.length := by simpa using hi
    exact ⟨_, .int ns[i], h'.sq, by rw [List.getElem?_map, List.getElem?_eq_getElem hi']; rfl⟩
  yld := fun m' H' hs i v H2 d g _ _ hd hy => by
    obtain ⟨rfl, hy⟩ := hy
    have h' := h.monoW g
    have e := hy _ h'.sq
    rw [List.getElem?_map] at e hd
    obtain ⟨n, en, rfl⟩ := Option.map_eq_some_iff.mp e
    rw [en] at hd
    cases hd
    exact ⟨Same.refl _, .int _⟩
  stop := fun m' H' hs i g _ _ hi => ⟨_, (h.monoW g).sq, by rw [hi]; simp⟩
theorem src_ref {n : Nat} {a : Addr} {ds : List D} (h : m.r[n]? = some a) : SrcOk K m H (ds, [(n, ds)]) (Itl K a) where
  go := fun m' H' hs i g hr ho hi => by
    obtain ⟨a', e1, vs, e2, r⟩ := hr.ob _ _ (ho _ List.mem_cons_self)
    rw [g.ref _ _ h] at e1
    cases e1
    obtain ⟨v, e, _⟩ := r.get (List.getElem?_eq_getElem hi)
    exact ⟨vs, v, .of e2, e⟩
  yld := fun m' H' hs i v H2 d g hr ho hd hy => by
    obtain ⟨rfl, hy⟩ := hy
    obtain ⟨a', e1, vs, e2, r⟩ := hr.ob _ _ (ho _ List.mem_cons_self)
    rw [g.ref _ _ h] at e1
    cases e1
    obtain ⟨w, e, q⟩ := r.get hd
    have := hy vs (.of e2)
    rw [e] at this
    cases this
    exact ⟨Same.refl _, q⟩
  stop := fun m' H' hs i g hr ho hi => by
    obtain ⟨a', e1, vs, e2, r⟩ := hr.ob _ _ (ho _ List.mem_cons_self)
    rw [g.ref _ _ h] at e1
    cases e1
    exact ⟨vs, .of e2, by rw [r.length, hi]; exact Nat.le_refl _⟩
theorem rngL_len : ∀ (n : Nat) (lo : Int), (rngL lo n).length = n
  | 0, _ => rfl
  | n + 1, lo => by simp only [rngL, List.length_cons, rngL_len n]
theorem rngL_get : ∀ (n : Nat) (lo : Int) (i : Nat), i < n → (rngL lo n)[i]? = some (.int (lo + i))
  | 0, _, _, h => by omega
  | n + 1, lo, 0, _ => by simp [rngL]
  | n + 1, lo, i + 1, h => by
    simp only [rngL, List.getElem?_cons_succ]
    rw [rngL_get n (lo + 1) i (by omega)]
    congr 2
    omega
theorem src_rng {lo : Int} {n : Nat} : SrcOk K m H (rngL lo n, []) (Itr lo n) where
  go := fun m' H' hs i g _ _ hi => by
    rw [rngL_len] at hi
    exact hi
  yld := fun m' H' hs i v H2 d g _ _ hd hy => by
    obtain ⟨rfl, rfl⟩ := hy
    have hi : i < n := by
      have := (List.getElem?_eq_some_iff.mp hd).1
      rwa [rngL_len] at this
    rw [rngL_get n lo i hi] at hd
    cases hd
    exact ⟨Same.refl _, .int _⟩
  stop := fun m' H' hs i g _ _ hi => by
    rw [rngL_len] at hi
    exact Nat.le_of_eq hi.symm
end
end Z

set_option Elab.async false
set_option linter.all false
set_option maxRecDepth 100000
set_option maxHeartbeats 4000000
/-! Z4b: enumerate of a tuple, pairs given out -/
namespace Z
open PySem PySem.Spec PyProof.Rows L2
theorem enum_new1 {v : Value} {o : Obj} {P : Heap → Prop} (B : Begins v o P) :
    Meets (Builtin.«enumerate.__new__» ⟨[.type "enumerate", v], []⟩) (fun _ R s => P s.heap ∧
      R (.ok (.ret (.ref (s.heap.push o).objs.size))) { s with heap := (s.heap.push o).push { cls := .type "enumerate", data := .fields #[.none, .bool false, .ref s.heap.objs.size, rawInt 0, .none, .none] } }) :=
  .of_wp fun prog w A R s hh => by
    obtain ⟨hp, g, d, tk, os⟩ := s; obtain ⟨p1, p2⟩ := hh
    have hsub := sub_enumerate
    have q1 : ∀ {A' : Around} {E : Value → Shared → Prop} {Q : Value → Shared → Prop}, Q (.ref hp.objs.size) ⟨hp.push o, g, d, tk, os⟩ → wpAny (model prog w) A' (pyIter v) Q E ⟨hp, g, d, tk, os⟩ :=
      fun q => B.iter prog w _ _ ⟨hp, g, d, tk, os⟩ _ p1 q
    wp_walk using q1
    refine wpAny_stack_any fun st => wpAny_pure ?_
    split
    · rename_i c _ _ _ _ _
      cases (c == Value.type "enumerate")
      · wp_walk using q1
        exact ⟨_, rfl, p2⟩
      · wp_walk using q1
        exact ⟨_, rfl, p2⟩
    · wp_walk using q1
      exact ⟨_, rfl, p2⟩
section
variable {prog : Program} {w : World} {A : Around} {E : Value → Shared → Prop} {s : Shared}
theorem enum_begins1 {v : Value} {o : Obj} {P : Heap → Prop} {Q : Value → Shared → Prop} (B : Begins v o P) (p1 : P s.heap)
    (q : ∀ h', IsEnum h' (s.heap.objs.size + 1) s.heap.objs.size 0 .none → h'.get? s.heap.objs.size = some o → (∀ b ob, s.heap.get? b = some ob → h'.get? b = some ob) → Q (.ref (s.heap.objs.size + 1)) { s with heap := h' }) :
    wpAny (model prog w) A (call (.type "enumerate") [v]) Q E s := by
  refine callType_new F.called_enumerate (by decide) (F.typeCall_enumerate_1 _) (F.newCall_enumerate_1 _) (fun obj => F.args_object_init_2 obj _) F.entry_enumerate_new (enum_new1 B) ⟨p1, ?_⟩
  have sz : (s.heap.push o).objs.size = s.heap.objs.size + 1 := Heap.size_push ..
  show _ ∧ _
  rw [sz]
  have ie : IsEnum ((s.heap.push o).push { cls := .type "enumerate", data := .fields #[.none, .bool false, .ref s.heap.objs.size, rawInt 0, .none, .none] }) (s.heap.objs.size + 1) s.heap.objs.size 0 .none := by
    have z := Heap.get?_push_size (s.heap.push o) (o := { cls := .type "enumerate", data := .fields #[.none, .bool false, .ref s.heap.objs.size, rawInt 0, .none, .none] }) rfl
    rw [sz] at z; exact z
  exact ⟨⟨_, ie, rfl⟩, q _ ie (Heap.get?_push_of_some _ (Heap.get?_push_size _ B.free)) fun b ob x => Heap.get?_push_of_some _ (Heap.get?_push_of_some _ x)⟩
end
def IteT (K : PySem.W.Frag) (a : Addr) : It :=
  ⟨fun i H => ∃ (xs : List V) (x : V), SqT K H a xs ∧ xs[i]? = some x, fun i H v H' => ∃ T x, v = .ref T ∧ H T = none ∧ H' = upd H T (.tup [.int (i : Nat), x]) ∧ ∀ xs, SqT K H a xs → xs[i]? = some x, fun i H => ∃ xs : List V, SqT K H a xs ∧ xs.length = i⟩
theorem turn_enumT {P : Program} {w : World} {K : PySem.W.Frag} {elts : List Expr} {kk : Nat} {tpos : Pos} (a e it : Addr) :
    Turn P w K (.Tuple elts kk tpos) (IteT K a) [e, it] e (fun i h => (∃ old, IsEnum h e it ((i : Nat) : Int) old) ∧ h.IsTupleIter it a i ∧ e ≠ it ∧ a ≠ it ∧ a ≠ e) where
  mem := by simp
  obj := fun i h st b hb => by
    obtain ⟨⟨old, he⟩, ⟨o, ho, hc, hd⟩, _⟩ := st
    have e' : b = e ∨ b = it := by simpa using hb
    rcases e' with z | z
    · rw [z]; exact ⟨_, he, fun v q => nomatch q⟩
    · rw [z]; exact ⟨o, ho, fun v q => by rw [hd] at q; cases q⟩
  keep := fun i h h' st k => let ⟨⟨old, he⟩, hi, hne⟩ := st; ⟨⟨old, k e (by simp) _ he⟩, hi.at fun o q => k it (by simp) o q, hne⟩
  item := by
    intro X hP hw hK hc i pins s σ H E I hf st hg
    subst hP hw hK
    obtain ⟨⟨old, he⟩, hit, hne, n1, n2⟩ := st
    obtain ⟨xs, x, hq, hx⟩ := hg
    obtain ⟨its, rv, p, hz⟩ := I.tuple hq
    have hh := I.ok.hd hc
    have G := GoesN.enumFrom (prog := X.prog) (w := X.w) (A := X.A) (elts := elts) (x1 := kk) (pos := tpos) 0 (Draws.tuple (prog := X.prog) (w := X.w) (A := X.A.in1) hh it a n1 its.toArray) e hne (by simp [hne, Ne.symm n2]) (by simp)
    have hi : i < its.toArray.size := by
      have := (List.getElem?_eq_some_iff.mp hx).1
      rw [List.size_toArray, ← rv.length]
      exact this
    refine G.goes i s _ E hi ⟨⟨old, by simpa using he⟩, hit, p⟩ fun v h' tk hY st' hk htk => ?_
    obtain ⟨T, t, u, rfl, hT, hu, hT2⟩ := hY
    obtain ⟨⟨old', he'⟩, hit', _⟩ := st'
    obtain ⟨x', hx', ru⟩ : ∃ x', xs[i]? = some x' ∧ RelV x' u := by
      obtain ⟨u', hu', r'⟩ := rv.get hx
      have : its.toArray[i]? = some u' := by simpa using hu'
      rw [this] at hu
      cases hu
      exact ⟨x, hx, r'⟩
    rw [hx] at hx'
    cases hx'
    have new : ObjOk X.prog X.w (upd H T (.tup [.int (i : Nat), x])) h' T (.tup [.int (i : Nat), x]) := by
      refine ⟨by show 2 ≤ sizeLine; decide, [.int i t, u], .cons ⟨_, rfl⟩ (.cons ru .nil), ?_⟩
      have z : (0 : Int) + (i : Int) = i := by omega
      rw [z] at hT2
      exact hT2
    have I1 : L2.Inv X pins σ (upd H T (.tup [.int (i : Nat), x])) { s with heap := h', toks := tk } :=
      I.turnedNew (ch := [e, it]) (fun b ob hb q => hk b ob hb q) hf hT new
    refine ⟨.ref T, _, I1, rfl, ⟨T, x, rfl, I.hok.fresh hT, rfl, fun ys hy => by rw [I.tuple_inj hy hq]; exact hx⟩, ⟨⟨old', ?_⟩, hit', hne, n1, n2⟩, fun b hb => ?_⟩
    · have e1 : (0 : Int) + ((i + 1 : Nat) : Int) = ((i + 1 : Nat) : Int) := by omega
      rw [e1] at he'; exact he'
    · have hb' : b < s.heap.objs.size := by
        have e' : b = e ∨ b = it := by simpa using hb
        rcases e' with z | z
        · rw [z]; exact Heap.lt_size he
        · rw [z]
          obtain ⟨_, q, _⟩ := hit
          exact Heap.lt_size q
      rw [upd_ne (Nat.ne_of_lt (Nat.lt_of_lt_of_le hb' hT))]
      exact (hf b hb).1
  done := by
    intro X hP hw hK hc i pins s σ H E I hf st hg
    subst hP hw hK
    obtain ⟨⟨old, he⟩, hit, hne, n1, n2⟩ := st
    obtain ⟨xs, hq, hx⟩ := hg
    obtain ⟨its, rv, p, hz⟩ := I.tuple hq
    have hh := I.ok.hd hc
    have hl := rv.length
    have hsz : its.toArray.size = i := by rw [List.size_toArray]; omega
    refine wpAny_pyNext_enum_endD (Draws.tuple (prog := X.prog) (w := X.w) (A := X.A.in1) hh it a n1 its.toArray) he (by rw [hsz]; exact ⟨hit, p⟩) fun h' eb => ⟨rfl, I.turned (t' := s.toks) (fun b o hb q => eb b o hb q) (hf it (by simp)).1 (hf it (by simp)).2.1 (hf it (by simp)).2.2.2.1 (hf it (by simp)).2.2.2.2.1 (hf it (by simp)).2.2.2.2.2⟩
  self := fun A i s Q E st h => let ⟨⟨_, he⟩, _⟩ := st; wpAny_pyIter_enum he h

def iEnumT (K : PySem.W.Frag) (ta : TA) : TI := fun σ H R => ta σ H fun vs H1 => ∃ a xs, vs = [.ref a] ∧ SqT K H1 a xs ∧ R (IteT K a) H1
theorem pi_enumT {X : Cx} {e : Expr} {ta : TA} {p pos tpos : Pos} {elts : List Expr} {kk : Nat} (hg : Gl X "enumerate") (hm : X.mg "enumerate" = none) (ha : PA X [e] ta) (hs : starEach [e] X.env = [(false, eval e X.env)]) :
    PI X (.Tuple elts kk tpos) (.Call (.Name "enumerate" p) [e] [] pos) (iEnumT X.K ta) := by
  refine ⟨fun pins s σ H R I h => ?_⟩
  refine Call_ (ld_blt I hg hm boot_enumerate (PyProof.Rows.callWith_type1 (thn (ha.run pos pins s σ H _ I h) fun us s1 ⟨vs, H1, I1, r1, a, xs, ex, hq, q⟩ => ?_) hs rfl))
  subst ex
  cases r1 with
  | cons r rr =>
    cases rr
    cases r
    obtain ⟨its, rv, p', hz⟩ := I1.tuple hq
    have hlt : a < s1.heap.objs.size := p'.lt
    refine enum_begins1 (begins_tuple a its.toArray) p' fun h' he ho hk => wpAny_pyIter_enum he ?_
    have I2 : L2.Inv X pins σ H1 { s1 with heap := h' } := I1.kept (t' := s1.toks) hk
    refine ⟨s1.heap.objs.size + 1, [s1.heap.objs.size + 1, s1.heap.objs.size], _, _, H1, rfl, I2, turn_enumT a (s1.heap.objs.size + 1) s1.heap.objs.size,
      ⟨⟨.none, he⟩, ⟨_, ho, rfl, rfl⟩, Nat.succ_ne_self _, Nat.ne_of_lt hlt, Nat.ne_of_lt (Nat.lt_succ_of_lt hlt)⟩, fun b hb => ?_, q⟩
    have e' : b = s1.heap.objs.size + 1 ∨ b = s1.heap.objs.size := by simpa using hb
    have hle : s1.heap.objs.size ≤ b := by
      rcases e' with z | z
      · rw [z]; exact Nat.le_add_right _ _
      · rw [z]; exact Nat.le_refl _
    exact I1.fpOk hle (I1.hok.fresh hle)

section
variable {K : PySem.W.Frag} {m : Mp} {H : Hp}
theorem enumL_len : ∀ (l : List D) (k : Int), (enumL k l).length = l.length
  | [], _ => rfl
  | x :: r, k => by simp only [enumL, List.length_cons, enumL_len r]
theorem enumL_get : ∀ (l : List D) (k : Int) (i : Nat), (enumL k l)[i]? = l[i]?.map fun x => D.tup [.int (k + i), x]
  | [], _, _ => by simp [enumL]
  | x :: r, k, 0 => by simp [enumL]
  | x :: r, k, i + 1 => by
    simp only [enumL, List.getElem?_cons_succ]
    rw [enumL_get r (k + 1) i]
    congr 1
    funext x
    have : k + 1 + (i : Int) = k + ((i + 1 : Nat) : Int) := by omega
    rw [this]
theorem pair_new {hs : Hs} {H' : Hp} {T : Addr} {x y : V} {d e : D} (hr : RH K m H hs) (hT : H T = none) (e1 : H' = upd H T (.tup [x, y])) (rx : Rep K m H x d) (ry : Rep K m H y e) : Same H H' ∧ Rep K m H' (.ref T) (.tup [d, e]) := by
  subst e1
  have g := Go.same (m := m) (same_new (o := .tup [x, y]) hT)
  exact ⟨same_new hT, .tup (hr.fz hT) (.cons (rx.mono g) (.cons (ry.mono g) .nil))⟩
theorem src_enumL {a : Addr} {vs : List V} {ds : List D} (h : Fz m H a (.lst vs)) (r : Reps K m H vs ds) : SrcOk K m H (enumL 0 ds, []) (Ite K a) where
  go := fun m' H' hs i g _ _ hi => by
    rw [enumL_len] at hi
    have h' := h.monoW g
    obtain ⟨v, e, _⟩ := r.get (List.getElem?_eq_getElem hi)
    exact ⟨vs, v, h'.sqL, e⟩
  yld := fun m' H' hs i v H2 d g hr _ hd hy => by
    obtain ⟨T, x, rfl, hT, eH, hy⟩ := hy
    have h' := h.monoW g
    rw [enumL_get] at hd
    obtain ⟨w, ew, rfl⟩ := Option.map_eq_some_iff.mp hd
    obtain ⟨u, e, q⟩ := r.get ew
    have := hy vs h'.sqL
    rw [e] at this
    cases this
    have z : (0 : Int) + (i : Int) = i := by omega
    rw [z]
    exact pair_new hr hT eH (.int _) (q.monoW g)
  stop := fun m' H' hs i g _ _ hi => by
    rw [enumL_len] at hi
    exact ⟨vs, (h.monoW g).sqL, by rw [r.length, hi]; exact Nat.le_refl _⟩
theorem src_enumR {n : Nat} {a : Addr} {ds : List D} (h : m.r[n]? = some a) : SrcOk K m H (enumL 0 ds, [(n, ds)]) (Ite K a) where
  go := fun m' H' hs i g hr ho hi => by
    rw [enumL_len] at hi
    obtain ⟨a', e1, vs, e2, r⟩ := hr.ob _ _ (ho _ List.mem_cons_self)
    rw [g.ref _ _ h] at e1
    cases e1
    obtain ⟨v, e, _⟩ := r.get (List.getElem?_eq_getElem hi)
    exact ⟨vs, v, .of e2, e⟩
  yld := fun m' H' hs i v H2 d g hr ho hd hy => by
    obtain ⟨T, x, rfl, hT, eH, hy⟩ := hy
    obtain ⟨a', e1, vs, e2, r⟩ := hr.ob _ _ (ho _ List.mem_cons_self)
    rw [g.ref _ _ h] at e1
    cases e1
    rw [enumL_get] at hd
    obtain ⟨w, ew, rfl⟩ := Option.map_eq_some_iff.mp hd
    obtain ⟨u, e, q⟩ := r.get ew
    have := hy vs (.of e2)
    rw [e] at this
    cases this
    have z : (0 : Int) + (i : Int) = i := by omega
    rw [z]
    exact pair_new hr hT eH (.int _) q
  stop := fun m' H' hs i g hr ho hi => by
    rw [enumL_len] at hi
    obtain ⟨a', e1, vs, e2, r⟩ := hr.ob _ _ (ho _ List.mem_cons_self)
    rw [g.ref _ _ h] at e1
    cases e1
    exact ⟨vs, .of e2, by rw [r.length, hi]; exact Nat.le_refl _⟩
theorem src_enumT {a : Addr} {vs : List V} {ds : List D} (h : Fz m H a (.tup vs)) (r : Reps K m H vs ds) : SrcOk K m H (enumL 0 ds, []) (IteT K a) where
  go := fun m' H' hs i g _ _ hi => by
    rw [enumL_len] at hi
    have h' := h.monoW g
    obtain ⟨v, e, _⟩ := r.get (List.getElem?_eq_getElem hi)
    exact ⟨vs, v, h'.sqT, e⟩
  yld := fun m' H' hs i v H2 d g hr _ hd hy => by
    obtain ⟨T, x, rfl, hT, eH, hy⟩ := hy
    have h' := h.monoW g
    rw [enumL_get] at hd
    obtain ⟨w, ew, rfl⟩ := Option.map_eq_some_iff.mp hd
    obtain ⟨u, e, q⟩ := r.get ew
    have := hy vs h'.sqT
    rw [e] at this
    cases this
    have z : (0 : Int) + (i : Int) = i := by omega
    rw [z]
    exact pair_new hr hT eH (.int _) (q.monoW g)
  stop := fun m' H' hs i g _ _ hi => by
    rw [enumL_len] at hi
    exact ⟨vs, (h.monoW g).sqT, by rw [r.length, hi]⟩
theorem zipL_len : ∀ (l l' : List D), (zipL l l').length = min l.length l'.length
  | [], _ => by simp [zipL]
  | _ :: _, [] => by simp [zipL]
  | x :: r, y :: r' => by
    simp only [zipL, List.length_cons, zipL_len r r']
    omega
theorem zipL_get : ∀ (l l' : List D) (i : Nat) (d : D), (zipL l l')[i]? = some d → ∃ x y, l[i]? = some x ∧ l'[i]? = some y ∧ d = .tup [x, y]
  | [], _, _, _, h => by simp [zipL] at h
  | _ :: _, [], _, _, h => by simp [zipL] at h
  | x :: r, y :: r', 0, d, h => by
    simp [zipL] at h
    exact ⟨x, y, rfl, rfl, h.symm⟩
  | x :: r, y :: r', i + 1, d, h => by
    simp only [zipL, List.getElem?_cons_succ] at h
    exact zipL_get r r' i d h
end
end Z

set_option Elab.async false
set_option linter.all false
set_option maxRecDepth 100000
set_option maxHeartbeats 4000000
/-! Z5: the program's text and the small language -/
namespace Z
open PySem PySem.Spec PyProof.Rows L2

/-! ### looks at the text -/
def visB (sc : Scope) (x : Str) : Bool := match sc.names.lookup x with
  | some .local => true
  | some .cell => true
  | some .free => true
  | _ => false
def ownB (sc : Scope) (x : Str) : Bool := match sc.names.lookup x with
  | some .local => true
  | some .cell => true
  | _ => false
def glB (sc : Scope) (x : Str) : Bool := match sc.names.lookup x with
  | some .globalImplicit => true
  | _ => false
def okN (x : Str) : Bool := (x == ("__debug__" : Str)) == false && (x == ("__classdict__" : Str)) == false
def isStar : Expr → Bool
  | .Starred _ _ => true
  | _ => false
def isSlice : Expr → Bool
  | .Slice _ _ _ _ => true
  | _ => false
def plainO : Expr → Bool
  | .Name _ _ => true
  | .Subscript _ _ _ => true
  | _ => false
def biN : Bi → Str
  | .len => "len" | .abs => "abs" | .int1 => "int" | .max1 => "max" | .min1 => "min" | .max2 => "max" | .min2 => "min" | .sum => "sum" | .all => "all" | .any => "any"
  | .list => "list" | .tuple => "tuple" | .repr => "repr" | .sorted => "sorted" | .dictc => "dict" | .dictp => "dict" | .isa _ => "isinstance" | .vals => "list" | .lrng => "list" | .mind => "min" | .maxd => "max"
def mtN : Mt → Str
  | .append => "append" | .extend => "extend" | .pop => "pop" | .popat => "pop" | .get2 => "get" | .index => "index" | .count => "count" | .update => "update"
def bNames : List Str := ["len", "abs", "int", "max", "min", "sum", "all", "any", "list", "tuple", "repr", "sorted", "dict", "isinstance", "range", "enumerate", "zip", "bool", "str"]
/-- a thing made new -/
def isFr : Ex → Bool
  | .lst _ => true
  | .comp _ _ _ _ _ => true
  | .dcomp _ _ _ _ _ _ => true
  | .dct _ => true
  | .dnewt => true
  | .bi .list _ => true
  | .bi .sorted _ => true
  | .bi .dictc _ => true
  | .bi .vals _ => true
  | .bi .lrng _ => true
  | .bin .add _ _ => true
  | .bin .mul _ _ => true
  | .slc _ _ _ => true
  | _ => false
/-! the names of a target -/
mutual
def tgN : Tg → List Nat
  | .nm i => [i]
  | .tup ts => tgNs ts
  | .sub _ _ => []
def tgNs : Tgs → List Nat
  | .nil => []
  | .cons t r => tgN t ++ tgNs r
end
section
variable (N : List Str) (Γ : Nat → Option Str)
mutual
def mE (sc : Scope) : Ex → Expr → Bool
  | .nm i, .Name x _ => decide (N[i]? = some x) && visB sc x && okN x
  | .lnon, .Constant .none _ _ => true
  | .lbl b, .Constant (.bool c) _ _ => decide (b = c)
  | .lint i, .Constant (.int j) _ _ => decide (i = j)
  | .lstr s, .Constant (.str t) _ _ => decide (s = t)
  | .tup es, .Tuple xs _ _ => mA sc es xs
  | .lst es, .List xs _ => mA sc es xs
  | .bin op a b, .BinOp a' op' b' _ => decide (bopOf op = op') && mE sc a a' && mE sc b b'
  | .neg a, .UnaryOp .USub a' _ => mE sc a a'
  | .nt a, .UnaryOp .Not a' _ => mE sc a a'
  | .bool true a es, .BoolOp .And (x :: y :: xs) _ => mE sc a x && mB sc es (y :: xs)
  | .bool false a es, .BoolOp .Or (x :: y :: xs) _ => mE sc a x && mB sc es (y :: xs)
  | .cmp op a b, .Compare a' [op'] [b'] _ => decide (copOf op = op') && mE sc a a' && mE sc b b' && !behindInMarks op' b'
  | .cmp2 op1 op2 a b c, .Compare a' [o1, o2] [b', c'] _ => decide (copOf op1 = o1) && decide (copOf op2 = o2) && mE sc a a' && mE sc b b' && mE sc c c' && !lastMarks [o1, o2] [b', c']
  | .ife c a b, .IfExp c' a' b' _ => mE sc c c' && mE sc a a' && mE sc b b'
  | .call f es, .Call (.Name x _) (y :: ys) [] _ => decide (Γ f = some x) && glB sc x && okN x && mP sc es (y :: ys)
  | .bi (.isa t) (.cons false a .nil), .Call (.Name x _) [a', .Name t' _] [] _ => decide (x = "isinstance") && decide (t' = Str.ofString t) && glB sc x && glB sc t' && decide (t ∈ kinds) && !isStar a' && mE sc a a'
  | .bi .vals (.cons false a .nil), .Call (.Name x _) [.Call (.Attribute o' nm ap) [] [] cp] [] _ => decide (x = "list") && decide (nm = "values") && glB sc x && (ap.endLine == cp.line) && plainO o' && mE sc a o'
  | .bi .lrng (.cons false a .nil), .Call (.Name x _) [.Call (.Name x' _) [a'] [] _] [] _ => decide (x = "list") && decide (x' = "range") && glB sc x && glB sc x' && !isStar a' && mE sc a a'
  | .bi .lrng (.cons false a (.cons false b .nil)), .Call (.Name x _) [.Call (.Name x' _) [a', b'] [] _] [] _ => decide (x = "list") && decide (x' = "range") && glB sc x && glB sc x' && !isStar a' && !isStar b' && mE sc a a' && mE sc b b'
  | .bi f es, .Call (.Name x _) (y :: ys) [] _ => !isIsa f && decide (biN f = x) && glB sc x && mP sc es (y :: ys)
  | .mth .pop o .nil, .Call (.Attribute o' nm ap) [] [] cp => decide (nm = "pop") && (ap.endLine == cp.line) && plainO o' && mE sc o o'
  | .mth m o (.cons false a .nil), .Call (.Attribute o' nm ap) [y] [] cp => decide (m = .append ∨ m = .extend ∨ m = .popat ∨ m = .index ∨ m = .count) && decide (mtN m = nm) && (ap.endLine == cp.line) && plainO o' && !isStar y && mE sc o o' && mE sc a y
  | .mth .get2 o (.cons false a (.cons false b .nil)), .Call (.Attribute o' nm ap) [y, z] [] cp => decide (nm = "get") && (ap.endLine == cp.line) && plainO o' && !isStar y && !isStar z && mE sc o o' && mE sc a y && mE sc b z
  | .sub o i, .Subscript o' i' _ => !isSlice i' && mE sc o o' && mE sc i i'
  | .slc .lo o (.cons false a .nil), .Subscript o' (.Slice (some a') none none _) _ => mE sc o o' && mE sc a a'
  | .slc .hi o (.cons false a .nil), .Subscript o' (.Slice none (some a') none _) _ => mE sc o o' && mE sc a a'
  | .slc .lohi o (.cons false a (.cons false b .nil)), .Subscript o' (.Slice (some a') (some b') none _) _ => mE sc o o' && mE sc a a' && mE sc b b'
  | .slc .rev o .nil, .Subscript o' (.Slice none none (some (.UnaryOp .USub (.Constant (.int 1) _ _) _)) _) _ => mE sc o o'
  | .comp elt tg it ifs own, .ListComp elt' [⟨tg', it', ifs', 0⟩] sc' _ => ((tgN tg).all fun i => decide (i ∈ own)) && blkC N sc sc' (own.map fun i => (N.getD i (Str.ofString ""), i)) && mI sc it it' tg' && mT (relS sc' sc) sc' tg tg' && mC (relS sc' sc) ifs ifs' && mE (relS sc' sc) elt elt'
  | .dct .nil, .Dict [] [] _ => true
  | .dct ps, .Dict ks vs _ => !ks.isEmpty && decide (ks.length = vs.length) && decide (ks.length ≤ 15) && mD sc ps ks vs
  | .dcomp ke ve tg it ifs own, .DictComp ke' ve' [⟨tg', it', ifs', 0⟩] sc' _ => ((tgN tg).all fun i => decide (i ∈ own)) && blkC N sc sc' (own.map fun i => (N.getD i (Str.ofString ""), i)) && mI sc it it' tg' && mT (relS sc' sc) sc' tg tg' && mC (relS sc' sc) ifs ifs' && mE (relS sc' sc) ke ke' && mE (relS sc' sc) ve ve'
  | .dnewt, .Dict [] [] _ => true
  | .al a, e => isFr a && mE sc a e
  | _, _ => false
/-- items, with stars -/
def mA (sc : Scope) : Exs → List Expr → Bool
  | .nil, [] => true
  | .cons true a r, .Starred y _ :: ys => mE sc a y && mA sc r ys
  | .cons false a r, y :: ys => !isStar y && mE sc a y && mA sc r ys
  | _, _ => false
/-- arguments, no star -/
def mP (sc : Scope) : Exs → List Expr → Bool
  | .nil, [] => true
  | .cons false a r, y :: ys => !isStar y && mE sc a y && mP sc r ys
  | _, _ => false
/-- a dict's display -/
def mD (sc : Scope) : Exs → List (Option Expr) → List Expr → Bool
  | .nil, [], [] => true
  | .cons false a (.cons false b r), some k :: ks, v :: vs => mE sc a k && mE sc b v && mD sc r ks vs
  | _, _, _ => false
/-- the rest of an and, an or -/
def mB (sc : Scope) : Exs → List Expr → Bool
  | .cons false a .nil, [y] => mE sc a y
  | .cons false a (.cons b c r), y :: z :: ys => mE sc a y && mB sc (.cons b c r) (z :: ys)
  | _, _ => false
/-- a comprehension's tests -/
def mC (sc : Scope) : Exs → List Expr → Bool
  | .nil, [] => true
  | .cons false a .nil, [y] => mE sc a y
  | _, _ => false
/-- a target: own the scope whose names it may take -/
def mT (sc own : Scope) : Tg → Expr → Bool
  | .nm i, .Name x _ => decide (N[i]? = some x) && ownB own x
  | .tup ts, .Tuple es _ _ => mTs sc own ts es
  | .sub o i, .Subscript o' i' _ => !isSlice i' && mE sc o o' && mE sc i i'
  | _, _ => false
def mTs (sc own : Scope) : Tgs → List Expr → Bool
  | .nil, [] => true
  | .cons t r, e :: es => !isStar e && mT sc own t e && mTs sc own r es
  | _, _ => false
def isTup : Expr → Bool
  | .Tuple _ _ _ => true
  | _ => false
def mI (sc : Scope) : Iter → Expr → Expr → Bool
  | .rng (.cons false a .nil), .Call (.Name x _) [a'] [] _, _ => decide (x = "range") && glB sc x && !isStar a' && mE sc a a'
  | .rng (.cons false a (.cons false b .nil)), .Call (.Name x _) [a', b'] [] _, _ => decide (x = "range") && glB sc x && !isStar a' && !isStar b' && mE sc a a' && mE sc b b'
  | .enum a, .Call (.Name x _) [a'] [] _, tg => decide (x = "enumerate") && glB sc x && !isStar a' && isTup tg && mE sc a a'
  | .zip false a b, .Call (.Name x _) [a', b'] [] _, tg => decide (x = "zip") && glB sc x && !isStar a' && !isStar b' && isTup tg && mE sc a a' && mE sc b b'
  | .seq a, e, _ => mE sc a e && (match e with | .Set _ _ _ => false | _ => true)
  | _, _, _ => false
end
end

/-! ### what they tell -/
section
variable {N : List Str} {Γ : Nat → Option Str} {sc : Scope}
theorem star_cons {e : Expr} {es : List Expr} {env : Env} (h : isStar e = false) : starEach (e :: es) env = (false, eval e env) :: starEach es env := by
  cases e <;> first
    | rfl
    | cases h
theorem plainIx_of {e : Expr} (h : isSlice e = false) : PlainIx e := by
  intro o i
  cases e <;> first
    | rfl
    | cases h
theorem plainO_base {o : Expr} {m : Str} {env : Env} (h : plainO o = true) : attributeBase o m env (eval o env) = eval o env := by
  cases o <;> first
    | rfl
    | cases h
theorem nostar_any {env : Env} {pos : Pos} : ∀ {es : List Expr}, (∀ e ∈ es, isStar e = false) → (backTo pos (starEach es env)).any (·.1) = false
  | [], _ => rfl
  | e :: es, h => by
    rw [star_cons (h e List.mem_cons_self)]
    show (false || (backTo pos (starEach es env)).any (·.1)) = false
    rw [nostar_any fun x hx => h x (List.mem_cons_of_mem _ hx)]
    rfl
theorem nostar_all {env : Env} {pos : Pos} : ∀ {es : List Expr}, (∀ e ∈ es, isStar e = false) → (backTo pos (starEach es env)).all (fun x => !x.1) = true
  | [], _ => rfl
  | e :: es, h => by
    rw [star_cons (h e List.mem_cons_self)]
    show (true && (backTo pos (starEach es env)).all (fun x => !x.1)) = true
    rw [nostar_all fun x hx => h x (List.mem_cons_of_mem _ hx)]
    rfl
theorem mP_nostar : ∀ {es : Exs} {xs : List Expr}, mP N Γ sc es xs = true → ∀ e ∈ xs, isStar e = false
  | .nil, [], _, e, he => by cases he
  | .nil, _ :: _, h, _, _ => by simp [mP] at h
  | .cons true _ _, [], h, _, _ => by simp [mP] at h
  | .cons false _ _, [], h, _, _ => by simp [mP] at h
  | .cons true _ _, _ :: _, h, _, _ => by simp [mP] at h
  | .cons false a r, y :: ys, h, e, he => by
    simp only [mP, Bool.and_eq_true, Bool.not_eq_true'] at h
    rcases List.mem_cons.mp he with rfl | he
    · exact h.1.1
    · exact mP_nostar h.2 e he
theorem asEach_cons {e : Expr} {es : List Expr} {env : Env} (h : isStar e = false) : assignEach (e :: es) env = (false, assign e env) :: assignEach es env := by
  cases e <;> first
    | rfl
    | cases h
theorem mTs_nostar {own : Scope} : ∀ {es : Tgs} {xs : List Expr}, mTs N Γ sc own es xs = true → ∀ e ∈ xs, isStar e = false
  | .nil, [], _, e, he => by cases he
  | .nil, _ :: _, h, _, _ => by simp [mTs] at h
  | .cons _ _, [], h, _, _ => by simp [mTs] at h
  | .cons a r, y :: ys, h, e, he => by
    simp only [mTs, Bool.and_eq_true, Bool.not_eq_true'] at h
    rcases List.mem_cons.mp he with rfl | he
    · exact h.1.1
    · exact mTs_nostar h.2 e he
theorem asEach_len {env : Env} : ∀ {es : List Expr}, (∀ e ∈ es, isStar e = false) → (assignEach es env).length = es.length ∧ (assignEach es env).findIdx? (·.1) = none
  | [], _ => ⟨rfl, rfl⟩
  | e :: es, h => by
    obtain ⟨h1, h2⟩ := asEach_len (env := env) (es := es) fun x hx => h x (List.mem_cons_of_mem _ hx)
    rw [asEach_cons (h e List.mem_cons_self)]
    refine ⟨by rw [List.length_cons, List.length_cons, h1], ?_⟩
    rw [List.findIdx?_cons]
    simp [h2]
theorem vis_of {x : Str} (h : visB sc x = true) : Vis sc x := by
  unfold visB at h
  split at h <;> first
    | exact .inl (by assumption)
    | exact .inr (.inl (by assumption))
    | exact .inr (.inr (by assumption))
    | cases h
theorem own_of {x : Str} (h : ownB sc x = true) : Loc sc x := by
  unfold ownB at h
  split at h <;> first
    | exact .inl (by assumption)
    | exact .inr (by assumption)
    | cases h
theorem gl_of {x : Str} (h : glB sc x = true) : sc.names.lookup x = some .globalImplicit := by
  unfold glB at h
  split at h
  · assumption
  · cases h
theorem okN_of {x : Str} (h : okN x = true) : (x == ("__debug__" : Str)) = false ∧ (x == ("__classdict__" : Str)) = false := by
  unfold okN at h
  simp only [Bool.and_eq_true, beq_iff_eq] at h
  exact h
end
end Z

set_option Elab.async false
set_option linter.all false
set_option maxRecDepth 100000
set_option maxHeartbeats 4000000
/-! Z6: expressions -/
namespace Z
open PySem PySem.Spec PyProof.Rows L2
structure GOk (P : Program) (w : World) (K : PySem.W.Frag) (mg : Str → Option Value) (base : Heap) (k : Nat) (f : Addr) (sp : List V → Hp → VK → Prop) : Prop where
  run : ∀ (A : Around) (outer : List Env) (s : Shared) (H : Hp) (us : List Value) (vs : List V) (Q : VK), Room k A → A.guards = some [] → Env0 P w K mg base A outer s H → Vals vs us → sp vs H Q →
    codeAny (model P w) A (.call (.ref f) ⟨us, []⟩) (CR CX0 outer P w H s Q E0) s
def spC (K : PySem.W.Frag) (C : Cal) (f : Nat) : List V → Hp → VK → Prop := fun vs H Q => ∃ m hs ds d hs', RH K m H hs ∧ Reps K m H vs ds ∧ C f ds hs = some (d, hs') ∧ KN K m H d hs' Q
structure Sta (X : Cx) (k : Nat) (N : List Str) (Γ : Nat → Option Str) (sc : Scope) (C : Cal) : Prop where
  n : X.N = N
  s : X.env.scope = sc
  nd : N.Nodup
  calm : X.calm = true
  room : Room k X.A
  gd : X.A.guards = some []
  blt : ∀ x ∈ bNames, X.mg x = none
  call : ∀ f nm, Γ f = some nm → ∃ a, X.mg nm = some (.ref a) ∧ PySem.W.keepIn X.K (.ref a) = true ∧ GOk X.prog X.w X.K X.mg X.base k a (spC X.K C f)
def Own (X : Cx) (own : Scope) : Prop := ∀ x, ownB own x = true → Loc X.env.scope x ∧ (X.fn x = true ∨ X.env.scope.names.lookup x = some .local)
section
variable {X : Cx} {k : Nat} {N : List Str} {Γ : Nat → Option Str} {sc : Scope} {C : Cal} {L : Nat}
theorem Sta.u (S : Sta X k N Γ sc C) : X.A.units + 66 < cLine := by
  have := S.room.un
  omega
theorem Sta.blk (S : Sta X k N Γ sc C) (sc' : Scope) (s : Shared) (H : Hp) (Cc : Addr) (cl : List (Str × Addr)) (fp : List Addr) : Sta (X.blk s H sc' (compEnvC sc' cl Cc X.env) fp) k N Γ (relS sc' sc) C :=
  ⟨S.n, by rw [← S.s]; rfl, S.nd, S.calm, S.room, S.gd, S.blt, S.call⟩
theorem own_blk (sc' : Scope) (s : Shared) (H : Hp) (Cc : Addr) (cl : List (Str × Addr)) (fp : List Addr) : Own (X.blk s H sc' (compEnvC sc' cl Cc X.env) fp) sc' := by
  intro x hx
  show Loc (relS sc' X.env.scope) x ∧ ((sc'.names.lookup x == some .cell) = true ∨ (relS sc' X.env.scope).names.lookup x = some .local)
  rcases own_of hx with h | h
  · have h1 := lookup_relS_keep (sc := X.env.scope) (names := sc'.names) (x := x) (k := .local) (by decide) h
    exact ⟨.inl h1, .inr h1⟩
  · have h1 := lookup_relS_keep (sc := X.env.scope) (names := sc'.names) (x := x) (k := .cell) (by decide) h
    refine ⟨.inr h1, .inl ?_⟩
    rw [h]
    rfl
abbrev SE (X : Cx) (x : Expr) (ev : Ev → Hs → Option (D × Hs)) : Prop := PE X x (tE X.K ev) ∧ PT X x (tT X.K ev)

/-! ### one construct each -/
theorem s_nm (S : Sta X k N Γ sc C) {i : Nat} {x : Str} {pos : Pos} (h : mE N Γ sc (.nm i) (.Name x pos) = true) : SE X (.Name x pos) (evE C (.nm i)) := by
  simp only [mE, Bool.and_eq_true, decide_eq_true_eq] at h
  obtain ⟨⟨h1, h2⟩, h3⟩ := h
  have o := okN_of h3
  have p : PE X (.Name x pos) (tE X.K (evE C (.nm i))) := by
    refine (pe_var (i := i) (by rw [S.n]; exact h1) (by rw [S.s]; exact vis_of h2) o.1 o.2).mono fun σ H Q ⟨m, e, hs, d, hs', r1, r2, r3, r4⟩ => ?_
    simp only [evE] at r3
    split at r3
    · rename_i d' he
      cases r3
      obtain ⟨v, ev, rv⟩ := r1.get _ _ he
      exact ⟨v, ev, r4 m v H (Go.refl m H) r2 rv⟩
    · cases r3
  exact ⟨p, PT.ofE p fun _ => rfl⟩
theorem s_lnon {c : Nat} {pos : Pos} : SE X (.Constant .none c pos) (evE C .lnon) := by
  have p : PE X (.Constant .none c pos) (tE X.K (evE C .lnon)) := by
    refine pe_non.mono fun σ H Q ⟨m, e, hs, d, hs', r1, r2, r3, r4⟩ => ?_
    simp only [evE] at r3
    cases r3
    exact r4 m _ H (Go.refl m H) r2 .non
  exact ⟨p, PT.ofE p fun _ => rfl⟩
theorem s_lbl {b : Bool} {c : Nat} {pos : Pos} : SE X (.Constant (.bool b) c pos) (evE C (.lbl b)) := by
  have p : PE X (.Constant (.bool b) c pos) (tE X.K (evE C (.lbl b))) := by
    refine pe_bl.mono fun σ H Q ⟨m, e, hs, d, hs', r1, r2, r3, r4⟩ => ?_
    simp only [evE] at r3
    cases r3
    exact r4 m _ H (Go.refl m H) r2 (.bl b)
  exact ⟨p, PT.ofE p fun _ => rfl⟩
theorem s_lint {i : Int} {c : Nat} {pos : Pos} : SE X (.Constant (.int i) c pos) (evE C (.lint i)) := by
  have p : PE X (.Constant (.int i) c pos) (tE X.K (evE C (.lint i))) := by
    refine pe_int.mono fun σ H Q ⟨m, e, hs, d, hs', r1, r2, r3, r4⟩ => ?_
    simp only [evE] at r3
    cases r3
    exact r4 m _ H (Go.refl m H) r2 (.int i)
  exact ⟨p, PT.ofE p fun _ => rfl⟩
theorem s_lstr {i : Str} {c : Nat} {pos : Pos} : SE X (.Constant (.str i) c pos) (evE C (.lstr i)) := by
  have p : PE X (.Constant (.str i) c pos) (tE X.K (evE C (.lstr i))) := by
    refine pe_str.mono fun σ H Q ⟨m, e, hs, d, hs', r1, r2, r3, r4⟩ => ?_
    simp only [evE] at r3
    cases r3
    exact r4 m _ H (Go.refl m H) r2 (.str i)
  exact ⟨p, PT.ofE p fun _ => rfl⟩

/-! displays -/
theorem s_tup {es : Exs} {xs : List Expr} {c : Nat} {pos : Pos} (h : PA X xs (tA X.K (evA C es))) : SE X (.Tuple xs c pos) (evE C (.tup es)) := by
  have p : PE X (.Tuple xs c pos) (tE X.K (evE C (.tup es))) := by
    refine (pe_tup h).mono fun σ H Q ⟨m, e, hs, d, hs', r1, r2, r3, r4⟩ => ?_
    simp only [evE] at r3
    split at r3
    · rename_i ds h' ev
      obtain ⟨hz, ez⟩ := chk_some r3
      cases ez
      refine ⟨m, e, hs, ds, _, r1, r2, ev, fun m' vs H' g q w => ⟨by rw [w.length]; exact hz, fun p hp => ?_⟩⟩
      exact (r4.af g q).tup q vs p H' (Same.refl _) hp w
    · cases r3
  exact ⟨p, PT.ofE p fun _ => rfl⟩
theorem s_lstF {es : Exs} {xs : List Expr} {pos : Pos} (h : PA X xs (tA X.K (evA C es))) : PE X (.List xs pos) (tEF X.K (evE C (.lst es))) := by
  refine (pe_lst h).mono fun σ H Q ⟨m, e, hs, d, hs', r1, r2, r3, r4⟩ => ?_
  simp only [evE] at r3
  split at r3
  · rename_i ds h' ev
    obtain ⟨hz, ez⟩ := chk_some r3
    cases ez
    refine ⟨m, e, hs, ds, _, r1, r2, ev, fun m' vs H' g q w => ⟨by rw [w.length]; exact hz, fun p hp => ?_⟩⟩
    exact (r4.af g q).lst q vs p H' (Same.refl _) hp w
  · cases r3
theorem ob_lst {es : Exs} : ∀ e hs d hs', evE C (.lst es) e hs = some (d, hs') → isOb d := by
  intro e hs d hs' h
  simp only [evE] at h
  split at h
  · obtain ⟨_, h⟩ := chk_some h
    cases h
    trivial
  · cases h
theorem s_lst {es : Exs} {xs : List Expr} {pos : Pos} (h : PA X xs (tA X.K (evA C es))) : SE X (.List xs pos) (evE C (.lst es)) :=
  ⟨(s_lstF h).ofF ob_lst, PT.ofE ((s_lstF h).ofF ob_lst) fun _ => rfl⟩

/-! operators -/
theorem s_bin (S : Sta X k N Γ sc C) {op : Bop} {a b : Ex} {x y : Expr} {pos : Pos} (ha : PE X x (tE X.K (evE C a))) (hb : PE X y (tE X.K (evE C b))) (F : Mp → Hp → D → Hs → VK → Prop)
    (hF : ∀ m H d hs' Q m1 H1, F m H d hs' Q → Go m H m1 H1 → RH X.K m1 H1 hs' → Af X.K m1 H1 d Q) :
    PE X (.BinOp x (bopOf op) y pos) (fun σ H Q => ∃ m e hs d hs', RE X.K m H σ e ∧ RH X.K m H hs ∧ evE C (.bin op a b) e hs = some (d, hs') ∧ F m H d hs' Q) := by
  refine (pe_op (op_bin op) ha hb).mono fun σ H Q ⟨m, e, hs, d, hs', r1, r2, r3, r4⟩ => ?_
  simp only [evE] at r3
  split at r3
  · rename_i da h1 e1
    split at r3
    · rename_i db h2 e2
      obtain ⟨d', ed, ez⟩ := Option.map_eq_some_iff.mp r3
      cases ez
      refine ⟨m, e, hs, da, h1, r1, r2, e1, fun m1 v1 H1 g1 q1 w1 => ⟨m1, e, h1, db, _, r1.mono g1, q1, e2, fun m2 v2 H2 g2 q2 w2 => ?_⟩⟩
      exact ⟨m2, _, da, db, _, q2, w1.mono g2, w2, ed, hF _ _ _ _ _ _ _ r4 (g1.trans g2) q2⟩
    · cases r3
  · cases r3
theorem s_binN (S : Sta X k N Γ sc C) {op : Bop} {a b : Ex} {x y : Expr} {pos : Pos} (ha : PE X x (tE X.K (evE C a))) (hb : PE X y (tE X.K (evE C b))) : SE X (.BinOp x (bopOf op) y pos) (evE C (.bin op a b)) := by
  have p : PE X (.BinOp x (bopOf op) y pos) (tE X.K (evE C (.bin op a b))) := s_bin S ha hb (KN X.K) fun _ _ _ _ _ _ _ a g r => a.af g r
  exact ⟨p, PT.ofE p fun _ => rfl⟩
theorem s_binF (S : Sta X k N Γ sc C) {op : Bop} {a b : Ex} {x y : Expr} {pos : Pos} (ha : PE X x (tE X.K (evE C a))) (hb : PE X y (tE X.K (evE C b))) : PE X (.BinOp x (bopOf op) y pos) (tEF X.K (evE C (.bin op a b))) :=
  s_bin S ha hb (KF X.K) fun _ _ _ _ _ _ _ a g r => a.af g r
theorem s_neg {a : Ex} {x : Expr} {pos : Pos} (ha : PE X x (tE X.K (evE C a))) : SE X (.UnaryOp .USub x pos) (evE C (.neg a)) := by
  have p : PE X (.UnaryOp .USub x pos) (tE X.K (evE C (.neg a))) := by
    refine (pe_un un_neg ha).mono fun σ H Q ⟨m, e, hs, d, hs', r1, r2, r3, r4⟩ => ?_
    simp only [evE] at r3
    split at r3
    · rename_i i h1 e1
      cases r3
      exact ⟨m, e, hs, _, _, r1, r2, e1, fun m1 v1 H1 g1 q1 w1 => ⟨i, rep_int w1, r4 m1 _ H1 g1 q1 (.int _)⟩⟩
    · cases r3
  exact ⟨p, PT.ofE p fun _ => rfl⟩
theorem s_nt {a : Ex} {x : Expr} {pos : Pos} (ha : SE X x (evE C a)) : SE X (.UnaryOp .Not x pos) (evE C (.nt a)) := by
  constructor
  · refine (pe_not ha.1).mono fun σ H Q ⟨m, e, hs, d, hs', r1, r2, r3, r4⟩ => ?_
    simp only [evE] at r3
    split at r3
    · rename_i i h1 e1
      cases r3
      exact ⟨m, e, hs, _, _, r1, r2, e1, fun m1 v1 H1 g1 q1 w1 => ⟨i, rep_bl w1, r4 m1 _ H1 g1 q1 (.bl _)⟩⟩
    · cases r3
  · refine (pt_not ha.2).mono fun σ H Q ⟨m, e, hs, b, hs', r1, r2, r3, r4⟩ => ?_
    simp only [evE] at r3
    split at r3
    · rename_i i h1 e1
      cases r3
      exact ⟨m, e, hs, _, _, r1, r2, e1, fun m1 H1 g1 q1 => r4 m1 H1 g1 q1⟩
    · cases r3
theorem s_cmp (S : Sta X k N Γ sc C) {op : Cop} {a b : Ex} {x y : Expr} {pos : Pos} (ha : PE X x (tE X.K (evE C a))) (hb : PE X y (tE X.K (evE C b))) (hm : behindInMarks (copOf op) y = false) :
    SE X (.Compare x [copOf op] [y] pos) (evE C (.cmp op a b)) := by
  have core : ∀ σ H (Q : VK), (∃ m e hs d hs', RE X.K m H σ e ∧ RH X.K m H hs ∧ evE C (.cmp op a b) e hs = some (.bl d, hs') ∧ ∀ m' H', Go m H m' H' → RH X.K m' H' hs' → Q (.bl d) H') →
      tOp (rCmp X.K op) (tE X.K (evE C a)) (tE X.K (evE C b)) σ H Q := by
    intro σ H Q ⟨m, e, hs, d, hs', r1, r2, r3, r4⟩
    simp only [evE] at r3
    split at r3
    · rename_i da h1 e1
      split at r3
      · rename_i db h2 e2
        obtain ⟨d', ed, ez⟩ := Option.map_eq_some_iff.mp r3
        cases ez
        refine ⟨m, e, hs, da, h1, r1, r2, e1, fun m1 v1 H1 g1 q1 w1 => ⟨m1, e, h1, db, _, r1.mono g1, q1, e2, fun m2 v2 H2 g2 q2 w2 => ?_⟩⟩
        exact ⟨m2, _, da, db, _, q2, w1.mono g2, w2, ed, r4 m2 H2 (g1.trans g2) q2⟩
      · cases r3
    · cases r3
  constructor
  · refine (pe_cmpR (op_cmp S.u op) ha hb hm).mono fun σ H Q ⟨m, e, hs, d, hs', r1, r2, r3, r4⟩ => ?_
    have hd : ∃ b, d = .bl b := by
      simp only [evE] at r3
      split at r3
      · split at r3
        · obtain ⟨d', ed, ez⟩ := Option.map_eq_some_iff.mp r3
          cases ez
          exact ⟨_, rfl⟩
        · cases r3
      · cases r3
    obtain ⟨b', rfl⟩ := hd
    exact core σ H Q ⟨m, e, hs, b', hs', r1, r2, r3, fun m' H' g q => r4 m' _ H' g q (.bl _)⟩
  · refine (pt_cmpR (op_cmp S.u op) ha hb hm).mono fun σ H Q ⟨m, e, hs, d, hs', r1, r2, r3, r4⟩ => ?_
    exact core σ H _ ⟨m, e, hs, d, hs', r1, r2, r3, fun m' H' g q => ⟨d, rfl, r4 m' H' g q⟩⟩
theorem s_cmp2 (S : Sta X k N Γ sc C) {op op' : Cop} {a b c : Ex} {x y z : Expr} {pos : Pos} (ha : PE X x (tE X.K (evE C a))) (hb : PE X y (tE X.K (evE C b))) (hc : PE X z (tE X.K (evE C c))) (hm : lastMarks [copOf op, copOf op'] [y, z] = false) :
    SE X (.Compare x [copOf op, copOf op'] [y, z] pos) (evE C (.cmp2 op op' a b c)) := by
  have core : ∀ σ H (Q : VK), (∃ m e hs d hs', RE X.K m H σ e ∧ RH X.K m H hs ∧ evE C (.cmp2 op op' a b c) e hs = some (.bl d, hs') ∧ ∀ m' H', Go m H m' H' → RH X.K m' H' hs' → Q (.bl d) H') →
      tChain (rCmp X.K op) (rCmp X.K op') (tE X.K (evE C a)) (tE X.K (evE C b)) (tE X.K (evE C c)) σ H Q := by
    intro σ H Q ⟨m, e, hs, d, hs', r1, r2, r3, r4⟩
    simp only [evE] at r3
    split at r3
    · rename_i da h1 e1
      split at r3
      · rename_i db h2 e2
        split at r3
        · rename_i ec
          split at r3
          · rename_i dc h3 e3
            obtain ⟨d', ed, ez⟩ := Option.map_eq_some_iff.mp r3
            cases ez
            refine ⟨m, e, hs, da, h1, r1, r2, e1, fun m1 v1 H1 g1 q1 w1 => ⟨m1, e, h1, db, _, r1.mono g1, q1, e2, fun m2 v2 H2 g2 q2 w2 => ?_⟩⟩
            refine ⟨m2, _, da, db, _, q2, w1.mono g2, w2, ec, true, rfl, iteT ⟨m2, e, h2, dc, _, r1.mono (g1.trans g2), q2, e3, fun m3 v3 H3 g3 q3 w3 => ?_⟩⟩
            exact ⟨m3, _, db, dc, _, q3, w2.mono g3, w3, ed, r4 m3 H3 ((g1.trans g2).trans g3) q3⟩
          · cases r3
        · rename_i ec
          cases r3
          refine ⟨m, e, hs, da, h1, r1, r2, e1, fun m1 v1 H1 g1 q1 w1 => ⟨m1, e, h1, db, _, r1.mono g1, q1, e2, fun m2 v2 H2 g2 q2 w2 => ?_⟩⟩
          exact ⟨m2, _, da, db, _, q2, w1.mono g2, w2, ec, false, rfl, iteF (r4 m2 H2 (g1.trans g2) q2)⟩
        · cases r3
      · cases r3
    · cases r3
  constructor
  · refine (pe_chain (op_cmp S.u op) (op_cmp S.u op') ha hb hc hm).mono fun σ H Q ⟨m, e, hs, d, hs', r1, r2, r3, r4⟩ => ?_
    have hd : ∃ b, d = .bl b := by
      simp only [evE] at r3
      repeat' split at r3
      all_goals first
        | cases r3; exact ⟨_, rfl⟩
        | (obtain ⟨d', ed, ez⟩ := Option.map_eq_some_iff.mp r3; cases ez; exact ⟨_, rfl⟩)
        | cases r3
    obtain ⟨b', rfl⟩ := hd
    exact core σ H Q ⟨m, e, hs, b', hs', r1, r2, r3, fun m' H' g q => r4 m' _ H' g q (.bl _)⟩
  · refine (pt_chain (op_cmp S.u op) (op_cmp S.u op') ha hb hc hm).mono fun σ H Q ⟨m, e, hs, d, hs', r1, r2, r3, r4⟩ => ?_
    exact core σ H _ ⟨m, e, hs, d, hs', r1, r2, r3, fun m' H' g q => ⟨d, rfl, r4 m' H' g q⟩⟩
end
end Z

set_option Elab.async false
set_option linter.all false
set_option maxRecDepth 100000
set_option maxHeartbeats 4000000
/-! Z7: expressions, further -/
namespace Z
open PySem PySem.Spec PyProof.Rows L2
section
variable {X : Cx} {k : Nat} {N : List Str} {Γ : Nat → Option Str} {sc : Scope} {C : Cal}
/-! ### argument lists -/
theorem s_anil : PA X [] (tA X.K (evA C .nil)) := by
  refine pa_nil.mono fun σ H Q ⟨m, e, hs, d, hs', r1, r2, r3, r4⟩ => ?_
  simp only [evA] at r3
  cases r3
  exact r4 m _ H (Go.refl m H) r2 .nil
theorem s_acons {a : Ex} {r : Exs} {y : Expr} {ys : List Expr} (hy : isStar y = false) (ha : PE X y (tE X.K (evE C a))) (hr : PA X ys (tA X.K (evA C r))) : PA X (y :: ys) (tA X.K (evA C (.cons false a r))) := by
  refine (pa_cons ha hr (star_cons hy)).mono fun σ H Q ⟨m, e, hs, ds, hs', r1, r2, r3, r4⟩ => ?_
  simp only [evA] at r3
  split at r3
  · rename_i x h1 e1
    simp only [Bool.false_eq_true, if_false] at r3
    split at r3
    · rename_i zs h2 e2
      cases r3
      refine ⟨m, e, hs, x, h1, r1, r2, e1, fun m1 v1 H1 g1 q1 w1 => ⟨m1, e, h1, zs, _, r1.mono g1, q1, e2, fun m2 vs H2 g2 q2 w2 => ?_⟩⟩
      exact r4 m2 _ H2 (g1.trans g2) q2 (.cons (w1.mono g2) w2)
    · cases r3
  · cases r3
theorem s_astar {a : Ex} {r : Exs} {y : Expr} {ys : List Expr} {p : Pos} (ha : PE X y (tE X.K (evE C a))) (hr : PA X ys (tA X.K (evA C r))) : PA X (.Starred y p :: ys) (tA X.K (evA C (.cons true a r))) := by
  refine (StX.pa_star ha hr).mono fun σ H Q ⟨m, e, hs, ds, hs', r1, r2, r3, r4⟩ => ?_
  simp only [evA] at r3
  split at r3
  · rename_i x h1 e1
    simp only [if_true] at r3
    split at r3
    · rename_i xs es
      split at r3
      · rename_i zs h2 e2
        cases r3
        refine ⟨m, e, hs, x, h1, r1, r2, e1, fun m1 v1 H1 g1 q1 w1 => ?_⟩
        obtain ⟨b, vs1, rfl, eb, wb⟩ := q1.getS w1 es
        refine ⟨b, vs1, rfl, ?_, m1, e, h1, zs, _, r1.mono g1, q1, e2, fun m2 vs H2 g2 q2 w2 => ?_⟩
        · rcases eb with eb | eb
          · exact .inr (.of eb)
          · exact .inl (.of eb)
        · exact r4 m2 _ H2 (g1.trans g2) q2 ((wb.mono g2).app w2)
      · cases r3
    · cases r3
  · cases r3

/-! ### and, or -/
def opB : Bool → BoolOp
  | true => .And
  | false => .Or
abbrev SB (X : Cx) (isAnd : Bool) (xs : List Expr) (pos : Pos) (ev : Ev → Hs → Option (D × Hs)) : Prop := PE X (.BoolOp (opB isAnd) xs pos) (tE X.K ev) ∧ PW X (.BoolOp (opB isAnd) xs pos) (tT X.K ev)
theorem s_B1 {isAnd : Bool} {a : Ex} {y : Expr} {pos : Pos} (h : SE X y (evE C a)) : SB X isAnd [y] pos (evB C isAnd (.cons false a .nil)) := by
  have e : evB C isAnd (.cons false a .nil) = evE C a := by
    funext e h
    simp only [evB]
  rw [e]
  refine ⟨pe_one h.1, ?_⟩
  cases isAnd with
  | true => exact pw_and1 h.2
  | false => exact pw_or1 h.2
theorem s_Bcons {isAnd : Bool} {a : Ex} {rev : Ev → Hs → Option (D × Hs)} {ev : Ev → Hs → Option (D × Hs)} {y z : Expr} {ys : List Expr} {pos : Pos} (h : SE X y (evE C a)) (hr : SB X isAnd (z :: ys) pos rev)
    (he : ∀ e hs, ev e hs = match evE C a e hs with | some (.bl b, h1) => if b = isAnd then rev e h1 else some (.bl b, h1) | _ => none) : SB X isAnd (y :: z :: ys) pos ev := by
  constructor
  · have key : ∀ σ H (Q : VK), tE X.K ev σ H Q → tE X.K (evE C a) σ H fun x H1 => ∃ c, x = .bl c ∧ if c = isAnd then tE X.K rev σ H1 Q else Q (.bl c) H1 := by
      intro σ H Q ⟨m, e, hs, d, hs', r1, r2, r3, r4⟩
      rw [he] at r3
      split at r3
      · rename_i b h1 e1
        refine ⟨m, e, hs, _, h1, r1, r2, e1, fun m1 v1 H1 g1 q1 w1 => ⟨b, rep_bl w1, ?_⟩⟩
        by_cases hb : b = isAnd
        · rw [if_pos hb] at r3 ⊢
          exact ⟨m1, e, h1, d, hs', r1.mono g1, q1, r3, fun m2 v2 H2 g2 q2 w2 => r4 m2 v2 H2 (g1.trans g2) q2 w2⟩
        · rw [if_neg hb] at r3 ⊢
          cases r3
          exact r4 m1 _ H1 g1 q1 (.bl b)
      · cases r3
    cases isAnd with
    | true =>
      refine (pe_and h.1 hr.1).mono fun σ H Q hq => ?_
      obtain ⟨m, e, hs, d, hs', r1, r2, r3, r4⟩ := key σ H Q hq
      refine ⟨m, e, hs, d, hs', r1, r2, r3, fun m1 v1 H1 g1 q1 w1 => ?_⟩
      obtain ⟨c, ec, q⟩ := r4 m1 v1 H1 g1 q1 w1
      refine ⟨c, ec, ?_⟩
      cases c with
      | true => exact iteT (by simpa using q)
      | false => exact iteF (by simpa using q)
    | false =>
      refine (pe_or h.1 hr.1).mono fun σ H Q hq => ?_
      obtain ⟨m, e, hs, d, hs', r1, r2, r3, r4⟩ := key σ H Q hq
      refine ⟨m, e, hs, d, hs', r1, r2, r3, fun m1 v1 H1 g1 q1 w1 => ?_⟩
      obtain ⟨c, ec, q⟩ := r4 m1 v1 H1 g1 q1 w1
      refine ⟨c, ec, ?_⟩
      cases c with
      | true => exact iteT (by simpa using q)
      | false => exact iteF (by simpa using q)
  · have key : ∀ σ H (Q : Bool → Hp → Prop), tT X.K ev σ H Q → tT X.K (evE C a) σ H fun c H1 => if c = isAnd then tT X.K rev σ H1 Q else Q c H1 := by
      intro σ H Q ⟨m, e, hs, d, hs', r1, r2, r3, r4⟩
      rw [he] at r3
      split at r3
      · rename_i b h1 e1
        refine ⟨m, e, hs, _, h1, r1, r2, e1, fun m1 H1 g1 q1 => ?_⟩
        by_cases hb : b = isAnd
        · rw [if_pos hb] at r3 ⊢
          exact ⟨m1, e, h1, d, hs', r1.mono g1, q1, r3, fun m2 H2 g2 q2 => r4 m2 H2 (g1.trans g2) q2⟩
        · rw [if_neg hb] at r3 ⊢
          cases r3
          exact r4 m1 H1 g1 q1
      · cases r3
    cases isAnd with
    | true =>
      refine (pw_and h.2 hr.2).mono fun σ H Q hq => ?_
      obtain ⟨m, e, hs, d, hs', r1, r2, r3, r4⟩ := key σ H Q hq
      refine ⟨m, e, hs, d, hs', r1, r2, r3, fun m1 H1 g1 q1 => ?_⟩
      have q := r4 m1 H1 g1 q1
      cases d with
      | true => exact iteT (by simpa using q)
      | false => exact iteF (by simpa using q)
    | false =>
      refine (pw_or h.2 hr.2).mono fun σ H Q hq => ?_
      obtain ⟨m, e, hs, d, hs', r1, r2, r3, r4⟩ := key σ H Q hq
      refine ⟨m, e, hs, d, hs', r1, r2, r3, fun m1 H1 g1 q1 => ?_⟩
      have q := r4 m1 H1 g1 q1
      cases d with
      | true => exact iteT (by simpa using q)
      | false => exact iteF (by simpa using q)
theorem s_B2 {isAnd : Bool} {a b : Ex} {s : Bool} {r : Exs} {y z : Expr} {ys : List Expr} {pos : Pos} (h : SE X y (evE C a)) (hr : SB X isAnd (z :: ys) pos (evB C isAnd (.cons s b r))) : SB X isAnd (y :: z :: ys) pos (evB C isAnd (.cons false a (.cons s b r))) :=
  s_Bcons h hr fun e hs => by simp only [evB] <;> split <;> simp_all
theorem s_bool {isAnd : Bool} {a : Ex} {es : Exs} {y z : Expr} {ys : List Expr} {pos : Pos} (h : SE X y (evE C a)) (hr : SB X isAnd (z :: ys) pos (evB C isAnd es)) : SE X (.BoolOp (opB isAnd) (y :: z :: ys) pos) (evE C (.bool isAnd a es)) := by
  have q := s_Bcons (ev := evE C (.bool isAnd a es)) h hr fun e hs => by simp only [evE] <;> split <;> simp_all
  exact ⟨q.1, q.2.pt⟩

/-! ### a if c else b -/
theorem pt_ife {c a b : Expr} {tc ta tb : TT} {pos : Pos} (hc : PT X c tc) (ha : PT X a ta) (hb : PT X b tb) : PT X (.IfExp c a b pos) (fun σ H Q => tc σ H fun d H1 => if d = true then ta σ H1 Q else tb σ H1 Q) := by
  refine ⟨fun pins s σ H Q I h => ?_⟩
  show wpAny _ _ (do if ← isTrue c X.env (eval c X.env) then isTrue a X.env (eval a X.env) else isTrue b X.env (eval b X.env)) _ _ s
  refine wpAny_bind (thn (hc.run pins s σ H _ I h) fun d s1 ⟨H1, I1, q⟩ => ?_)
  cases d with
  | true =>
    rw [if_pos rfl] at q ⊢
    exact ha.run pins s1 σ H1 Q I1 q
  | false =>
    rw [if_neg Bool.false_ne_true] at q ⊢
    exact hb.run pins s1 σ H1 Q I1 q
theorem s_ife {a b c : Ex} {x y z : Expr} {pos : Pos} (hc : SE X z (evE C c)) (ha : SE X x (evE C a)) (hb : SE X y (evE C b)) : SE X (.IfExp z x y pos) (evE C (.ife c a b)) := by
  constructor
  · refine (pe_ifExp hc.2 ha.1 hb.1).mono fun σ H Q ⟨m, e, hs, d, hs', r1, r2, r3, r4⟩ => ?_
    simp only [evE] at r3
    split at r3
    · rename_i h1 e1
      exact ⟨m, e, hs, true, h1, r1, r2, e1, fun m1 H1 g1 q1 => iteT ⟨m1, e, h1, d, hs', r1.mono g1, q1, r3, fun m2 v2 H2 g2 q2 w2 => r4 m2 v2 H2 (g1.trans g2) q2 w2⟩⟩
    · rename_i h1 e1
      exact ⟨m, e, hs, false, h1, r1, r2, e1, fun m1 H1 g1 q1 => iteF ⟨m1, e, h1, d, hs', r1.mono g1, q1, r3, fun m2 v2 H2 g2 q2 w2 => r4 m2 v2 H2 (g1.trans g2) q2 w2⟩⟩
    · cases r3
  · refine (pt_ife hc.2 ha.2 hb.2).mono fun σ H Q ⟨m, e, hs, d, hs', r1, r2, r3, r4⟩ => ?_
    simp only [evE] at r3
    split at r3
    · rename_i h1 e1
      exact ⟨m, e, hs, true, h1, r1, r2, e1, fun m1 H1 g1 q1 => iteT ⟨m1, e, h1, d, hs', r1.mono g1, q1, r3, fun m2 H2 g2 q2 => r4 m2 H2 (g1.trans g2) q2⟩⟩
    · rename_i h1 e1
      exact ⟨m, e, hs, false, h1, r1, r2, e1, fun m1 H1 g1 q1 => iteF ⟨m1, e, h1, d, hs', r1.mono g1, q1, r3, fun m2 H2 g2 q2 => r4 m2 H2 (g1.trans g2) q2⟩⟩
    · cases r3

/-! ### calls -/
theorem s_call (S : Sta X k N Γ sc C) {f : Nat} {es : Exs} {x : Str} {y : Expr} {ys : List Expr} {p pos : Pos} (h1 : Γ f = some x) (h2 : glB sc x = true) (h3 : okN x = true) (h4 : ∀ e ∈ y :: ys, isStar e = false) (ha : PA X (y :: ys) (tA X.K (evA C es))) :
    SE X (.Call (.Name x p) (y :: ys) [] pos) (evE C (.call f es)) := by
  have pe : PE X (.Call (.Name x p) (y :: ys) [] pos) (tE X.K (evE C (.call f es))) := by
    obtain ⟨a, hm, hk, F⟩ := S.call f x h1
    refine ⟨fun pins s σ H Q I ⟨m, e, hs, d, hs', r1, r2, r3, r4⟩ => ?_⟩
    simp only [evE] at r3
    split at r3
    · rename_i ds h' e1
      have hg : Gl X x := by
        show X.env.scope.names.lookup x = _
        rw [S.s]
        exact gl_of h2
      refine wpAny_Call_Name_kw (ld_glob I hg hm ?_ (okN_of h3).1)
      have hw : tA X.K (evA C es) σ H fun vs H1 => spC X.K C f vs H1 Q := ⟨m, e, hs, ds, h', r1, r2, e1, fun m1 vs H1 g1 q1 w1 => ⟨m1, h', ds, d, hs', q1, w1, r3, fun m2 v2 H2 g2 q2 w2 => r4 m2 v2 H2 (g1.trans g2) q2 w2⟩⟩
      refine PySem.W.callWith_K (h₀ := X.base) I.ok.mod.kin hk (thn (ha.run pos pins s σ H _ I hw) fun us s1 ⟨vs, H1, I1, r, q⟩ => ⟨I1.kIn, ?_⟩) (star_cons (h4 _ List.mem_cons_self)) (nostar_any fun z hz => h4 z (List.mem_cons_of_mem _ hz))
      refine wpAny_call (codeAny_mono (F.run X.A X.stack s1 H1 us vs Q S.room S.gd I1.env0 r q) fun r s' hq => ?_)
      cases r with
      | error e => exact hq.elim
      | ok fl =>
        cases fl with
        | ret u => exact I1.after hq
        | next => exact False.elim hq
        | brk => exact False.elim hq
        | cont => exact False.elim hq
    · cases r3
  exact ⟨pe, PT.ofE pe fun _ => rfl⟩
theorem tCB_of {f : Bi} {es : Exs} (F : Mp → Hp → D → Hs → VK → Prop) (hF : ∀ m H d hs' Q m1 H1, F m H d hs' Q → Go m H m1 H1 → RH X.K m1 H1 hs' → Af X.K m1 H1 d Q) (σ : L2.St) (H : Hp) (Q : VK)
    (h : ∃ m e hs d hs', RE X.K m H σ e ∧ RH X.K m H hs ∧ evE C (.bi f es) e hs = some (d, hs') ∧ F m H d hs' Q) : tA X.K (evA C es) σ H fun vs H1 => rBi X.K f vs H1 Q := by
  obtain ⟨m, e, hs, d, hs', r1, r2, r3, r4⟩ := h
  simp only [evE] at r3
  split at r3
  · rename_i ds h' e1
    obtain ⟨d', ed, ez⟩ := Option.map_eq_some_iff.mp r3
    cases ez
    exact ⟨m, e, hs, ds, _, r1, r2, e1, fun m1 vs H1 g1 q1 w1 => ⟨m1, _, ds, d, q1, w1, ed, hF _ _ _ _ _ _ _ r4 g1 q1⟩⟩
  · cases r3
theorem s_biG (S : Sta X k N Γ sc C) {f : Bi} (hf : isIsa f = false) {es : Exs} {y : Expr} {ys : List Expr} {p pos : Pos} (h2 : glB sc (biN f) = true) (h4 : ∀ e ∈ y :: ys, isStar e = false) (ha : PA X (y :: ys) (tA X.K (evA C es)))
    (F : Mp → Hp → D → Hs → VK → Prop) (hF : ∀ m H d hs' Q m1 H1, F m H d hs' Q → Go m H m1 H1 → RH X.K m1 H1 hs' → Af X.K m1 H1 d Q) :
    PE X (.Call (.Name (biN f) p) (y :: ys) [] pos) (fun σ H Q => ∃ m e hs d hs', RE X.K m H σ e ∧ RH X.K m H hs ∧ evE C (.bi f es) e hs = some (d, hs') ∧ F m H d hs' Q) := by
  have hg : Gl X (biN f) := by
    show X.env.scope.names.lookup (biN f) = _
    rw [S.s]
    exact gl_of h2
  have hm : X.mg (biN f) = none := S.blt _ (by
    cases f with
    | isa t => cases hf
    | vals => cases hf
    | lrng => cases hf
    | _ => decide +kernel)
  have hc := call_bi (X := X) S.calm S.u S.gd f hf
  have he := star_cons (env := X.env) (e := y) (es := ys) (h4 _ List.mem_cons_self)
  have hp := nostar_any (env := X.env) (pos := pos) (es := ys) fun z hz => h4 z (List.mem_cons_of_mem _ hz)
  have hmono : ∀ σ H (Q : VK), (∃ m e hs d hs', RE X.K m H σ e ∧ RH X.K m H hs ∧ evE C (.bi f es) e hs = some (d, hs') ∧ F m H d hs' Q) → tCB (rBi X.K f) (tA X.K (evA C es)) σ H Q := fun σ H Q h => tCB_of F hF σ H Q h
  cases f with
  | isa t => cases hf
  | vals => cases hf
  | lrng => cases hf
  | len => exact (pe_callB hc hg hm (by decide +kernel) ha (by decide) (by decide) he hp).mono hmono
  | abs => exact (pe_callB hc hg hm (by decide +kernel) ha (by decide) (by decide) he hp).mono hmono
  | max1 => exact (pe_callB hc hg hm (by decide +kernel) ha (by decide) (by decide) he hp).mono hmono
  | min1 => exact (pe_callB hc hg hm (by decide +kernel) ha (by decide) (by decide) he hp).mono hmono
  | max2 => exact (pe_callB hc hg hm (by decide +kernel) ha (by decide) (by decide) he hp).mono hmono
  | min2 => exact (pe_callB hc hg hm (by decide +kernel) ha (by decide) (by decide) he hp).mono hmono
  | sum => exact (pe_callB hc hg hm (by decide +kernel) ha (by decide) (by decide) he hp).mono hmono
  | all => exact (pe_callB hc hg hm (by decide +kernel) ha (by decide) (by decide) he hp).mono hmono
  | any => exact (pe_callB hc hg hm (by decide +kernel) ha (by decide) (by decide) he hp).mono hmono
  | repr => exact (pe_callB hc hg hm (by decide +kernel) ha (by decide) (by decide) he hp).mono hmono
  | mind => exact (pe_callB hc hg hm (by decide +kernel) ha (by decide) (by decide) he hp).mono hmono
  | maxd => exact (pe_callB hc hg hm (by decide +kernel) ha (by decide) (by decide) he hp).mono hmono
  | sorted => exact (pe_callB hc hg hm (by decide +kernel) ha (by decide) (by decide) he hp).mono hmono
  | int1 => exact (pe_callTy hc hg hm (by decide +kernel) ha (by decide) (by decide) he hp).mono hmono
  | list => exact (pe_callTy hc hg hm (by decide +kernel) ha (by decide) (by decide) he hp).mono hmono
  | tuple => exact (pe_callTy hc hg hm (by decide +kernel) ha (by decide) (by decide) he hp).mono hmono
  | dictc => exact (pe_callTy hc hg hm (by decide +kernel) ha (by decide) (by decide) he hp).mono hmono
  | dictp => exact (pe_callTy hc hg hm (by decide +kernel) ha (by decide) (by decide) he hp).mono hmono
theorem s_bi (S : Sta X k N Γ sc C) {f : Bi} (hf : isIsa f = false) {es : Exs} {y : Expr} {ys : List Expr} {p pos : Pos} (h2 : glB sc (biN f) = true) (h4 : ∀ e ∈ y :: ys, isStar e = false) (ha : PA X (y :: ys) (tA X.K (evA C es))) :
    SE X (.Call (.Name (biN f) p) (y :: ys) [] pos) (evE C (.bi f es)) := by
  have pe : PE X (.Call (.Name (biN f) p) (y :: ys) [] pos) (tE X.K (evE C (.bi f es))) := s_biG S hf h2 h4 ha (KN X.K) fun _ _ _ _ _ _ _ a g r => a.af g r
  exact ⟨pe, PT.ofE pe fun _ => rfl⟩
theorem kinds_bn : ∀ t ∈ kinds, Str.ofString t ∈ bNames := by decide +kernel
theorem s_isa (S : Sta X k N Γ sc C) {t : String} {a : Ex} {y : Expr} {p p' pos : Pos} (h2 : glB sc "isinstance" = true) (h3 : glB sc (Str.ofString t) = true) (ht : t ∈ kinds) (hs : isStar y = false) (ha : PE X y (tE X.K (evE C a))) :
    SE X (.Call (.Name "isinstance" p) [y, .Name (Str.ofString t) p'] [] pos) (evE C (.bi (.isa t) (.cons false a .nil))) := by
  have hg : Gl X "isinstance" := by
    show X.env.scope.names.lookup _ = _
    rw [S.s]
    exact gl_of h2
  have hg' : Gl X (Str.ofString t) := by
    show X.env.scope.names.lookup _ = _
    rw [S.s]
    exact gl_of h3
  have hm : X.mg "isinstance" = none := S.blt _ (by decide +kernel)
  have hm' : X.mg (Str.ofString t) = none := S.blt _ (kinds_bn t ht)
  have hb : bootBuiltins (Str.ofString t) = some (.type t) := by
    clear hm' hg' h3 ha
    revert t
    decide +kernel
  have hn : Str.ofString t ≠ ("__name__" : Str) := by
    clear hm' hg' h3 ha hb
    revert t
    decide +kernel
  have hd : (Str.ofString t == ("__debug__" : Str)) = false := by
    clear hm' hg' h3 ha hb hn
    revert t
    decide +kernel
  have pt : PE X (.Name (Str.ofString t) p') (tC (.ty t)) := pe_bltn hg' hm' hb rfl hn hd
  have pa : PA X [y, .Name (Str.ofString t) p'] (tCons (tE X.K (evE C a)) (tCons (tC (.ty t)) tNil)) := pa_cons ha (pa_cons pt pa_nil) (star_cons hs)
  have pe : PE X (.Call (.Name "isinstance" p) [y, .Name (Str.ofString t) p'] [] pos) (tE X.K (evE C (.bi (.isa t) (.cons false a .nil)))) := by
    refine (pe_callB (call_isa (X := X) ht) hg hm (by decide +kernel) pa (by decide) (by decide) (star_cons hs) rfl).mono fun σ H Q ⟨m, e, hs, d, hs', r1, r2, r3, r4⟩ => ?_
    simp only [evE, evA] at r3
    split at r3
    · rename_i ds h' e1
      obtain ⟨d', ed, ez⟩ := Option.map_eq_some_iff.mp r3
      cases ez
      split at e1
      · rename_i x h1 e2
        cases e1
        simp only [biD, isaL, List.append_nil, one, Option.bind_some] at ed
        obtain ⟨b, eb, rfl⟩ := Option.map_eq_some_iff.mp ed
        exact ⟨m, e, hs, x, _, r1, r2, e2, fun m1 v1 H1 g1 q1 w1 => ⟨m1, _, v1, x, b, rfl, q1, w1, eb, r4 m1 _ H1 g1 q1 (.bl b)⟩⟩
      · cases e1
    · cases r3
  exact ⟨pe, PT.ofE pe fun _ => rfl⟩
/-! ### subscripts, slices -/
theorem s_sub (S : Sta X k N Γ sc C) {a b : Ex} {x y : Expr} {pos : Pos} (hs : isSlice y = false) (ha : PE X x (tE X.K (evE C a))) (hb : PE X y (tE X.K (evE C b))) : SE X (.Subscript x y pos) (evE C (.sub a b)) := by
  have pe : PE X (.Subscript x y pos) (tE X.K (evE C (.sub a b))) := by
    refine (pe_ix (ix_sub S.u) ha hb (plainIx_of hs)).mono fun σ H Q ⟨m, e, hs, d, hs', r1, r2, r3, r4⟩ => ?_
    simp only [evE] at r3
    split at r3
    · rename_i da h1 e1
      split at r3
      · rename_i db h2 e2
        obtain ⟨d', ed, ez⟩ := Option.map_eq_some_iff.mp r3
        cases ez
        refine ⟨m, e, hs, da, h1, r1, r2, e1, fun m1 v1 H1 g1 q1 w1 => ⟨m1, e, h1, db, _, r1.mono g1, q1, e2, fun m2 v2 H2 g2 q2 w2 => ?_⟩⟩
        exact ⟨m2, _, da, db, _, q2, w1.mono g2, w2, ed, fun v w => r4 m2 v H2 (g1.trans g2) q2 w⟩
      · cases r3
    · cases r3
  exact ⟨pe, PT.ofE pe fun _ => rfl⟩
end
end Z

set_option Elab.async false
set_option linter.all false
set_option maxRecDepth 100000
set_option maxHeartbeats 4000000
/-! Z8: fresh things, slices, methods, dict displays -/
namespace Z
open PySem PySem.Spec PyProof.Rows L2
/-- a reading's end -/
def EndF (X : Cx) (F : Mp → Hp → D → Hs → VK → Prop) : Prop := ∀ m H d hs' Q m1 H1, F m H d hs' Q → Go m H m1 H1 → RH X.K m1 H1 hs' → Af X.K m1 H1 d Q
def tEG (K : PySem.W.Frag) (F : Mp → Hp → D → Hs → VK → Prop) (ev : Ev → Hs → Option (D × Hs)) : TE := fun σ H Q => ∃ m e hs d hs', RE K m H σ e ∧ RH K m H hs ∧ ev e hs = some (d, hs') ∧ F m H d hs' Q
section
variable {X : Cx} {k : Nat} {N : List Str} {Γ : Nat → Option Str} {sc : Scope} {C : Cal}
theorem endN : EndF X (KN X.K) := fun _ _ _ _ _ _ _ a g r => a.af g r
theorem endF : EndF X (KF X.K) := fun _ _ _ _ _ _ _ a g r => a.af g r
theorem gl_sta (S : Sta X k N Γ sc C) {x : Str} (h : glB sc x = true) : Gl X x := by
  show X.env.scope.names.lookup x = _
  rw [S.s]
  exact gl_of h
/-! ### list(d.values()), list(range(..)) -/
theorem kv_at {κ : Type} {kvs : List (κ × V)} {vs : List (κ × Value)} (r : KV kvs vs) : ∀ {i : Nat} {k : κ} {v : Value}, vs[i]? = some (k, v) → ∃ x, kvs[i]? = some (k, x) ∧ RelV x v := by
  unfold KV at r
  induction r with
  | nil =>
    intro i k v e
    simp at e
  | cons r t ih =>
    intro i k v e
    cases i with
    | zero =>
      have e' := Option.some.inj (show some _ = some (k, v) from e)
      rw [e'] at r
      exact ⟨_, (show some _ = some (k, _) from congrArg some (Prod.ext r.1 rfl)), r.2⟩
    | succ i =>
      obtain ⟨x, h1, h2⟩ := ih (i := i) (k := k) (v := v) (by simpa using e)
      exact ⟨x, by simpa using h1, h2⟩
def tListVals (te : TE) : TE := fun σ H Q => te σ H fun x H1 => ∃ (d : Addr) (kvs : List (Key × V)), x = .ref d ∧ H1 d = some (.dK kvs) ∧ ∀ p, H1 p = none → Q (.ref p) (upd H1 p (.lst (kvs.map (·.2))))
theorem pe_listVals {e : Expr} {te : TE} {p apos cpos pos : Pos} (hc : X.calm = true) (he : PE X e te) (hg : Gl X "list") (hm : X.mg "list" = none) (hbase : attributeBase e "values" X.env (eval e X.env) = eval e X.env) (hline : (apos.endLine == cpos.line) = true) :
    PE X (.Call (.Name "list" p) [.Call (.Attribute e "values" apos) [] [] cpos] [] pos) (tListVals te) := by
  refine ⟨fun pins s σ H Q I hq => ?_⟩
  have hs : starEach [.Call (.Attribute e "values" apos) [] [] cpos] X.env = (false, eval (.Call (.Attribute e "values" apos) [] [] cpos) X.env) :: starEach [] X.env := rfl
  refine wpAny_Call_Name_kw (ld_blt I hg hm boot_list ?_)
  refine PyProof.Rows.callWith_type1 ?_ hs rfl
  rw [hs]
  show wpAny _ _ (spliced ((false, eval (.Call (.Attribute e "values" apos) [] [] cpos) X.env) :: backTo pos (starEach [] X.env))) _ _ s
  refine Calls.spliced_cons ?_
  refine wpAny_Call_method (T := "dict") (id := "dict.values") hbase rfl hline F.plainAttrs_dict F.slot_dict_values F.type_dict_values (thn (he.run pins s σ H _ I hq) fun u s1 ⟨x, H1, I1, rx, d, kvs, ex, hd, q⟩ => ?_)
  subst ex
  obtain rfl : u = Value.ref d := rx
  obtain ⟨hz, hs0, vs, kv, hdo⟩ := I1.hok d _ hd
  obtain ⟨ep, hat⟩ := hdo.dictAt
  have lk : kvs.length = vs.length := Paired.length kv
  have I2 : L2.Inv X pins σ H1 { s1 with heap := s1.heap.push { cls := .type "dict_values", data := .fields #[.ref d] } } := I1.kept (t' := s1.toks) fun b ob q => Heap.get?_push_of_some _ q
  refine ⟨hdo.typeIs, hdo.mapOf.noDict, ?_⟩
  show wpAny _ _ (callWith cpos (.builtin "dict.values") [.ref d] [] []) _ X.xe s1
  refine method_meetsIn F.slot_dict_values F.entry_dict_values rfl (PySem.evalArgs_none ⟨rfl, hdo.typeIs, F.args_dict_values_1 _, _, meets_dict_values (mixKind X.prog X.w) d hs0, ⟨vs, hdo⟩, ?_⟩)
  refine Calls.spliced_nil ?_
  refine PySem.W.kdl_call (PySem.W.kdl_values (knd := mixKind X.prog X.w) (kvs := vs) (ep := ep)) (I1.ok.hd hc) ⟨⟨_, Heap.get?_push_size _ rfl, rfl, rfl⟩, hat.push _⟩ (by omega) fun h' tk acc c' hk hD hacc => ?_
  have hv : Vals (kvs.map (·.2)) acc.toList := by
    have hl : acc.toList.length = vs.length := by rw [Array.length_toList]; exact hacc.1
    refine vals_of_at (by rw [List.length_map, hl, lk]) fun j x u h1 h2 => ?_
    obtain ⟨k, hk'⟩ := hacc.2 j u (by rw [← Array.getElem?_toList]; exact h2)
    obtain ⟨y, e1, e2⟩ := kv_at kv hk'
    rw [List.getElem?_map, e1] at h1
    cases h1
    exact e2
  refine ⟨.ref _, upd H1 _ (.lst (kvs.map (·.2))), I2.laid (t' := tk) hk (Nat.le_refl _) (show ObjOk X.prog X.w _ _ _ (.lst (kvs.map (·.2))) from ⟨by rw [List.length_map]; omega, acc.toList, c', hv, by rw [Array.toArray_toList]; exact hD⟩), rfl, q _ (I2.hok.fresh (Nat.le_refl _))⟩
theorem s_valsG (S : Sta X k N Γ sc C) {a : Ex} {y : Expr} {p apos cpos pos : Pos} (h2 : glB sc "list" = true) (hline : (apos.endLine == cpos.line) = true) (hp : plainO y = true) (ha : PE X y (tE X.K (evE C a)))
    {F : Mp → Hp → D → Hs → VK → Prop} (hF : EndF X F) :
    PE X (.Call (.Name "list" p) [.Call (.Attribute y "values" apos) [] [] cpos] [] pos) (tEG X.K F (evE C (.bi .vals (.cons false a .nil)))) := by
  refine (pe_listVals S.calm ha (gl_sta S h2) (S.blt _ (by decide +kernel)) (plainO_base hp) hline).mono fun σ H Q ⟨m, e, hs, d, hs', r1, r2, r3, r4⟩ => ?_
  simp only [evE, evA, Bool.false_eq_true, if_false] at r3
  split at r3
  · rename_i ds h' e1
    split at e1
    · rename_i x h1 e2
      cases e1
      obtain ⟨d', ed, ez⟩ := Option.map_eq_some_iff.mp r3
      cases ez
      simp only [biD, valsD, List.append_nil, one, Option.bind_some] at ed
      obtain ⟨kvs, ek, rfl⟩ := Option.map_eq_some_iff.mp ed
      refine ⟨m, e, hs, x, _, r1, r2, e2, fun m1 v1 H1 g1 q1 w1 => ?_⟩
      obtain ⟨b, us, rfl, e3, e4, e5⟩ := q1.getDk w1 ek
      exact ⟨b, us, rfl, e3, fun p hp => (hF _ _ _ _ _ _ _ r4 g1 q1).lst q1 _ p H1 (Same.refl _) hp e5⟩
    · cases e1
  · cases r3
theorem rgV_rng : ∀ (n : Nat) (a : Int), (List.range n).map (fun i => V.int (a + (i : Nat))) = (rngL a n).map fun | .int i => V.int i | _ => V.non
  | 0, _ => rfl
  | n + 1, a => by
    rw [List.range_succ_eq_map, List.map_cons, List.map_map]
    simp only [rngL, List.map_cons]
    rw [← rgV_rng n (a + 1)]
    congr 1
    · simp
    · apply List.map_congr_left
      intro i _
      show V.int (a + ((i + 1 : Nat) : Int)) = V.int (a + 1 + (i : Int))
      congr 1
      omega
theorem rng_reps {K : PySem.W.Frag} {m : Mp} {H : Hp} : ∀ (n : Nat) (a : Int), Reps K m H ((List.range n).map fun i => V.int (a + (i : Nat))) (rngL a n) := by
  intro n a
  rw [rgV_rng]
  induction n generalizing a with
  | zero => exact .nil
  | succ n ih => exact .cons (.int _) (ih _)
theorem s_lrng1G (S : Sta X k N Γ sc C) {a : Ex} {y : Expr} {p p' pos pos' : Pos} (h2 : glB sc "list" = true) (h3 : glB sc "range" = true) (hs : isStar y = false) (ha : PE X y (tE X.K (evE C a)))
    {F : Mp → Hp → D → Hs → VK → Prop} (hF : EndF X F) :
    PE X (.Call (.Name "list" p) [.Call (.Name "range" p') [y] [] pos'] [] pos) (tEG X.K F (evE C (.bi .lrng (.cons false a .nil)))) := by
  refine (pe_listRg S.calm (gl_sta S h2) (S.blt _ (by decide +kernel)) (prg_1 (gl_sta S h3) (S.blt _ (by decide +kernel)) ha (star_cons hs))).mono fun σ H Q ⟨m, e, hs, d, hs', r1, r2, r3, r4⟩ => ?_
  simp only [evE, evA, Bool.false_eq_true, if_false] at r3
  split at r3
  · rename_i ds h' e1
    split at e1
    · rename_i x h1 e2
      cases e1
      obtain ⟨d', ed, ez⟩ := Option.map_eq_some_iff.mp r3
      cases ez
      simp only [biD, lrngD, List.append_nil] at ed
      split at ed
      · rename_i j ej
        cases ej
        obtain ⟨hz, rfl⟩ := chk_some ed
        refine ⟨m, e, hs, _, _, r1, r2, e2, fun m1 v1 H1 g1 q1 w1 => ?_⟩
        refine ⟨j, rep_int w1, hz, fun p hp => (hF _ _ _ _ _ _ _ r4 g1 q1).lst q1 _ p H1 (Same.refl _) hp ?_⟩
        have : (j - 0).toNat = j.toNat := by rw [Int.sub_zero]
        unfold rgV
        rw [this]
        exact rng_reps _ _
      · rename_i ej
        cases ej
      · cases ed
    · cases e1
  · cases r3
theorem s_lrng2G (S : Sta X k N Γ sc C) {a b : Ex} {y z : Expr} {p p' pos pos' : Pos} (h2 : glB sc "list" = true) (h3 : glB sc "range" = true) (hs : isStar y = false) (hs' : isStar z = false) (ha : PE X y (tE X.K (evE C a))) (hb : PE X z (tE X.K (evE C b)))
    {F : Mp → Hp → D → Hs → VK → Prop} (hF : EndF X F) :
    PE X (.Call (.Name "list" p) [.Call (.Name "range" p') [y, z] [] pos'] [] pos) (tEG X.K F (evE C (.bi .lrng (.cons false a (.cons false b .nil))))) := by
  refine (pe_listRg S.calm (gl_sta S h2) (S.blt _ (by decide +kernel)) (prg_2 (gl_sta S h3) (S.blt _ (by decide +kernel)) ha hb (star_cons hs) (star_cons hs') (nostar_any fun q hq => by
    rw [List.mem_singleton.mp hq]
    exact hs'))).mono fun σ H Q ⟨m, e, hs, d, hs', r1, r2, r3, r4⟩ => ?_
  simp only [evE, evA, Bool.false_eq_true, if_false] at r3
  split at r3
  · rename_i ds h' e1
    split at e1
    · rename_i x h1 e2
      split at e1
      · rename_i ys h2 e3
        cases e1
        split at e3
        · rename_i y2 h3 e4
          cases e3
          obtain ⟨d', ed, ez⟩ := Option.map_eq_some_iff.mp r3
          cases ez
          simp only [biD, lrngD, List.append_nil, List.cons_append, List.nil_append] at ed
          split at ed
          · rename_i ej
            cases ej
          · rename_i i j ej
            cases ej
            obtain ⟨hz, rfl⟩ := chk_some ed
            refine ⟨m, e, hs, _, _, r1, r2, e2, fun m1 v1 H1 g1 q1 w1 => ⟨m1, e, h1, _, _, r1.mono g1, q1, e4, fun m2 v2 H2 g2 q2 w2 => ?_⟩⟩
            refine ⟨i, j, rep_int w1, rep_int w2, hz, fun p hp => (hF _ _ _ _ _ _ _ r4 (g1.trans g2) q2).lst q2 _ p H2 (Same.refl _) hp ?_⟩
            exact rng_reps _ _
          · cases ed
        · cases e3
      · cases e1
    · cases e1
  · cases r3
end
end Z

set_option Elab.async false
set_option linter.all false
set_option maxRecDepth 100000
set_option maxHeartbeats 4000000
/-! Z9: slices, methods, things laid in the store, dict displays -/
namespace Z
open PySem PySem.Spec PyProof.Rows L2
section
variable {X : Cx} {k : Nat} {N : List Str} {Γ : Nat → Option Str} {sc : Scope} {C : Cal}
theorem evA_one {a : Ex} {e : Ev} {h h' : Hs} {ds : List D} (q : evA C (.cons false a .nil) e h = some (ds, h')) : ∃ d, evE C a e h = some (d, h') ∧ ds = [d] := by
  simp only [evA, Bool.false_eq_true, if_false] at q
  split at q
  · rename_i x h1 e2
    cases q
    exact ⟨x, e2, rfl⟩
  · cases q
theorem evA_two {a b : Ex} {e : Ev} {h h' : Hs} {ds : List D} (q : evA C (.cons false a (.cons false b .nil)) e h = some (ds, h')) : ∃ d d' h1, evE C a e h = some (d, h1) ∧ evE C b e h1 = some (d', h') ∧ ds = [d, d'] := by
  rw [evA] at q
  simp only [Bool.false_eq_true, if_false] at q
  split at q
  · rename_i x h1 e2
    split at q
    · rename_i ys h2 e3
      obtain ⟨d', e4, rfl⟩ := evA_one e3
      cases q
      exact ⟨x, d', h1, e2, e4, rfl⟩
    · cases q
  · cases q
theorem evSlc {sk : Sk} {o : Ex} {es : Exs} {e : Ev} {h h' : Hs} {d : D} (q : evE C (.slc sk o es) e h = some (d, h')) : ∃ x h1 ds, evE C o e h = some (x, h1) ∧ evA C es e h1 = some (ds, h') ∧ slcD h' sk x ds = some d := by
  simp only [evE] at q
  split at q
  · rename_i x h1 e1
    split at q
    · rename_i ds h2 e2
      obtain ⟨d', ed, ez⟩ := Option.map_eq_some_iff.mp q
      cases ez
      exact ⟨x, h1, ds, e1, e2, ed⟩
    · cases q
  · cases q
variable {F : Mp → Hp → D → Hs → VK → Prop}
theorem s_slcLoG (S : Sta X k N Γ sc C) (hF : EndF X F) {o a : Ex} {x y : Expr} {p2 pos : Pos} (ho : PE X x (tE X.K (evE C o))) (ha : PE X y (tE X.K (evE C a))) :
    PE X (.Subscript x (.Slice (some y) none none p2) pos) (tEG X.K F (evE C (.slc .lo o (.cons false a .nil)))) := by
  refine (pe_slice sl_any ho (po_some ha) po_none).mono fun σ H Q ⟨m, e, hs, d, hs', r1, r2, r3, r4⟩ => ?_
  obtain ⟨dx, h1, ds, e1, e2, e3⟩ := evSlc r3
  obtain ⟨da, e4, rfl⟩ := evA_one e2
  obtain ⟨i, rfl, e3⟩ : ∃ i, da = .int i ∧ cutO hs' dx (some i) none = some d := by
    cases da <;> simp [slcD, bnd] at e3 ⊢
    exact e3
  · refine ⟨m, e, hs, dx, h1, r1, r2, e1, fun m1 v1 H1 g1 q1 w1 => ⟨m1, e, h1, _, _, r1.mono g1, q1, e4, fun m2 v2 H2 g2 q2 w2 => ?_⟩⟩
    exact ⟨i, rep_int w2, m2, _, dx, d, q2, w1.mono g2, e3, hF _ _ _ _ _ _ _ r4 (g1.trans g2) q2⟩
theorem s_slcHiG (S : Sta X k N Γ sc C) (hF : EndF X F) {o a : Ex} {x y : Expr} {p2 pos : Pos} (ho : PE X x (tE X.K (evE C o))) (ha : PE X y (tE X.K (evE C a))) :
    PE X (.Subscript x (.Slice none (some y) none p2) pos) (tEG X.K F (evE C (.slc .hi o (.cons false a .nil)))) := by
  refine (pe_slice sl_any ho po_none (po_some ha)).mono fun σ H Q ⟨m, e, hs, d, hs', r1, r2, r3, r4⟩ => ?_
  obtain ⟨dx, h1, ds, e1, e2, e3⟩ := evSlc r3
  obtain ⟨da, e4, rfl⟩ := evA_one e2
  obtain ⟨i, rfl, e3⟩ : ∃ i, da = .int i ∧ cutO hs' dx none (some i) = some d := by
    cases da <;> simp [slcD, bnd] at e3 ⊢
    exact e3
  · refine ⟨m, e, hs, dx, h1, r1, r2, e1, fun m1 v1 H1 g1 q1 w1 => ⟨m1, e, h1, _, _, r1.mono g1, q1, e4, fun m2 v2 H2 g2 q2 w2 => ?_⟩⟩
    exact ⟨i, rep_int w2, m2, _, dx, d, q2, w1.mono g2, e3, hF _ _ _ _ _ _ _ r4 (g1.trans g2) q2⟩
theorem s_slcLoHiG (S : Sta X k N Γ sc C) (hF : EndF X F) {o a b : Ex} {x y z : Expr} {p2 pos : Pos} (ho : PE X x (tE X.K (evE C o))) (ha : PE X y (tE X.K (evE C a))) (hb : PE X z (tE X.K (evE C b))) :
    PE X (.Subscript x (.Slice (some y) (some z) none p2) pos) (tEG X.K F (evE C (.slc .lohi o (.cons false a (.cons false b .nil))))) := by
  refine (pe_slice sl_any ho (po_some ha) (po_some hb)).mono fun σ H Q ⟨m, e, hs, d, hs', r1, r2, r3, r4⟩ => ?_
  obtain ⟨dx, h1, ds, e1, e2, e3⟩ := evSlc r3
  obtain ⟨da, db, h2, e4, e5, rfl⟩ := evA_two e2
  obtain ⟨i, j, rfl, rfl, e3⟩ : ∃ i j, da = .int i ∧ db = .int j ∧ cutO hs' dx (some i) (some j) = some d := by
    cases da <;> cases db <;> simp [slcD, bnd] at e3 ⊢
    exact e3
  · refine ⟨m, e, hs, dx, h1, r1, r2, e1, fun m1 v1 H1 g1 q1 w1 => ⟨m1, e, h1, _, _, r1.mono g1, q1, e4, fun m2 v2 H2 g2 q2 w2 => ⟨i, rep_int w2, m2, e, h2, _, _, r1.mono (g1.trans g2), q2, e5, fun m3 v3 H3 g3 q3 w3 => ?_⟩⟩⟩
    exact ⟨j, rep_int w3, m3, _, dx, d, q3, w1.mono (g2.trans g3), e3, hF _ _ _ _ _ _ _ r4 ((g1.trans g2).trans g3) q3⟩
theorem s_slcRevG (S : Sta X k N Γ sc C) (hF : EndF X F) {o : Ex} {x : Expr} {c : Nat} {p1 p2 p3 pos : Pos} (ho : PE X x (tE X.K (evE C o))) :
    PE X (.Subscript x (.Slice none none (some (.UnaryOp .USub (.Constant (.int 1) c p1) p2)) p3) pos) (tEG X.K F (evE C (.slc .rev o .nil))) := by
  refine (pe_revS ho).mono fun σ H Q ⟨m, e, hs, d, hs', r1, r2, r3, r4⟩ => ?_
  obtain ⟨dx, h1, ds, e1, e2, e3⟩ := evSlc r3
  simp only [evA] at e2
  cases e2
  simp only [slcD] at e3
  exact ⟨m, e, hs, dx, _, r1, r2, e1, fun m1 v1 H1 g1 q1 w1 => ⟨m1, _, dx, d, q1, w1, e3, hF _ _ _ _ _ _ _ r4 g1 q1⟩⟩

/-! ### methods -/
theorem evMth {mt : Mt} {o : Ex} {es : Exs} {e : Ev} {h h' : Hs} {d : D} (q : evE C (.mth mt o es) e h = some (d, h')) : ∃ x h1 ds h2, evE C o e h = some (x, h1) ∧ mokD h1 mt x = true ∧ evA C es e h1 = some (ds, h2) ∧ mthD h2 mt x ds = some (d, h') := by
  simp only [evE] at q
  split at q
  · rename_i x h1 e1
    split at q
    · rename_i hk
      split at q
      · rename_i ds h2 e2
        exact ⟨x, h1, ds, h2, e1, hk, e2, q⟩
      · cases q
    · cases q
  · cases q
theorem mok_list {hs : Hs} {x : D} {mt : Mt} (hm : mt ≠ .get2) (h : mokD hs mt x = true) : ∃ l, getL hs x = some l := by
  have go : ∀ x : D, (getL hs x).isSome = true → ∃ l, getL hs x = some l := fun x e => Option.isSome_iff_exists.mp e
  by_cases h1 : mt = .index
  · subst h1
    exact go x h
  by_cases h2 : mt = .count
  · subst h2
    exact go x h
  cases x with
  | ref n =>
    have h' : (getL hs (.ref n)).isSome = true := by
      cases mt <;> first
        | exact absurd rfl hm
        | exact absurd rfl h1
        | exact absurd rfl h2
        | simpa [mokD] using h
    exact go _ h'
  | _ => cases mt <;> first
    | exact absurd rfl hm
    | exact absurd rfl h1
    | exact absurd rfl h2
    | simp [mokD] at h
theorem Reps.dropLast {K : PySem.W.Frag} {m : Mp} {H : Hp} {vs : List V} {ds : List D} (r : Reps K m H vs ds) : Reps K m H vs.dropLast ds.dropLast := by
  rw [List.dropLast_eq_take, List.dropLast_eq_take, ← r.length]
  exact r.take _
theorem seqIx (n : Nat) (i : Int) : seqIndex? i n = ix n i := by
  unfold seqIndex? ix
  by_cases h : i < 0
  · have h0 : ¬ (0 ≤ i) := by omega
    simp only [if_pos h, if_neg h0, Bool.and_eq_true, decide_eq_true_eq]
    by_cases h1 : -(n : Int) ≤ i
    · rw [if_pos ⟨by omega, by omega⟩, if_pos h1]
    · rw [if_neg (by omega), if_neg h1]
  · have h0 : 0 ≤ i := by omega
    simp only [if_neg h, if_pos h0, Bool.and_eq_true, decide_eq_true_eq]
    by_cases h1 : i < n
    · rw [if_pos ⟨h0, h1⟩, if_pos h1]
    · rw [if_neg (by omega), if_neg h1]
theorem ref_list {K : PySem.W.Frag} {m : Mp} {H : Hp} {hs : Hs} (h : RH K m H hs) {v : V} {n : Nat} {l : List D} (r : Rep K m H v (.ref n)) (e : hs[n]? = some (.lst l)) : ∃ a vs, v = .ref a ∧ m.r[n]? = some a ∧ H a = some (.lst vs) ∧ Reps K m H vs l := by
  cases r with
  | ref em =>
    obtain ⟨a', e1, vs, e2, q⟩ := h.ob _ _ e
    rw [em] at e1
    cases e1
    exact ⟨_, vs, rfl, em, e2, q⟩
theorem idxOf_spec (k : Int) : ∀ (ns : List Int) (j : Nat), idxOf k ns = some j → ns[j]? = some k ∧ ∀ m n, m < j → ns[m]? = some n → n ≠ k
  | [], j, h => by cases h
  | i :: r, j, h => by
    unfold idxOf at h
    by_cases e : i = k
    · rw [if_pos e] at h
      cases h
      exact ⟨by rw [e]; rfl, fun m n hm => by omega⟩
    · rw [if_neg e] at h
      obtain ⟨j', h', rfl⟩ := Option.map_eq_some_iff.mp h
      obtain ⟨a, b⟩ := idxOf_spec k r j' h'
      refine ⟨a, fun m n hm hn => ?_⟩
      cases m with
      | zero =>
        cases hn
        exact e
      | succ m => exact b m n (by omega) hn
def rMth (K : PySem.W.Frag) (mt : Mt) : V → List V → Hp → VK → Prop := fun x vs H Q => ∃ m hs dx ds d hs', RH K m H hs ∧ Rep K m H x dx ∧ Reps K m H vs ds ∧ mthD hs mt dx ds = some (d, hs') ∧ KN K m H d hs' Q
def mtId : Mt → String
  | .append => "list.append" | .extend => "list.extend" | .pop => "list.pop" | .popat => "list.pop" | .get2 => "dict.get" | .index => "list.index" | .count => "list.count" | .update => "dict.update"
theorem mtr_any {mt : Mt} (hm : mt ≠ .get2) : MtR X (mtId mt) (rMth X.K mt) := by
  intro pins s σ H x vs v us Q I rx rv h
  obtain ⟨m, hs, dx, ds, d, hs', hR, hx, hds, hd, q⟩ := h
  cases mt with
  | get2 => exact absurd rfl hm
  | index =>
    simp only [mthD] at hd
    unfold indexD at hd
    split at hd
    rotate_left
    · cases hd
    rename_i o k
    split at hd
    · rename_i ns e
      obtain ⟨j, ej, ez⟩ := Option.map_eq_some_iff.mp hd
      cases ez
      obtain ⟨l, el, e2⟩ := Option.bind_eq_some_iff.mp e
      obtain ⟨a, ws, rfl, ea, rw'⟩ := hR.getL hx el
      obtain rfl := ints_rep rw' e2
      obtain ⟨w, rfl, ry⟩ := hds.rep1
      cases ry
      obtain ⟨i1, i2⟩ := idxOf_spec k ns j ej
      refine mt_index pins s σ H _ _ v us Q I rx rv ⟨a, _, _, j, .int k, rfl, rfl, .of ea, rfl, ?_, by rw [List.getElem?_map, i1]; rfl, by simp [eqV], fun m' z' hm' hz => ?_, q m _ _ (Go.refl m H) hR (.int _)⟩
      · rw [List.all_map, List.all_eq_true]
        intro x _
        rfl
      · rw [List.getElem?_map] at hz
        obtain ⟨n, e1, rfl⟩ := Option.map_eq_some_iff.mp hz
        have := i2 m' n hm' e1
        simp [eqV, this]
    · cases hd
  | count =>
    simp only [mthD] at hd
    unfold countD at hd
    split at hd
    rotate_left
    · cases hd
    rename_i o k
    obtain ⟨ns, e, ez⟩ := Option.map_eq_some_iff.mp hd
    cases ez
    obtain ⟨l, el, e2⟩ := Option.bind_eq_some_iff.mp e
    obtain ⟨a, ws, rfl, ea, rw'⟩ := hR.getL hx el
    obtain rfl := ints_rep rw' e2
    obtain ⟨w, rfl, ry⟩ := hds.rep1
    cases ry
    exact mt_lcount pins s σ H _ _ v us Q I rx rv ⟨a, _, _, rfl, rfl, .of ea, q m _ _ (Go.refl m H) hR (.int _)⟩
  | update => simp [mthD] at hd
  | append =>
    simp only [mthD] at hd
    unfold appendD at hd
    split at hd
    rotate_left
    · cases hd
    rename_i n y
    split at hd
    · rename_i l el
      obtain ⟨hc, ez⟩ := chk_some hd
      cases ez
      obtain ⟨a, ws, rfl, em, ea, rw'⟩ := ref_list hR hx el
      obtain ⟨w, rfl, ry⟩ := hds.rep1
      have g : Go m H m (upd H a (.lst (ws ++ [w]))) := Go.write hR (List.mem_of_getElem? em)
      refine mt_append pins s σ H _ _ v us Q I rx rv ⟨a, ws, w, rfl, rfl, ea, by rw [rw'.length]; exact hc, ?_⟩
      exact q m _ _ g (hR.write em ⟨_, upd_same, (rw'.mono g).app (.cons (ry.mono g) .nil)⟩) .non
    · cases hd
  | extend =>
    simp only [mthD] at hd
    unfold extendD at hd
    split at hd
    rotate_left
    · cases hd
    rename_i n l'
    split at hd
    · rename_i l el
      obtain ⟨hc, ez⟩ := chk_some hd
      cases ez
      obtain ⟨a, ws, rfl, em, ea, rw'⟩ := ref_list hR hx el
      obtain ⟨w, rfl, ry⟩ := hds.rep1
      obtain ⟨b, zs, rfl, eb, rz⟩ := hR.getL ry rfl
      have g : Go m H m (upd H a (.lst (ws ++ zs))) := Go.write hR (List.mem_of_getElem? em)
      refine mt_extend pins s σ H _ _ v us Q I rx rv ⟨a, b, ws, zs, rfl, rfl, ea, eb, by rw [rw'.length, rz.length]; exact hc, ?_⟩
      exact q m _ _ g (hR.write em ⟨_, upd_same, (rw'.mono g).app (rz.mono g)⟩) .non
    · cases hd
  | pop =>
    simp only [mthD] at hd
    unfold popD at hd
    split at hd
    rotate_left
    · cases hd
    rename_i n
    split at hd
    · rename_i l el
      split at hd
      · rename_i y ey
        cases hd
        obtain ⟨a, ws, rfl, em, ea, rw'⟩ := ref_list hR hx el
        obtain rfl := hds.nil'
        rw [List.getLast?_eq_getElem?] at ey
        obtain ⟨w, ew, ry⟩ := rw'.get ey
        have g : Go m H m (upd H a (.lst ws.dropLast)) := Go.write hR (List.mem_of_getElem? em)
        refine mt_pop pins s σ H _ _ v us Q I rx rv ⟨a, ws, w, rfl, rfl, ea, by rw [rw'.length]; exact ew, ?_⟩
        exact q m _ _ g (hR.write em ⟨_, upd_same, (rw'.mono g).dropLast⟩) (ry.mono g)
      · cases hd
    · cases hd
  | popat =>
    simp only [mthD] at hd
    unfold popatD at hd
    split at hd
    rotate_left
    · cases hd
    rename_i n i
    split at hd
    · rename_i l el
      split at hd
      · rename_i j ej
        split at hd
        · rename_i y ey
          obtain ⟨⟨h1, h2⟩, ez⟩ := chk_some hd
          cases ez
          obtain ⟨a, ws, rfl, em, ea, rw'⟩ := ref_list hR hx el
          obtain ⟨w0, rfl, ri⟩ := hds.rep1
          obtain rfl := rep_int ri
          obtain ⟨w, ew, ry⟩ := rw'.get ey
          have g : Go m H m (upd H a (.lst (ws.eraseIdx j))) := Go.write hR (List.mem_of_getElem? em)
          refine mt_popAt pins s σ H _ _ v us Q I rx rv ⟨a, ws, i, j, w, rfl, rfl, ea, h1, h2, by rw [rw'.length, seqIx]; exact ej, ew, ?_⟩
          exact q m _ _ g (hR.write em ⟨_, upd_same, (rw'.mono g).eraseIdx j⟩) (ry.mono g)
        · cases hd
      · cases hd
    · cases hd
theorem mth_core {mt : Mt} (hm : mt ≠ .get2) {o : Ex} {es : Exs} (σ : L2.St) (H : Hp) (Q : VK) (h : tE X.K (evE C (.mth mt o es)) σ H Q) :
    tBM X.K "list" (rMth X.K mt) (tE X.K (evE C o)) (tA X.K (evA C es)) σ H Q := by
  obtain ⟨m, e, hs, d, hs', r1, r2, r3, r4⟩ := h
  obtain ⟨x, h1, ds, h2, e1, ek, e2, e3⟩ := evMth r3
  refine ⟨m, e, hs, x, h1, r1, r2, e1, fun m1 v1 H1 g1 q1 w1 => ⟨?_, m1, e, h1, ds, h2, r1.mono g1, q1, e2, fun m2 vs H2 g2 q2 w2 => ?_⟩⟩
  · obtain ⟨l, el⟩ := mok_list hm ek
    obtain ⟨a, ws, rfl, ea, _⟩ := q1.getL w1 el
    exact .inl ⟨rfl, ws, .of ea⟩
  · exact ⟨m2, h2, x, ds, d, hs', q2, w1.mono g2, w2, e3, fun m3 v3 H3 g3 q3 w3 => r4 m3 v3 H3 ((g1.trans g2).trans g3) q3 w3⟩
theorem s_mth1 (S : Sta X k N Γ sc C) {mt : Mt} (hm : mt = .append ∨ mt = .extend ∨ mt = .popat ∨ mt = .index ∨ mt = .count) {o : Ex} {es : Exs} {x y : Expr} {ys : List Expr} {apos cpos : Pos} (hline : (apos.endLine == cpos.line) = true) (hp : plainO x = true) (hl : (y :: ys).length < 29)
    (h4 : ∀ e ∈ y :: ys, isStar e = false) (ho : PE X x (tE X.K (evE C o))) (ha : PA X (y :: ys) (tA X.K (evA C es))) : SE X (.Call (.Attribute x (mtN mt) apos) (y :: ys) [] cpos) (evE C (.mth mt o es)) := by
  have hfew : ((backTo cpos (starEach (y :: ys) X.env)).all (fun x => !x.1) && (backToKw cpos (keywordEach [] X.env)).all (fun x => x.1.isSome)
      && decide ((y :: ys).length + ([] : List Keyword).length + (if ([] : List Keyword).isEmpty then 0 else 1) < 30)) = true := by
    rw [nostar_all h4]
    have : (y :: ys).length + ([] : List Keyword).length + (if ([] : List Keyword).isEmpty then 0 else 1) < 30 := by
      simp only [List.length_nil, List.isEmpty_nil, if_true]
      omega
    rw [decide_eq_true this]
    rfl
  have hpl := nostar_any (env := X.env) (pos := cpos) (es := ys) fun z hz => h4 z (List.mem_cons_of_mem _ hz)
  have hst := star_cons (env := X.env) (e := y) (es := ys) (h4 _ List.mem_cons_self)
  have p : PE X (.Call (.Attribute x (mtN mt) apos) (y :: ys) [] cpos) (tE X.K (evE C (.mth mt o es))) := by
    rcases hm with rfl | rfl | rfl | rfl | rfl
    · exact (pe_bm PySem.F.plainAttrs_list PySem.F.slot_list_append PySem.F.type_list_append (mtr_any (mt := .append) (by decide)) ho ha (plainO_base hp) hfew hline hst hpl).mono (mth_core (by decide))
    · exact (pe_bm PySem.F.plainAttrs_list PySem.F.slot_list_extend PySem.F.type_list_extend (mtr_any (mt := .extend) (by decide)) ho ha (plainO_base hp) hfew hline hst hpl).mono (mth_core (by decide))
    · exact (pe_bm PySem.F.plainAttrs_list PySem.F.slot_list_pop PySem.F.type_list_pop (mtr_any (mt := .popat) (by decide)) ho ha (plainO_base hp) hfew hline hst hpl).mono (mth_core (by decide))
    · exact (pe_bm PySem.F.plainAttrs_list PySem.F.slot_list_index PySem.F.type_list_index (mtr_any (mt := .index) (by decide)) ho ha (plainO_base hp) hfew hline hst hpl).mono (mth_core (by decide))
    · exact (pe_bm PySem.F.plainAttrs_list PySem.F.slot_list_count PySem.F.type_list_count (mtr_any (mt := .count) (by decide)) ho ha (plainO_base hp) hfew hline hst hpl).mono (mth_core (by decide))
  exact ⟨p, PT.ofE p fun _ => rfl⟩
theorem s_mth0 (S : Sta X k N Γ sc C) {o : Ex} {x : Expr} {apos cpos : Pos} (hline : (apos.endLine == cpos.line) = true) (hp : plainO x = true) (ho : PE X x (tE X.K (evE C o))) : SE X (.Call (.Attribute x (mtN .pop) apos) [] [] cpos) (evE C (.mth .pop o .nil)) := by
  have p : PE X (.Call (.Attribute x (mtN .pop) apos) [] [] cpos) (tE X.K (evE C (.mth .pop o .nil))) := by
    refine (pe_bm0 PySem.F.plainAttrs_list PySem.F.slot_list_pop PySem.F.type_list_pop (mtr_any (mt := .pop) (by decide)) ho (plainO_base hp) hline).mono fun σ H Q h => ?_
    obtain ⟨m, e, hs, d, hs', r1, r2, r3, r4⟩ := h
    obtain ⟨x, h1, ds, h2, e1, ek, e2, e3⟩ := evMth r3
    simp only [evA] at e2
    cases e2
    refine ⟨m, e, hs, x, _, r1, r2, e1, fun m1 v1 H1 g1 q1 w1 => ⟨?_, ?_⟩⟩
    · obtain ⟨l, el⟩ := mok_list (by decide) ek
      obtain ⟨a, ws, rfl, ea, _⟩ := q1.getL w1 el
      exact .inl ⟨rfl, ws, .of ea⟩
    · exact ⟨m1, _, x, [], d, hs', q1, w1, .nil, e3, fun m3 v3 H3 g3 q3 w3 => r4 m3 v3 H3 (g1.trans g3) q3 w3⟩
  exact ⟨p, PT.ofE p fun _ => rfl⟩
theorem s_get2 (S : Sta X k N Γ sc C) {o a b : Ex} {x y z : Expr} {apos cpos : Pos} (hline : (apos.endLine == cpos.line) = true) (hp : plainO x = true) (h4 : ∀ e ∈ [y, z], isStar e = false) (ho : PE X x (tE X.K (evE C o))) (ha : PE X y (tE X.K (evE C a))) (hb : PE X z (tE X.K (evE C b))) :
    SE X (.Call (.Attribute x (mtN .get2) apos) [y, z] [] cpos) (evE C (.mth .get2 o (.cons false a (.cons false b .nil)))) := by
  have hst := star_cons (env := X.env) (e := y) (es := [z]) (h4 _ List.mem_cons_self)
  have hst' := star_cons (env := X.env) (e := z) (es := []) (h4 _ (List.mem_cons_of_mem _ List.mem_cons_self))
  have hfew : ((backTo cpos (starEach [y, z] X.env)).all (fun x => !x.1) && (backToKw cpos (keywordEach [] X.env)).all (fun x => x.1.isSome)
      && decide (([y, z] : List Expr).length + ([] : List Keyword).length + (if ([] : List Keyword).isEmpty then 0 else 1) < 30)) = true := by
    rw [nostar_all h4]
    rfl
  have mm : M2 X x (mtN .get2) apos y z cpos := ⟨plainO_base hp, hfew, hline, by rw [hst, hst']; rfl⟩
  have p : PE X (.Call (.Attribute x (mtN .get2) apos) [y, z] [] cpos) (tE X.K (evE C (.mth .get2 o (.cons false a (.cons false b .nil))))) := by
    have hu := S.u
    refine (pe_dget2 (by omega) ho ha hb mm).mono fun σ H Q h => ?_
    obtain ⟨m, e, hs, d, hs', r1, r2, r3, r4⟩ := h
    obtain ⟨dx, h1, ds, h2, e1, ek, e2, e3⟩ := evMth r3
    obtain ⟨da, db, h3, e4, e5, rfl⟩ := evA_two e2
    simp only [mokD, Bool.or_eq_true] at ek
    refine ⟨m, e, hs, dx, _, r1, r2, e1, fun m1 v1 H1 g1 q1 w1 => ?_⟩
    have hD : ∃ a, v1 = .ref a ∧ IsD H1 a := by
      rcases ek with ek | ek
      · obtain ⟨l, el⟩ := Option.isSome_iff_exists.mp ek
        obtain ⟨a, us, rfl, ea, _⟩ := q1.getDk w1 el
        exact ⟨a, rfl, .inl ⟨us, .inl ea⟩⟩
      · obtain ⟨l, el⟩ := Option.isSome_iff_exists.mp ek
        obtain ⟨a, us, rfl, ea, _⟩ := q1.getDt w1 el
        exact ⟨a, rfl, .inr ⟨us, .inl ea⟩⟩
    obtain ⟨a, rfl, hI⟩ := hD
    refine ⟨a, rfl, hI, m1, e, h1, da, h3, r1.mono g1, q1, e4, fun m2 v2 H2 g2 q2 w2 => ⟨m2, e, h3, db, h2, r1.mono (g1.trans g2), q2, e5, fun m3 v3 H3 g3 q3 w3 => ?_⟩⟩
    have wx := w1.mono (g2.trans g3)
    have wk := w2.mono g3
    simp only [mthD, get2D] at e3
    split at e3
    · rename_i kvs eq
      obtain ⟨k, ek, ez⟩ := Option.map_eq_some_iff.mp e3
      cases ez
      obtain ⟨a', us, ev, ea, eu, ru⟩ := q3.getDk wx eq
      cases ev
      obtain rfl := kV_rep wk ek
      refine ⟨_, DGet.k ea, ?_⟩
      rcases look_rep k eu ru with ⟨v, d', p1, p2, p3⟩ | ⟨p1, p2⟩
      · rw [p1]
        rw [p2] at r4
        exact r4 m3 v H3 ((g1.trans g2).trans g3) q3 p3
      · rw [p1]
        rw [p2] at r4
        exact r4 m3 v3 H3 ((g1.trans g2).trans g3) q3 w3
    · split at e3
      rotate_left
      · cases e3
      rename_i kvs eq
      obtain ⟨k, ek, ez⟩ := Option.map_eq_some_iff.mp e3
      cases ez
      obtain ⟨a', us, ev, ea, eu, ru⟩ := q3.getDt wx eq
      cases ev
      obtain ⟨b, rfl, eb⟩ := keys_rep wk ek
      refine ⟨_, DGet.t ea eb, ?_⟩
      rcases look_rep k eu ru with ⟨v, d', p1, p2, p3⟩ | ⟨p1, p2⟩
      · rw [p1]
        rw [p2] at r4
        exact r4 m3 v H3 ((g1.trans g2).trans g3) q3 p3
      · rw [p1]
        rw [p2] at r4
        exact r4 m3 v3 H3 ((g1.trans g2).trans g3) q3 w3
  exact ⟨p, PT.ofE p fun _ => rfl⟩

/-! ### a thing laid in the store -/
theorem s_al {a : Ex} {y : Expr} (h : PE X y (tEF X.K (evE C a))) : SE X y (evE C (.al a)) := by
  have p : PE X y (tE X.K (evE C (.al a))) := by
    refine h.mono fun σ H Q ⟨m, e, hs, d, hs', r1, r2, r3, r4⟩ => ?_
    simp only [evE] at r3
    split at r3
    · rename_i l h' e1
      cases r3
      refine ⟨m, e, hs, .lst l, h', r1, r2, e1, fun m1 vs p H1 g1 q1 hp w1 => ?_⟩
      have g : Go m1 H1 (m1.add p) (upd H1 p (.lst vs)) := Go.alloc q1 hp
      refine r4 (m1.add p) _ _ (g1.trans g) (q1.alloc hp ⟨vs, upd_same, w1.mono g⟩) (.ref ?_)
      show (m1.r ++ [p])[h'.length]? = _
      rw [← q1.len, List.getElem?_append_right (Nat.le_refl _), Nat.sub_self]
      rfl
    · rename_i l h' e1
      cases r3
      refine ⟨m, e, hs, .dk l, h', r1, r2, e1, fun m1 vs p H1 g1 q1 hp w0 w1 => ?_⟩
      have g : Go m1 H1 (m1.add p) (upd H1 p (.dK vs)) := Go.alloc q1 hp
      refine r4 (m1.add p) _ _ (g1.trans g) (q1.alloc hp ⟨vs, upd_same, w0, w1.mono g⟩) (.ref ?_)
      show (m1.r ++ [p])[h'.length]? = _
      rw [← q1.len, List.getElem?_append_right (Nat.le_refl _), Nat.sub_self]
      rfl
    · rename_i l h' e1
      cases r3
      refine ⟨m, e, hs, .dt l, h', r1, r2, e1, fun m1 vs p H1 g1 q1 hp w0 w1 => ?_⟩
      have g : Go m1 H1 (m1.add p) (upd H1 p (.dT vs)) := Go.alloc q1 hp
      refine r4 (m1.add p) _ _ (g1.trans g) (q1.alloc hp ⟨vs, upd_same, w0, w1.mono g⟩) (.ref ?_)
      show (m1.r ++ [p])[h'.length]? = _
      rw [← q1.len, List.getElem?_append_right (Nat.le_refl _), Nat.sub_self]
      rfl
    · cases r3
  refine ⟨p, ⟨fun pins s σ H Q I ⟨m, e, hs, b, hs', _, _, r3, _⟩ => ?_⟩⟩
  simp only [evE] at r3
  split at r3 <;> cases r3
end
end Z

set_option Elab.async false
set_option linter.all false
set_option maxRecDepth 100000
set_option maxHeartbeats 4000000
/-! Z10: dict displays, comprehensions, targets, what is walked -/
namespace Z
open PySem PySem.Spec PyProof.Rows L2
section
variable {X : Cx} {k : Nat} {N : List Str} {Γ : Nat → Option Str} {sc : Scope} {C : Cal} {F : Mp → Hp → D → Hs → VK → Prop}
/-! ### dict displays -/
def altOk : Exs → Bool
  | .nil => true
  | .cons false _ (.cons false _ r) => altOk r
  | _ => false
def trsOf (K : PySem.W.Frag) (C : Cal) : Exs → List (TE × TE)
  | .cons _ a (.cons _ b r) => (tE K (evE C a), tE K (evE C b)) :: trsOf K C r
  | _ => []
theorem evA_cons {a : Ex} {r : Exs} {e : Ev} {h h' : Hs} {ds : List D} (q : evA C (.cons false a r) e h = some (ds, h')) : ∃ d ds' h1, evE C a e h = some (d, h1) ∧ evA C r e h1 = some (ds', h') ∧ ds = d :: ds' := by
  simp only [evA, Bool.false_eq_true, if_false] at q
  split at q
  · rename_i x h1 e2
    split at q
    · rename_i ys h2 e3
      cases q
      exact ⟨x, ys, h1, e2, e3, rfl⟩
    · cases q
  · cases q
theorem tPairs_of {K : PySem.W.Frag} : ∀ (es : Exs), altOk es = true → ∀ (ds : List D) (kvs : List (Key × D)) (m : Mp) (e : Ev) (hs hs' : Hs) (σ : L2.St) (H : Hp) (Q : List (V × V) → Hp → Prop), RE K m H σ e → RH K m H hs → evA C es e hs = some (ds, hs') → pairsD ds = some kvs →
    (∀ m' H' (us : List (Key × V)), Go m H m' H' → RH K m' H' hs' → us.map (·.1) = kvs.map (·.1) → Reps K m' H' (us.map (·.2)) (kvs.map (·.2)) → Q (us.map fun kv => (kV kv.1, kv.2)) H') →
    tPairs (trsOf K C es) σ H Q
  | .nil, _, ds, kvs, m, e, hs, hs', σ, H, Q, hr, hh, h1, h2, h3 => by
    simp only [evA] at h1
    cases h1
    simp only [pairsD] at h2
    cases h2
    exact h3 m H [] (Go.refl m H) hh rfl .nil
  | .cons true a .nil, hk, _, _, _, _, _, _, _, _, _, _, _, _, _, _ => by simp [altOk] at hk
  | .cons false a .nil, hk, _, _, _, _, _, _, _, _, _, _, _, _, _, _ => by simp [altOk] at hk
  | .cons true a (.cons s' b r), hk, _, _, _, _, _, _, _, _, _, _, _, _, _, _ => by simp [altOk] at hk
  | .cons false a (.cons true b r), hk, _, _, _, _, _, _, _, _, _, _, _, _, _, _ => by simp [altOk] at hk
  | .cons false a (.cons false b r), hk, ds, kvs, m, e, hs, hs', σ, H, Q, hr, hh, h1, h2, h3 => by
    simp only [altOk] at hk
    obtain ⟨x, ds1, g1, e1, e2, rfl⟩ := evA_cons h1
    obtain ⟨y, ds2, g2, e3, e4, rfl⟩ := evA_cons e2
    simp only [pairsD] at h2
    split at h2
    · rename_i k l ek el
      cases h2
      refine ⟨m, e, hs, x, g1, hr, hh, e1, fun m1 v1 H1 w1 q1 p1 => ⟨m1, e, g1, y, g2, hr.mono w1, q1, e3, fun m2 v2 H2 w2 q2 p2 => ?_⟩⟩
      refine tPairs_of r hk ds2 l m2 e g2 hs' σ H2 _ (hr.mono (w1.trans w2)) q2 e4 el fun m3 H3 us w3 q3 eu ru => ?_
      obtain rfl := kV_rep p1 ek
      refine h3 m3 H3 ((k, v2) :: us) ((w1.trans w2).trans w3) q3 ?_ (.cons (p2.mono w3) ru)
      rw [List.map_cons, List.map_cons, eu]
    · cases h2
theorem merge_rep {K : PySem.W.Frag} {m : Mp} {H : Hp} : ∀ (us : List (Key × V)) (kvs : List (Key × D)) (us0 : List (Key × V)) (kvs0 : List (Key × D)), us.map (·.1) = kvs.map (·.1) → Reps K m H (us.map (·.2)) (kvs.map (·.2)) →
    us0.map (·.1) = kvs0.map (·.1) → Reps K m H (us0.map (·.2)) (kvs0.map (·.2)) → (mergeK us0 us).map (·.1) = (mergeD kvs0 kvs).map (·.1) ∧ Reps K m H ((mergeK us0 us).map (·.2)) ((mergeD kvs0 kvs).map (·.2))
  | [], [], _, _, _, _, e0, r0 => ⟨e0, r0⟩
  | [], _ :: _, _, _, e, _, _, _ => by simp at e
  | _ :: _, [], _, _, e, _, _, _ => by simp at e
  | u :: us, p :: kvs, us0, kvs0, e, r, e0, r0 => by
    simp only [List.map_cons, List.cons.injEq] at e
    cases r with
    | cons a t =>
      obtain ⟨h1, h2⟩ := put_rep (k := u.1) e0 r0 a
      have := merge_rep us kvs (putK us0 u.1 u.2) (put kvs0 u.1 p.2) e.2 t h1 h2
      rw [e.1] at this
      unfold mergeK mergeD at this ⊢
      rw [List.foldl_cons, List.foldl_cons, e.1]
      exact this
theorem s_dctG (hF : F = KF X.K) {es : Exs} {ks : List (Option Expr)} {vs : List Expr} {pos : Pos} (hp : PPs X pos ks vs (trsOf X.K C es)) (ha : altOk es = true) (hall : ks.all (·.isSome) = true) (hl : ks.length = vs.length) (h0 : ks ≠ []) (h15 : ks.length ≤ 15) :
    PE X (.Dict ks vs pos) (tEG X.K F (evE C (.dct es))) := by
  subst hF
  refine (pe_disp hp hall hl h0 h15).mono fun σ H Q ⟨m, e, hs, d, hs', r1, r2, r3, r4⟩ => ?_
  simp only [evE] at r3
  split at r3
  · rename_i ds h1 e1
    split at r3
    · rename_i kvs ek
      obtain ⟨hz, ez⟩ := chk_some r3
      cases ez
      intro p hp0
      refine tPairs_of es ha ds kvs (m.ex p) e hs _ σ _ _ (r1.monoW (Gw.ex hp0)) (r2.exS hp0) e1 ek fun m1 H1 us g1 q1 eu ru => ?_
      have hx : m1.x = p :: m.x := g1.mx
      have hn : p ∉ m.x := fun z => r2.new hp0 (.inr z)
      have hp1 : H1 p = some (.dK []) := g1.mkeep p List.mem_cons_self _ upd_same
      have hlen : us.length = kvs.length := by simpa using congrArg List.length eu
      refine ⟨hp1, us, rfl, by omega, ?_⟩
      have g2 : Go m H ⟨m1.r, m.x⟩ (Z.del H1 p) := by
        have := Go.delM (m := m.ex p) (x := m.x) rfl g1
        rw [del_upd, del_new hp0] at this
        exact this
      have ru' : Reps X.K ⟨m1.r, m.x⟩ (Z.del H1 p) (us.map (·.2)) (kvs.map (·.2)) := ru.monoW (Gw.delM hx)
      obtain ⟨z1, z2⟩ := merge_rep us kvs [] [] eu ru' rfl .nil
      have := r4 ⟨m1.r, m.x⟩ (mergeK [] us) p (Z.del H1 p) g2 (q1.delM hx hn) del_same z1 z2
      rwa [upd_del] at this
    · cases r3
  · cases r3
theorem s_dct0 {pos : Pos} : PE X (.Dict [] [] pos) (tEF X.K (evE C (.dct .nil))) := by
  refine pe_dnewK.mono fun σ H Q ⟨m, e, hs, d, hs', r1, r2, r3, r4⟩ => ?_
  simp only [evE, evA, pairsD] at r3
  obtain ⟨_, ez⟩ := chk_some r3
  cases ez
  exact fun p hp => r4 m [] p H (Go.refl m H) r2 hp rfl .nil
theorem s_dnewt {pos : Pos} : PE X (.Dict [] [] pos) (tEF X.K (evE C .dnewt)) := by
  refine pe_dnewT.mono fun σ H Q ⟨m, e, hs, d, hs', r1, r2, r3, r4⟩ => ?_
  simp only [evE] at r3
  cases r3
  exact fun p hp => r4 m [] p H (Go.refl m H) r2 hp rfl .nil

/-! ### what is walked -/
/-- of a source, its end -/
theorem pi_seq (S : Sta X k N Γ sc C) {a : Ex} {y tg : Expr} (h : PE X y (tE X.K (evE C a))) : PI X tg y (tI X.K (evI C (.seq a))) := by
  refine ((pi_list h).or (pi_tup h)).mono fun σ H R ⟨m, e, hs, src, hs', r1, r2, r3, r4⟩ => ?_
  simp only [evI] at r3
  split at r3
  · rename_i l h1 e1
    cases r3
    refine .inr ⟨m, e, hs, _, _, r1, r2, e1, fun m1 v1 H1 g1 q1 w1 => ?_⟩
    cases w1 with
    | tup f r => exact ⟨_, rfl, ⟨_, f.sqT⟩, r4 m1 H1 _ g1 q1 (src_tup f r)⟩
  · rename_i l h1 e1
    cases r3
    refine .inl ⟨m, e, hs, _, _, r1, r2, e1, fun m1 v1 H1 g1 q1 w1 => ?_⟩
    cases w1 with
    | lst f r => exact ⟨_, rfl, ⟨_, f.sqL⟩, r4 m1 H1 _ g1 q1 (src_lst f r)⟩
  · rename_i n h1 e1
    split at r3
    · rename_i l el
      cases r3
      refine .inl ⟨m, e, hs, _, _, r1, r2, e1, fun m1 v1 H1 g1 q1 w1 => ?_⟩
      obtain ⟨a, vs, rfl, em, ea, r⟩ := ref_list q1 w1 el
      exact ⟨_, rfl, ⟨_, .of ea⟩, r4 m1 H1 _ g1 q1 (src_ref em)⟩
    · cases r3
  · rename_i ns h1 e1
    cases r3
    refine .inl ⟨m, e, hs, _, _, r1, r2, e1, fun m1 v1 H1 g1 q1 w1 => ?_⟩
    cases w1 with
    | scr f => exact ⟨_, rfl, ⟨_, f.sq⟩, r4 m1 H1 _ g1 q1 (src_scr f)⟩
  · cases r3
theorem pi_rng1 (S : Sta X k N Γ sc C) {a : Ex} {y tg : Expr} {p pos : Pos} (hg : glB sc "range" = true) (hs : isStar y = false) (h : PE X y (tE X.K (evE C a))) : PI X tg (.Call (.Name "range" p) [y] [] pos) (tI X.K (evI C (.rng (.cons false a .nil)))) := by
  have ha : PA X [y] (tA X.K (evA C (.cons false a .nil))) := s_acons hs h s_anil
  refine (pi_range1 (gl_sta S hg) (S.blt _ (by decide +kernel)) ha (star_cons hs)).mono fun σ H R ⟨m, e, hs, src, hs', r1, r2, r3, r4⟩ => ?_
  simp only [evI] at r3
  split at r3
  · rename_i j h1 e1
    obtain ⟨hz, ez⟩ := chk_some r3
    cases ez
    refine ⟨m, e, hs, _, _, r1, r2, e1, fun m1 vs H1 g1 q1 w1 => ?_⟩
    obtain ⟨v, rfl, w⟩ := w1.rep1
    exact ⟨j, by rw [rep_int w], hz.1, hz.2, r4 m1 H1 _ g1 q1 src_rng⟩
  · rename_i i j h1 e1
    obtain ⟨d, _, h⟩ := evA_one e1
    cases h
  · cases r3
theorem pi_rng2 (S : Sta X k N Γ sc C) {a b : Ex} {y z tg : Expr} {p pos : Pos} (hg : glB sc "range" = true) (hs : isStar y = false) (hs' : isStar z = false) (h : PE X y (tE X.K (evE C a))) (h' : PE X z (tE X.K (evE C b))) :
    PI X tg (.Call (.Name "range" p) [y, z] [] pos) (tI X.K (evI C (.rng (.cons false a (.cons false b .nil))))) := by
  have ha : PA X [y, z] (tA X.K (evA C (.cons false a (.cons false b .nil)))) := s_acons hs h (s_acons hs' h' s_anil)
  refine (pi_range2 (gl_sta S hg) (S.blt _ (by decide +kernel)) ha (by rw [star_cons hs, star_cons hs']; rfl) (star_cons hs')).mono fun σ H R ⟨m, e, hs, src, hs', r1, r2, r3, r4⟩ => ?_
  simp only [evI] at r3
  split at r3
  · rename_i i h1 e1
    obtain ⟨d, d', _, _, _, h⟩ := evA_two e1
    cases h
  · rename_i i j h1 e1
    obtain ⟨hz, ez⟩ := chk_some r3
    cases ez
    refine ⟨m, e, hs, _, _, r1, r2, e1, fun m1 vs H1 g1 q1 w1 => ?_⟩
    obtain ⟨v, w, rfl, w2, w3⟩ := w1.rep2
    exact ⟨i, j, by rw [rep_int w2, rep_int w3], hz, r4 m1 H1 _ g1 q1 src_rng⟩
  · cases r3
theorem pi_en (S : Sta X k N Γ sc C) {a : Ex} {y : Expr} {elts : List Expr} {kk : Nat} {tpos p pos : Pos} (hg : glB sc "enumerate" = true) (hs : isStar y = false) (h : PE X y (tE X.K (evE C a))) :
    PI X (.Tuple elts kk tpos) (.Call (.Name "enumerate" p) [y] [] pos) (tI X.K (evI C (.enum a))) := by
  have ha : PA X [y] (tA X.K (evA C (.cons false a .nil))) := s_acons hs h s_anil
  have gl := gl_sta S hg
  have hm : X.mg "enumerate" = none := S.blt _ (by decide +kernel)
  refine ((pi_enum gl hm ha (star_cons hs)).or (pi_enumT gl hm ha (star_cons hs))).mono fun σ H R ⟨m, e, hs, src, hs', r1, r2, r3, r4⟩ => ?_
  have e0 : ∀ {d h1}, evE C a e hs = some (d, h1) → evA C (.cons false a .nil) e hs = some ([d], h1) := fun {d h1} q => by
    simp only [evA, q, Bool.false_eq_true, if_false, List.append_nil]
  simp only [evI] at r3
  split at r3
  · rename_i l h1 e1
    cases r3
    refine .inr ⟨m, e, hs, _, _, r1, r2, e0 e1, fun m1 vs H1 g1 q1 w1 => ?_⟩
    obtain ⟨v, rfl, w⟩ := w1.rep1
    cases w with
    | tup f r => exact ⟨_, _, rfl, f.sqT, r4 m1 H1 _ g1 q1 (src_enumT f r)⟩
  · rename_i l h1 e1
    cases r3
    refine .inl ⟨m, e, hs, _, _, r1, r2, e0 e1, fun m1 vs H1 g1 q1 w1 => ?_⟩
    obtain ⟨v, rfl, w⟩ := w1.rep1
    cases w with
    | lst f r => exact ⟨_, _, rfl, f.sqL, r4 m1 H1 _ g1 q1 (src_enumL f r)⟩
  · rename_i n h1 e1
    split at r3
    · rename_i l el
      cases r3
      refine .inl ⟨m, e, hs, _, _, r1, r2, e0 e1, fun m1 vs H1 g1 q1 w1 => ?_⟩
      obtain ⟨v, rfl, w⟩ := w1.rep1
      obtain ⟨a, vs, rfl, em, ea, r⟩ := ref_list q1 w el
      exact ⟨_, _, rfl, .of ea, r4 m1 H1 _ g1 q1 (src_enumR em)⟩
    · cases r3
  · cases r3
end
end Z

set_option Elab.async false
set_option linter.all false
set_option maxRecDepth 100000
set_option maxHeartbeats 4000000
/-! Z11: targets, comprehensions -/
namespace Z
open PySem PySem.Spec PyProof.Rows L2
def Off (is : List Nat) (σ σ' : L2.St) : Prop := σ'.length = σ.length ∧ ∀ i, i ∉ is → σ'[i]? = σ[i]?
theorem Off.refl (is : List Nat) (σ : L2.St) : Off is σ σ := ⟨rfl, fun _ _ => rfl⟩
theorem Off.trans {is : List Nat} {a b c : L2.St} (x : Off is a b) (y : Off is b c) : Off is a c := ⟨y.1.trans x.1, fun i h => (y.2 i h).trans (x.2 i h)⟩
theorem Off.sub {is js : List Nat} (h : ∀ i ∈ is, i ∈ js) {a b : L2.St} (x : Off is a b) : Off js a b := ⟨x.1, fun i hi => x.2 i fun z => hi (h i z)⟩
theorem off_set (σ : L2.St) (i : Nat) (v : Option V) : Off [i] σ (σ.set i v) := ⟨List.length_set, fun j hj => List.getElem?_set_ne (fun e => hj (by rw [e]; exact List.mem_singleton_self _))⟩
theorem wipe_get (σ : L2.St) (i : Nat) : ∀ vs : List Nat, (wipe σ vs)[i]? = if i ∈ vs then (if i < σ.length then some none else none) else σ[i]?
  | [] => by simp [wipe]
  | v :: vs => by
    unfold wipe
    by_cases h : v = i
    · subst h
      rw [List.getElem?_set_self', if_pos List.mem_cons_self]
      by_cases hl : v < σ.length
      · rw [if_pos hl]
        have : v < (wipe σ vs).length := by rw [wipe_length]; exact hl
        rw [List.getElem?_eq_getElem this]
        rfl
      · rw [if_neg hl]
        have : (wipe σ vs)[v]? = none := List.getElem?_eq_none (by rw [wipe_length]; omega)
        rw [this]
        rfl
    · rw [List.getElem?_set_ne h, wipe_get σ i vs]
      have e : (i ∈ v :: vs) ↔ i ∈ vs := ⟨fun z => (List.mem_cons.mp z).resolve_left fun q => h q.symm, List.mem_cons_of_mem _⟩
      by_cases hi : i ∈ vs
      · rw [if_pos hi, if_pos (e.mpr hi)]
      · rw [if_neg hi, if_neg (fun z => hi (e.mp z))]
theorem wipe_off {vs : List Nat} {σ σ' : L2.St} (h : Off vs σ σ') : wipe σ' vs = wipe σ vs := by
  apply List.ext_getElem?
  intro i
  rw [wipe_get, wipe_get, h.1]
  by_cases hi : i ∈ vs
  · rw [if_pos hi, if_pos hi]
  · rw [if_neg hi, if_neg hi, h.2 i hi]
theorem off_wipe (σ : L2.St) (vs : List Nat) : Off vs σ (wipe σ vs) := ⟨wipe_length σ vs, fun i hi => by rw [wipe_get, if_neg hi]⟩
theorem RE.set {K : PySem.W.Frag} {m : Mp} {H : Hp} {σ : L2.St} {e : Ev} (h : RE K m H σ e) {v : V} {d : D} (r : Rep K m H v d) (i : Nat) : RE K m H (σ.set i (some v)) (e.set i (some d)) := by
  refine ⟨by rw [List.length_set, List.length_set]; exact h.len, fun j d' q => ?_⟩
  by_cases hj : i = j
  · subst hj
    have hl : i < e.length := by
      have := (List.getElem?_eq_some_iff.mp q).1
      rwa [List.length_set] at this
    rw [List.getElem?_set_self hl] at q
    cases q
    exact ⟨v, by rw [List.getElem?_set_self (by rw [h.len]; exact hl)], r⟩
  · rw [List.getElem?_set_ne hj] at q ⊢
    exact h.get j d' q
theorem RE.unset {K : PySem.W.Frag} {m : Mp} {H : Hp} {σ : L2.St} {e : Ev} (h : RE K m H σ e) (i : Nat) : RE K m H (σ.set i none) (e.set i none) := by
  refine ⟨by rw [List.length_set, List.length_set]; exact h.len, fun j d' q => ?_⟩
  by_cases hj : i = j
  · subst hj
    have hl : i < e.length := by
      have := (List.getElem?_eq_some_iff.mp q).1
      rwa [List.length_set] at this
    rw [List.getElem?_set_self hl] at q
    cases q
  · rw [List.getElem?_set_ne hj] at q ⊢
    exact h.get j d' q
theorem RE.wipe {K : PySem.W.Frag} {m : Mp} {H : Hp} {σ : L2.St} {e : Ev} (h : RE K m H σ e) : ∀ vs : List Nat, RE K m H (L2.wipe σ vs) (wipeD e vs)
  | [] => h
  | v :: vs => (h.wipe vs).unset v

/-! ### targets -/
def tG (K : PySem.W.Frag) (is : List Nat) (ev : D → Ev → Hs → Option (Ev × Hs)) : TG := fun v σ H Q => ∃ m e hs d e' hs', RE K m H σ e ∧ RH K m H hs ∧ Rep K m H v d ∧ ev d e hs = some (e', hs') ∧ ∀ m' σ' H', Go m H m' H' → RE K m' H' σ' e' → RH K m' H' hs' → Off is σ σ' → Q σ' H'
def tGs (K : PySem.W.Frag) (is : List Nat) (ev : List D → Ev → Hs → Option (Ev × Hs)) : TGs := fun v σ H Q => ∃ m e hs d e' hs', RE K m H σ e ∧ RH K m H hs ∧ Reps K m H v d ∧ ev d e hs = some (e', hs') ∧ ∀ m' σ' H', Go m H m' H' → RE K m' H' σ' e' → RH K m' H' hs' → Off is σ σ' → Q σ' H'
section
variable {X : Cx} {k : Nat} {N : List Str} {Γ : Nat → Option Str} {sc : Scope} {C : Cal}
theorem t_nm (S : Sta X k N Γ sc C) {own : Scope} (O : Own X own) {i : Nat} {x : Str} {pos : Pos} (h1 : N[i]? = some x) (h2 : ownB own x = true) : PG X (.Name x pos) (tG X.K [i] (evT C (.nm i))) := by
  obtain ⟨hl, hf⟩ := O x h2
  refine (pg_name (i := i) (by rw [S.n]; exact S.nd) (by rw [S.n]; exact h1) hl hf).mono fun v σ H Q ⟨m, e, hs, d, e', hs', r1, r2, r3, r4, r5⟩ => ?_
  simp only [evT] at r4
  cases r4
  exact r5 m _ H (Go.refl m H) (r1.set r3 i) r2 (off_set σ i _)
theorem asSub_of {x y : Expr} {pos : Pos} {env : Env} (h : isSlice y = false) (v : Value) : assign (.Subscript x y pos) env v = (do
      let ov ← holding [v] (eval x env)
      let iv ← holding [v, ov] (eval y env)
      standAt pos
      holding [v, ov, iv] (setItem ov iv v)
      release [v, ov, iv] []) := by
  cases y <;> first
    | rfl
    | cases h
theorem t_sub (S : Sta X k N Γ sc C) {o a : Ex} {x y : Expr} {pos : Pos} (hs : isSlice y = false) (ho : PE X x (tE X.K (evE C o))) (ha : PE X y (tE X.K (evE C a))) : PG X (.Subscript x y pos) (tG X.K [] (evT C (.sub o a))) := by
  refine (pg_sub ho ha (set_any S.u) (asSub_of hs)).mono fun v σ H Q ⟨m, e, hs, d, e', hs', r1, r2, r3, r4, r5⟩ => ?_
  simp only [evT] at r4
  split at r4
  · rename_i dx h1 e1
    split at r4
    · rename_i dy h2 e2
      obtain ⟨h3, e3, ez⟩ := Option.map_eq_some_iff.mp r4
      cases ez
      refine ⟨m, e, hs, dx, h1, r1, r2, e1, fun m1 v1 H1 g1 q1 w1 => ⟨m1, e, h1, dy, h2, r1.mono g1, q1, e2, fun m2 v2 H2 g2 q2 w2 => ?_⟩⟩
      exact ⟨m2, h2, dx, dy, d, _, q2, w1.mono g2, w2, r3.mono (g1.trans g2), e3, fun H' g3 q3 => r5 m2 σ H' ((g1.trans g2).trans g3) (r1.mono ((g1.trans g2).trans g3)) q3 (Off.refl _ _)⟩
    · cases r4
  · cases r4
theorem ts_nil : PGs X [] (tGs X.K [] (evTs C .nil)) := by
  refine pgs_nil.mono fun v σ H Q ⟨m, e, hs, d, e', hs', r1, r2, r3, r4, r5⟩ => ?_
  cases r3 with
  | nil =>
    simp only [evTs] at r4
    cases r4
    exact ⟨rfl, r5 m σ H (Go.refl m H) r1 r2 (Off.refl _ _)⟩
  | cons _ _ =>
    simp only [evTs] at r4
    cases r4
theorem ts_cons {t : Tg} {r : Tgs} {y : Expr} {ys : List Expr} {is js : List Nat} (hs : isStar y = false) (h1 : PG X y (tG X.K is (evT C t))) (h2 : PGs X ys (tGs X.K js (evTs C r))) : PGs X (y :: ys) (tGs X.K (is ++ js) (evTs C (.cons t r))) := by
  refine (pgs_cons h1 h2 (by rw [asEach_cons hs]; rfl)).mono fun v σ H Q ⟨m, e, hs, d, e', hs', r1, r2, r3, r4, r5⟩ => ?_
  cases r3 with
  | nil =>
    simp only [evTs] at r4
    cases r4
  | @cons v vs d ds w ws =>
    simp only [evTs] at r4
    split at r4
    · rename_i e1 h1' q1
      refine ⟨v, vs, rfl, m, e, hs, d, e1, h1', r1, r2, w, q1, fun m1 σ1 H1 g1 re1 rh1 o1 => ?_⟩
      refine ⟨m1, e1, h1', ds, e', hs', re1, rh1, ws.mono g1, r4, fun m2 σ2 H2 g2 re2 rh2 o2 => ?_⟩
      exact r5 m2 σ2 H2 (g1.trans g2) re2 rh2 ((o1.sub fun i hi => List.mem_append_left _ hi).trans (o2.sub fun i hi => List.mem_append_right _ hi))
    · cases r4
theorem evTs_len : ∀ (ts : Tgs) (xs : List Expr) {N : List Str} {Γ : Nat → Option Str} {sc own : Scope} {C : Cal} {ds : List D} {e : Ev} {h : Hs} {r : Ev × Hs}, mTs N Γ sc own ts xs = true → evTs C ts ds e h = some r → ds.length = xs.length
  | .nil, [], _, _, _, _, _, ds, e, h, r, _, q => by
    cases ds with
    | nil => rfl
    | cons _ _ => simp only [evTs] at q; cases q
  | .nil, _ :: _, _, _, _, _, _, _, _, _, _, hm, _ => by simp [mTs] at hm
  | .cons _ _, [], _, _, _, _, _, _, _, _, _, hm, _ => by simp [mTs] at hm
  | .cons t r', x :: xs, _, _, _, _, _, ds, e, h, r, hm, q => by
    cases ds with
    | nil => simp only [evTs] at q; cases q
    | cons d ds =>
      simp only [evTs] at q
      simp only [mTs, Bool.and_eq_true] at hm
      split at q
      · rw [List.length_cons, List.length_cons, evTs_len r' xs hm.2 q]
      · cases q
theorem t_tup (S : Sta X k N Γ sc C) {own : Scope} {ts : Tgs} {xs : List Expr} {c : Nat} {pos : Pos} {is : List Nat} (hm : mTs N Γ sc own ts xs = true) (h : PGs X xs (tGs X.K is (evTs C ts))) : PG X (.Tuple xs c pos) (tG X.K is (evT C (.tup ts))) := by
  obtain ⟨l1, l2⟩ := asEach_len (env := X.env) (mTs_nostar hm)
  refine ((pg_tup S.calm h l1 l2).or (pg_unl S.calm h l1 l2)).mono fun v σ H Q ⟨m, e, hs, d, e', hs', r1, r2, r3, r4, r5⟩ => ?_
  simp only [evT] at r4
  split at r4
  · rename_i ds eg
    have hlen := evTs_len ts xs hm r4
    obtain ⟨a, vs, rfl, ea, er⟩ := r2.getS r3 eg
    have fin : tGs X.K is (evTs C ts) vs σ H Q := ⟨m, e, hs, ds, e', hs', r1, r2, er, r4, r5⟩
    have hl : vs.length = xs.length := by rw [er.length]; exact hlen
    rcases ea with ea | ea
    · exact .inr ⟨a, vs, rfl, .of ea, hl, fin⟩
    · exact .inl ⟨a, vs, rfl, .of ea, hl, fin⟩
  · cases r4

/-! ### zip -/
theorem src_zipL {K : PySem.W.Frag} {m : Mp} {H : Hp} {a b : Addr} {vs ws : List V} {ds es : List D} (h : Fz m H a (.lst vs)) (r : Reps K m H vs ds) (h' : Fz m H b (.lst ws)) (r' : Reps K m H ws es) : SrcOk K m H (zipL ds es, []) (Itz K a b) where
  go := fun m' H' hs i g _ _ hi => by
    rw [zipL_len] at hi
    obtain ⟨v, e, _⟩ := r.get (List.getElem?_eq_getElem (show i < ds.length by omega))
    obtain ⟨w, e', _⟩ := r'.get (List.getElem?_eq_getElem (show i < es.length by omega))
    exact ⟨vs, ws, v, w, (h.monoW g).sqL, (h'.monoW g).sqL, e, e'⟩
  yld := fun m' H' hs i v H2 d g hr _ hd hy => by
    obtain ⟨T, x, y, rfl, hT, eH, hx, hy⟩ := hy
    obtain ⟨dx, dy, e1, e2, rfl⟩ := zipL_get _ _ _ _ hd
    obtain ⟨u, e, q⟩ := r.get e1
    obtain ⟨u', e', q'⟩ := r'.get e2
    have z1 := hx vs (h.monoW g).sqL
    have z2 := hy ws (h'.monoW g).sqL
    rw [e] at z1
    rw [e'] at z2
    cases z1
    cases z2
    exact pair_new hr hT eH (q.monoW g) (q'.monoW g)
  stop := fun m' H' hs i g _ _ hi => by
    rw [zipL_len] at hi
    exact ⟨vs, ws, (h.monoW g).sqL, (h'.monoW g).sqL, by rw [r.length, r'.length]; omega⟩
theorem src_zipT {K : PySem.W.Frag} {m : Mp} {H : Hp} {a b : Addr} {vs ws : List V} {ds es : List D} (h : Fz m H a (.tup vs)) (r : Reps K m H vs ds) (h' : Fz m H b (.tup ws)) (r' : Reps K m H ws es) : SrcOk K m H (zipL ds es, []) (RZ.ItzT K a b) where
  go := fun m' H' hs i g _ _ hi => by
    rw [zipL_len] at hi
    obtain ⟨v, e, _⟩ := r.get (List.getElem?_eq_getElem (show i < ds.length by omega))
    obtain ⟨w, e', _⟩ := r'.get (List.getElem?_eq_getElem (show i < es.length by omega))
    exact ⟨vs, ws, v, w, (h.monoW g).sqT, (h'.monoW g).sqT, e, e'⟩
  yld := fun m' H' hs i v H2 d g hr _ hd hy => by
    obtain ⟨T, x, y, rfl, hT, eH, hx, hy⟩ := hy
    obtain ⟨dx, dy, e1, e2, rfl⟩ := zipL_get _ _ _ _ hd
    obtain ⟨u, e, q⟩ := r.get e1
    obtain ⟨u', e', q'⟩ := r'.get e2
    have z1 := hx vs (h.monoW g).sqT
    have z2 := hy ws (h'.monoW g).sqT
    rw [e] at z1
    rw [e'] at z2
    cases z1
    cases z2
    exact pair_new hr hT eH (q.monoW g) (q'.monoW g)
  stop := fun m' H' hs i g _ _ hi => by
    rw [zipL_len] at hi
    exact ⟨vs, ws, (h.monoW g).sqT, (h'.monoW g).sqT, by rw [r.length, r'.length]; omega⟩
theorem pi_zp (S : Sta X k N Γ sc C) {a b : Ex} {y z : Expr} {elts : List Expr} {kk : Nat} {tpos p pos : Pos} (hg : glB sc "zip" = true) (hs : isStar y = false) (hs' : isStar z = false) (h : PE X y (tE X.K (evE C a))) (h' : PE X z (tE X.K (evE C b))) :
    PI X (.Tuple elts kk tpos) (.Call (.Name "zip" p) [y, z] [] pos) (tI X.K (evI C (.zip false a b))) := by
  have ha : PA X [y, z] (tCons (tE X.K (evE C a)) (tCons (tE X.K (evE C b)) tNil)) := pa_cons h (pa_cons h' pa_nil (star_cons hs')) (star_cons hs)
  refine (RZ.pi_zipA (gl_sta S hg) (S.blt _ (by decide +kernel)) ha (star_cons hs) (nostar_any fun q hq => by rw [List.mem_singleton.mp hq]; exact hs')).mono fun σ H R ⟨m, e, hs, src, hs', r1, r2, r3, r4⟩ => ?_
  simp only [evI] at r3
  split at r3
  · rename_i x h1 e1
    split at r3
    · rename_i x' h2 e2
      refine ⟨m, e, hs, x, h1, r1, r2, e1, fun m1 v1 H1 g1 q1 w1 => ⟨m1, e, h1, x', h2, r1.mono g1, q1, e2, fun m2 v2 H2 g2 q2 w2 => ?_⟩⟩
      split at r3
      · rename_i l l'
        cases r3
        have w1' := w1.mono g2
        cases w1' with
        | tup f r =>
          cases w2 with
          | tup f' r' => exact ⟨_, _, _, _, rfl, .inr ⟨f.sqT, f'.sqT, r4 m2 H2 _ (g1.trans g2) q2 (src_zipT f r f' r')⟩⟩
      · rename_i l l'
        cases r3
        have w1' := w1.mono g2
        cases w1' with
        | lst f r =>
          cases w2 with
          | lst f' r' => exact ⟨_, _, _, _, rfl, .inl ⟨f.sqL, f'.sqL, r4 m2 H2 _ (g1.trans g2) q2 (src_zipL f r f' r')⟩⟩
      · cases r3
    · cases r3
  · cases r3

/-! ### comprehensions -/
def tB' (K : PySem.W.Frag) (ev : Ev → Hs → Option (Bool × Hs)) : TT := fun σ H Q => ∃ m e hs b hs', RE K m H σ e ∧ RH K m H hs ∧ ev e hs = some (b, hs') ∧ ∀ m' H', Go m H m' H' → RH K m' H' hs' → Q b H'
theorem pts0 : PTs X [] (tB' X.K (evC C .nil)) := by
  refine ⟨fun pins s σ H Q I ⟨m, e, hs, b, hs', r1, r2, r3, r4⟩ => pts_nil.run pins s σ H Q I ?_⟩
  simp only [evC] at r3
  cases r3
  exact r4 m H (Go.refl m H) r2
theorem pts1 {a : Ex} {y : Expr} (h : PT X y (tT X.K (evE C a))) : PTs X [y] (tB' X.K (evC C (.cons false a .nil))) := by
  refine ⟨fun pins s σ H Q I ⟨m, e, hs, b, hs', r1, r2, r3, r4⟩ => (pts_one h).run pins s σ H Q I ?_⟩
  simp only [evC] at r3
  split at r3
  · rename_i c h1 e1
    cases r3
    exact ⟨m, e, hs, _, _, r1, r2, e1, r4⟩
  · cases r3
theorem upd_self' {H : Hp} {p : Addr} {u : HO} (h : H p = some u) : upd H p u = H := by
  funext b
  by_cases e : b = p
  · subst e
    rw [upd_same, h]
  · rw [upd_ne e]
/-- one turn of a comprehension, by values -/
noncomputable def turnC (C : Cal) (elt : Ex) (tg : Tg) (ifs : Exs) (own : List Nat) (e : Ev) : D → Hs → Option (Option D × Hs) := fun x h => match evT C tg x (wipeD e own) h with
  | some (e2, h2) => match evC C ifs e2 h2 with
    | some (true, h3) => match evE C elt e2 h3 with
      | some (d, h4) => some (some d, h4)
      | none => none
    | some (false, h3) => some (none, h3)
    | none => none
  | none => none
theorem evE_comp {elt : Ex} {tg : Tg} {it : Iter} {ifs : Exs} {own : List Nat} {e : Ev} {h h' : Hs} {d : D} (q : evE C (.comp elt tg it ifs own) e h = some (d, h')) :
    ∃ src h1 l, evI C it e h = some (src, h1) ∧ loopC src (turnC C elt tg ifs own e) src.1 h1 = some (l, h') ∧ src.1.length ≤ sizeLine ∧ d = .lst l := by
  rw [evE] at q
  split at q
  · rename_i src h1 e1
    split at q
    · rename_i l h2 e2
      obtain ⟨hz, ez⟩ := chk_some q
      cases ez
      exact ⟨src, h1, l, e1, e2, hz, rfl⟩
    · cases q
  · cases q
theorem lc_read {elt : Ex} {tg : Tg} {it : Iter} {ifs : Exs} {own : List Nat} {is : List Nat} (hown : ∀ i ∈ is, i ∈ own) {K : PySem.W.Frag} (σ : L2.St) (H : Hp) (Q : VK) (h : tEF K (evE C (.comp elt tg it ifs own)) σ H Q) :
    tLc (tI K (evI C it)) (tG K is (evT C tg)) (tB' K (evC C ifs)) (tE K (evE C elt)) own σ H Q := by
  obtain ⟨m, e, hs, d, hs', r1, r2, r3, r4⟩ := h
  obtain ⟨src, h1, l, ei, el, hz, rfl⟩ := evE_comp r3
  refine ⟨m, e, hs, src, h1, r1, r2, ei, fun m1 H1 J g1 q1 so => ?_⟩
  intro p hp
  have hpx : p ∉ m1.x := fun z => q1.new hp (.inr z)
  refine ⟨fun i meas Hi => ∃ (mi : Mp) (hi : Hs) (acc : List V) (ds l' : List D), Go m1 H1 ⟨mi.r, m1.x⟩ (del Hi p) ∧ mi.x = p :: m1.x ∧ RH K mi Hi hi ∧ Hi p = some (.lst acc) ∧ Reps K ⟨mi.r, m1.x⟩ (del Hi p) acc ds ∧ i ≤ src.1.length ∧ meas = src.1.length - i ∧
    loopC src (turnC C elt tg ifs own e) (src.1.drop i) hi = some (l', hs') ∧ ds ++ l' = l ∧ acc.length ≤ i, ⟨src.1.length, m1.ex p, h1, [], [], l, ?_, rfl, q1.exS hp, upd_same, .nil, Nat.zero_le _, rfl, el, rfl, Nat.zero_le _⟩, ?_⟩
  · show Go m1 H1 ⟨m1.r, m1.x⟩ _
    rw [del_upd, del_new hp]
    exact Go.refl m1 H1
  · rintro i meas Hi ⟨mi, hi, acc, ds, l', gi, hx, rh, hacc, rac, hil, rfl, hl, hd, hlen⟩
    have gw : Gw m1 H1 mi Hi := Gw.undel hp hx gi
    cases hdr : src.1.drop i with
    | nil =>
      rw [hdr] at hl
      simp only [loopC] at hl
      obtain ⟨ok, ez⟩ := chk_some hl
      cases ez
      have e1 : i = src.1.length := by
        have := List.drop_eq_nil_iff.mp hdr
        omega
      refine .inl ⟨so.stop mi Hi _ i gw rh ok e1, ?_⟩
      rw [List.append_nil] at hd
      subst hd
      have := r4 ⟨mi.r, m1.x⟩ acc p (del Hi p) (g1.trans gi) (rh.delM hx hpx) del_same rac
      rwa [upd_del, upd_self' hacc] at this
    | cons x rest =>
      rw [hdr] at hl
      simp only [loopC] at hl
      split at hl
      rotate_left
      · cases hl
      rename_i u0 hok
      obtain ⟨ok, _⟩ := chk_some hok
      split at hl
      rotate_left
      · cases hl
      rename_i o h' et
      split at hl
      rotate_left
      · cases hl
      rename_i l2 h2 el2
      cases hl
      have hlt : i < src.1.length := by
        apply Nat.lt_of_not_le
        intro hh
        rw [List.drop_eq_nil_of_le hh] at hdr
        cases hdr
      have hxi : src.1[i]? = some x := by
        have := List.getElem?_drop (xs := src.1) (i := i) (j := 0)
        rw [hdr] at this
        simpa using this.symm
      have hrest : src.1.drop (i + 1) = rest := by
        rw [← List.tail_drop, hdr]
        rfl
      refine .inr ⟨so.go mi Hi hi i gw rh ok hlt, _, fun H' hh => hh, fun v Hy hy => ?_⟩
      obtain ⟨sm, rv⟩ := so.yld mi Hi hi i v Hy x gw rh ok hxi hy
      unfold turnC at et
      split at et
      rotate_left
      · cases et
      rename_i e2 h2' e2e
      refine ⟨mi, wipeD e own, hi, x, e2, h2', ((r1.mono g1).monoW gw).wipe own |>.mono (Go.same sm), rh.same sm, rv, e2e, fun m2 σ2 H2 g2 re2 rh2 off => ⟨?_, ?_⟩⟩
      · rw [wipe_off (off.sub hown), wipe_off (off_wipe σ own)]
      · have G2 : Go mi Hi m2 H2 := (Go.same sm).trans g2
        split at et
        · rename_i h3 e3
          split at et
          rotate_left
          · cases et
          rename_i dv h4 e4
          cases et
          refine ⟨m2, e2, h2', true, h3, re2, rh2, e3, fun m3 H3 g3 rh3 => iteT ⟨m3, e2, h3, dv, _, re2.mono g3, rh3, e4, fun m4 v4 H4 g4 rh4 w4 => ?_⟩⟩
          have G4 : Go mi Hi m4 H4 := (G2.trans g3).trans g4
          have hx4 : m4.x = p :: m1.x := G4.mx.trans hx
          have hp4 : H4 p = some (.lst acc) := G4.mkeep p (by rw [hx]; exact List.mem_cons_self) _ hacc
          have gd := Go.delM hx G4
          refine ⟨acc, hp4, by omega, src.1.length - (i + 1), by omega, m4, _, acc ++ [v4], ds ++ [dv], l2, ?_, hx4, rh4.exW (by rw [hx4]; exact List.mem_cons_self), upd_same, ?_, by omega, rfl, by rw [hrest]; exact el2, ?_, ?_⟩
          · rw [del_upd]
            exact gi.trans gd
          · rw [del_upd]
            exact (rac.mono gd).app (.cons (w4.monoW (Gw.delM hx4)) .nil)
          · rw [← hd]
            simp
          · rw [List.length_append]
            show acc.length + 1 ≤ i + 1
            omega
        · rename_i h3 e3
          cases et
          refine ⟨m2, e2, h2', false, _, re2, rh2, e3, fun m3 H3 g3 rh3 => iteF ?_⟩
          have G3 : Go mi Hi m3 H3 := G2.trans g3
          have hx3 : m3.x = p :: m1.x := G3.mx.trans hx
          have hp3 : H3 p = some (.lst acc) := G3.mkeep p (by rw [hx]; exact List.mem_cons_self) _ hacc
          have gd := Go.delM hx G3
          refine ⟨src.1.length - (i + 1), by omega, m3, _, acc, ds, l2, gi.trans gd, hx3, rh3, hp3, rac.mono gd, by omega, rfl, by rw [hrest]; exact el2, ?_, by omega⟩
          rw [← hd]
          simp
        · cases et
end
end Z

set_option Elab.async false
set_option linter.all false
set_option maxRecDepth 100000
set_option maxHeartbeats 4000000
/-! Z12: dict comprehensions; every expression -/
namespace Z
open PySem PySem.Spec PyProof.Rows L2
section
variable {X : Cx} {k : Nat} {N : List Str} {Γ : Nat → Option Str} {sc : Scope} {C : Cal}
noncomputable def turnD (C : Cal) (ke ve : Ex) (tg : Tg) (ifs : Exs) (own : List Nat) (e : Ev) : D → Hs → Option (Option D × Hs) := fun x h => match evT C tg x (wipeD e own) h with
  | some (e2, h2) => match evC C ifs e2 h2 with
    | some (true, h3) => match evE C ke e2 h3 with
      | some (k, h4) => match keyOf k with
        | some _ => match evE C ve e2 h4 with
          | some (v, h5) => some (some (.tup [k, v]), h5)
          | none => none
        | none => none
      | none => none
    | some (false, h3) => some (none, h3)
    | none => none
  | none => none
theorem evE_dcomp {ke ve : Ex} {tg : Tg} {it : Iter} {ifs : Exs} {own : List Nat} {e : Ev} {h h' : Hs} {d : D} (q : evE C (.dcomp ke ve tg it ifs own) e h = some (d, h')) :
    ∃ src h1 l, evI C it e h = some (src, h1) ∧ loopC src (turnD C ke ve tg ifs own e) src.1 h1 = some (l, h') ∧ src.1.length ≤ sizeLine ∧ d = .dk (mergeD [] (l.filterMap pairK)) := by
  rw [evE] at q
  split at q
  · rename_i src h1 e1
    split at q
    · rename_i l h2 e2
      obtain ⟨hz, ez⟩ := chk_some q
      cases ez
      exact ⟨src, h1, l, e1, e2, hz, rfl⟩
    · cases q
  · cases q
theorem dc_read {ke ve : Ex} {tg : Tg} {it : Iter} {ifs : Exs} {own : List Nat} {is : List Nat} (hown : ∀ i ∈ is, i ∈ own) {K : PySem.W.Frag} (σ : L2.St) (H : Hp) (Q : VK) (h : tEF K (evE C (.dcomp ke ve tg it ifs own)) σ H Q) :
    tDc (tI K (evI C it)) (tG K is (evT C tg)) (tB' K (evC C ifs)) (tE K (evE C ke)) (tE K (evE C ve)) own σ H Q := by
  obtain ⟨m, e, hs, d, hs', r1, r2, r3, r4⟩ := h
  obtain ⟨src, h1, l, ei, el, hz, rfl⟩ := evE_dcomp r3
  refine ⟨m, e, hs, src, h1, r1, r2, ei, fun m1 H1 J g1 q1 so => ?_⟩
  intro p hp
  have hpx : p ∉ m1.x := fun z => q1.new hp (.inr z)
  refine ⟨fun i meas Hi => ∃ (mi : Mp) (hi : Hs) (acc : List (Key × V)) (ds : List (Key × D)) (l' : List D), Go m1 H1 ⟨mi.r, m1.x⟩ (del Hi p) ∧ mi.x = p :: m1.x ∧ RH K mi Hi hi ∧ Hi p = some (.dK acc) ∧ acc.map (·.1) = ds.map (·.1) ∧ Reps K ⟨mi.r, m1.x⟩ (del Hi p) (acc.map (·.2)) (ds.map (·.2)) ∧ i ≤ src.1.length ∧ meas = src.1.length - i ∧
    loopC src (turnD C ke ve tg ifs own e) (src.1.drop i) hi = some (l', hs') ∧ mergeD ds (l'.filterMap pairK) = mergeD [] (l.filterMap pairK) ∧ acc.length ≤ i, ⟨src.1.length, m1.ex p, h1, [], [], l, ?_, rfl, q1.exS hp, upd_same, rfl, .nil, Nat.zero_le _, rfl, el, rfl, Nat.zero_le _⟩, ?_⟩
  · show Go m1 H1 ⟨m1.r, m1.x⟩ _
    rw [del_upd, del_new hp]
    exact Go.refl m1 H1
  · rintro i meas Hi ⟨mi, hi, acc, ds, l', gi, hx, rh, hacc, kac, rac, hil, rfl, hl, hd, hlen⟩
    have gw : Gw m1 H1 mi Hi := Gw.undel hp hx gi
    cases hdr : src.1.drop i with
    | nil =>
      rw [hdr] at hl
      simp only [loopC] at hl
      obtain ⟨ok, ez⟩ := chk_some hl
      cases ez
      have e1 : i = src.1.length := by
        have := List.drop_eq_nil_iff.mp hdr
        omega
      refine .inl ⟨so.stop mi Hi _ i gw rh ok e1, ?_⟩
      simp only [List.filterMap_nil] at hd
      have hd' : ds = mergeD [] (l.filterMap pairK) := hd
      rw [← hd'] at r4
      have := r4 ⟨mi.r, m1.x⟩ acc p (del Hi p) (g1.trans gi) (rh.delM hx hpx) del_same kac rac
      rwa [upd_del, upd_self' hacc] at this
    | cons x rest =>
      rw [hdr] at hl
      simp only [loopC] at hl
      split at hl
      rotate_left
      · cases hl
      rename_i u0 hok
      obtain ⟨ok, _⟩ := chk_some hok
      split at hl
      rotate_left
      · cases hl
      rename_i o h' et
      split at hl
      rotate_left
      · cases hl
      rename_i l2 h2 el2
      cases hl
      have hlt : i < src.1.length := by
        apply Nat.lt_of_not_le
        intro hh
        rw [List.drop_eq_nil_of_le hh] at hdr
        cases hdr
      have hxi : src.1[i]? = some x := by
        have := List.getElem?_drop (xs := src.1) (i := i) (j := 0)
        rw [hdr] at this
        simpa using this.symm
      have hrest : src.1.drop (i + 1) = rest := by
        rw [← List.tail_drop, hdr]
        rfl
      refine .inr ⟨so.go mi Hi hi i gw rh ok hlt, _, fun H' hh => hh, fun v Hy hy => ?_⟩
      obtain ⟨sm, rv⟩ := so.yld mi Hi hi i v Hy x gw rh ok hxi hy
      unfold turnD at et
      split at et
      rotate_left
      · cases et
      rename_i e2 h2' e2e
      refine ⟨mi, wipeD e own, hi, x, e2, h2', ((r1.mono g1).monoW gw).wipe own |>.mono (Go.same sm), rh.same sm, rv, e2e, fun m2 σ2 H2 g2 re2 rh2 off => ⟨?_, ?_⟩⟩
      · rw [wipe_off (off.sub hown), wipe_off (off_wipe σ own)]
      · have G2 : Go mi Hi m2 H2 := (Go.same sm).trans g2
        split at et
        · rename_i h3 e3
          split at et
          rotate_left
          · cases et
          rename_i dk h4 e4
          split at et
          rotate_left
          · cases et
          rename_i ky ek
          split at et
          rotate_left
          · cases et
          rename_i dv h5 e5
          cases et
          refine ⟨m2, e2, h2', true, h3, re2, rh2, e3, fun m3 H3 g3 rh3 => iteT ⟨m3, e2, h3, dk, h4, re2.mono g3, rh3, e4, fun m4 v4 H4 g4 rh4 w4 => ⟨m4, e2, h4, dv, _, re2.mono (g3.trans g4), rh4, e5, fun m5 v5 H5 g5 rh5 w5 => ?_⟩⟩⟩
          have G4 : Go mi Hi m5 H5 := ((G2.trans g3).trans g4).trans g5
          have hx4 : m5.x = p :: m1.x := G4.mx.trans hx
          have hp4 : H5 p = some (.dK acc) := G4.mkeep p (by rw [hx]; exact List.mem_cons_self) _ hacc
          have gd := Go.delM hx G4
          obtain ⟨p1, p2⟩ := put_rep (k := ky) kac (rac.mono gd) (w5.monoW (Gw.delM hx4))
          have hlp := length_putK acc ky v5
          refine ⟨acc, ky, kV_rep w4 ek, hp4, by omega, src.1.length - (i + 1), by omega, m5, _, putK acc ky v5, put ds ky dv, l2, ?_, hx4, rh5.exW (by rw [hx4]; exact List.mem_cons_self), upd_same, p1, ?_, by omega, rfl, by rw [hrest]; exact el2, ?_, by omega⟩
          · rw [del_upd]
            exact gi.trans gd
          · rw [del_upd]
            exact p2
          · rw [← hd]
            simp only [Option.toList, List.cons_append, List.nil_append]
            have : pairK (.tup [dk, dv]) = some (ky, dv) := by simp [pairK, ek]
            rw [List.filterMap_cons_some this]
            rfl
        · rename_i h3 e3
          cases et
          refine ⟨m2, e2, h2', false, _, re2, rh2, e3, fun m3 H3 g3 rh3 => iteF ?_⟩
          have G3 : Go mi Hi m3 H3 := G2.trans g3
          have hx3 : m3.x = p :: m1.x := G3.mx.trans hx
          have hp3 : H3 p = some (.dK acc) := G3.mkeep p (by rw [hx]; exact List.mem_cons_self) _ hacc
          have gd := Go.delM hx G3
          refine ⟨src.1.length - (i + 1), by omega, m3, _, acc, ds, l2, gi.trans gd, hx3, rh3, hp3, kac, rac.mono gd, by omega, rfl, by rw [hrest]; exact el2, ?_, by omega⟩
          rw [← hd]
          simp
        · cases et

theorem ownM {N : List Str} {own : List Nat} : (own.map fun i => (N.getD i (Str.ofString ""), i)).map (·.2) = own := by
  rw [List.map_map]
  exact List.map_id _
abbrev SF (X : Cx) (C : Cal) (x : Expr) (a : Ex) : Prop := SE X x (evE C a) ∧ (isFr a = true → PE X x (tEF X.K (evE C a)))
theorem SF.of {x : Expr} {a : Ex} (h : SE X x (evE C a)) (hf : isFr a = false) : SF X C x a := ⟨h, fun z => by rw [hf] at z; cases z⟩
theorem SF.fr {x : Expr} {a : Ex} (h : PE X x (tEF X.K (evE C a))) (hob : ∀ e hs d hs', evE C a e hs = some (d, hs') → isOb d) : SF X C x a :=
  ⟨⟨h.ofF hob, ⟨fun pins s σ H Q I ⟨m, e, hs, b, hs', _, _, r3, _⟩ => (hob _ _ _ _ r3).elim⟩⟩, fun _ => h⟩
theorem ob_comp {elt : Ex} {tg : Tg} {it : Iter} {ifs : Exs} {own : List Nat} : ∀ e hs d hs', evE C (.comp elt tg it ifs own) e hs = some (d, hs') → isOb d := by
  intro e hs d hs' h
  obtain ⟨_, _, _, _, _, _, rfl⟩ := evE_comp h
  trivial
theorem ob_dcomp {ke ve : Ex} {tg : Tg} {it : Iter} {ifs : Exs} {own : List Nat} : ∀ e hs d hs', evE C (.dcomp ke ve tg it ifs own) e hs = some (d, hs') → isOb d := by
  intro e hs d hs' h
  obtain ⟨_, _, _, _, _, _, rfl⟩ := evE_dcomp h
  trivial
theorem ob_dct {es : Exs} : ∀ e hs d hs', evE C (.dct es) e hs = some (d, hs') → isOb d := by
  intro e hs d hs' h
  simp only [evE] at h
  split at h
  · split at h
    · obtain ⟨_, ez⟩ := chk_some h
      cases ez
      trivial
    · cases h
  · cases h
theorem ob_bi {f : Bi} (hf : f = .list ∨ f = .sorted ∨ f = .dictc ∨ f = .vals ∨ f = .lrng) {es : Exs} : ∀ e hs d hs', evE C (.bi f es) e hs = some (d, hs') → isOb d := by
  intro e hs d hs' h
  simp only [evE] at h
  split at h
  · rename_i ds h1 e1
    obtain ⟨d', ed, ez⟩ := Option.map_eq_some_iff.mp h
    cases ez
    rcases hf with rfl | rfl | rfl | rfl | rfl
    · simp only [biD, listD] at ed
      obtain ⟨_, _, rfl⟩ := Option.map_eq_some_iff.mp ed
      trivial
    · simp only [biD, sortedD] at ed
      split at ed
      · split at ed
        · obtain ⟨_, rfl⟩ := chk_some ed
          trivial
        · cases ed
      · cases ed
    · simp only [biD, dictD] at ed
      obtain ⟨_, _, rfl⟩ := Option.map_eq_some_iff.mp ed
      trivial
    · simp only [biD, valsD] at ed
      obtain ⟨_, _, rfl⟩ := Option.map_eq_some_iff.mp ed
      trivial
    · simp only [biD] at ed
      unfold lrngD at ed
      split at ed
      · obtain ⟨_, rfl⟩ := chk_some ed
        trivial
      · obtain ⟨_, rfl⟩ := chk_some ed
        trivial
      · cases ed
  · cases h
theorem SF.both {x : Expr} {a : Ex} (h : ∀ F, EndF X F → PE X x (tEG X.K F (evE C a))) (he : ∀ whole, isTrue x X.env whole = (do let v ← whole; standAt x.pos; holding [v] (truthy v))) : SF X C x a := by
  have p : PE X x (tE X.K (evE C a)) := h (KN X.K) endN
  have q : PE X x (tEF X.K (evE C a)) := h (KF X.K) endF
  exact ⟨⟨p, PT.ofE p he⟩, fun _ => q⟩
theorem s_slcLo (S : Sta X k N Γ sc C) {o a : Ex} {x y : Expr} {p2 pos : Pos} (ho : PE X x (tE X.K (evE C o))) (ha : PE X y (tE X.K (evE C a))) : SF X C (.Subscript x (.Slice (some y) none none p2) pos) (.slc .lo o (.cons false a .nil)) :=
  .both (fun F hF => s_slcLoG S hF ho ha) fun _ => rfl
theorem s_slcHi (S : Sta X k N Γ sc C) {o a : Ex} {x y : Expr} {p2 pos : Pos} (ho : PE X x (tE X.K (evE C o))) (ha : PE X y (tE X.K (evE C a))) : SF X C (.Subscript x (.Slice none (some y) none p2) pos) (.slc .hi o (.cons false a .nil)) :=
  .both (fun F hF => s_slcHiG S hF ho ha) fun _ => rfl
theorem s_slcLoHi (S : Sta X k N Γ sc C) {o a b : Ex} {x y z : Expr} {p2 pos : Pos} (ho : PE X x (tE X.K (evE C o))) (ha : PE X y (tE X.K (evE C a))) (hb : PE X z (tE X.K (evE C b))) :
    SF X C (.Subscript x (.Slice (some y) (some z) none p2) pos) (.slc .lohi o (.cons false a (.cons false b .nil))) :=
  .both (fun F hF => s_slcLoHiG S hF ho ha hb) fun _ => rfl
theorem s_slcRev (S : Sta X k N Γ sc C) {o : Ex} {x : Expr} {c : Nat} {p1 p2 p3 pos : Pos} (ho : PE X x (tE X.K (evE C o))) :
    SF X C (.Subscript x (.Slice none none (some (.UnaryOp .USub (.Constant (.int 1) c p1) p2)) p3) pos) (.slc .rev o .nil) :=
  .both (fun F hF => s_slcRevG S hF ho) fun _ => rfl
theorem s_biS (S : Sta X k N Γ sc C) {f : Bi} (hf : isIsa f = false) {es : Exs} {y : Expr} {ys : List Expr} {p pos : Pos} (h2 : glB sc (biN f) = true) (h4 : ∀ e ∈ y :: ys, isStar e = false) (ha : PA X (y :: ys) (tA X.K (evA C es))) :
    SF X C (.Call (.Name (biN f) p) (y :: ys) [] pos) (.bi f es) :=
  .both (fun F hF => s_biG S hf h2 h4 ha F hF) fun _ => rfl
/-- a comprehension, its parts sound in every block -/
theorem s_comp (S : Sta X k N Γ sc C) {elt : Ex} {tg : Tg} {it : Iter} {ifs : Exs} {own : List Nat} {elt' tg' it' : Expr} {ifs' : List Expr} {sc' : Scope} {pos : Pos} (h0 : ∀ i ∈ tgN tg, i ∈ own) (h1 : blkC N sc sc' (own.map fun i => (N.getD i (Str.ofString ""), i)) = true)
    (hi : PI X tg' it' (tI X.K (evI C it))) (hfs : ∀ x, foldedSetIterable it' X.env x = pure x)
    (hg : ∀ (s : Shared) (H : Hp) (Cc : Addr) (cl : List (Str × Addr)) (fp : List Addr), PG (X.blk s H sc' (compEnvC sc' cl Cc X.env) fp) tg' (tG X.K (tgN tg) (evT C tg)))
    (ht : ∀ (s : Shared) (H : Hp) (Cc : Addr) (cl : List (Str × Addr)) (fp : List Addr), PTs (X.blk s H sc' (compEnvC sc' cl Cc X.env) fp) ifs' (tB' X.K (evC C ifs)))
    (he : ∀ (s : Shared) (H : Hp) (Cc : Addr) (cl : List (Str × Addr)) (fp : List Addr), PE (X.blk s H sc' (compEnvC sc' cl Cc X.env) fp) elt' (tE X.K (evE C elt))) :
    SF X C (.ListComp elt' [⟨tg', it', ifs', 0⟩] sc' pos) (.comp elt tg it ifs own) := by
  have ok : BlkOk X.N X.env.scope sc' (own.map fun i => (N.getD i (Str.ofString ""), i)) := by
    rw [S.n, S.s]
    exact blkOk_by h1
  have p := pe_lc (pos := pos) S.calm (by rw [S.n]; exact S.nd) hi ok hg ht he hfs
  rw [ownM] at p
  exact .fr (p.mono fun σ H Q q => lc_read h0 σ H Q q) ob_comp
theorem s_dcomp (S : Sta X k N Γ sc C) {ke ve : Ex} {tg : Tg} {it : Iter} {ifs : Exs} {own : List Nat} {ke' ve' tg' it' : Expr} {ifs' : List Expr} {sc' : Scope} {pos : Pos} (h0 : ∀ i ∈ tgN tg, i ∈ own) (h1 : blkC N sc sc' (own.map fun i => (N.getD i (Str.ofString ""), i)) = true)
    (hi : PI X tg' it' (tI X.K (evI C it))) (hfs : ∀ x, foldedSetIterable it' X.env x = pure x)
    (hg : ∀ (s : Shared) (H : Hp) (Cc : Addr) (cl : List (Str × Addr)) (fp : List Addr), PG (X.blk s H sc' (compEnvC sc' cl Cc X.env) fp) tg' (tG X.K (tgN tg) (evT C tg)))
    (ht : ∀ (s : Shared) (H : Hp) (Cc : Addr) (cl : List (Str × Addr)) (fp : List Addr), PTs (X.blk s H sc' (compEnvC sc' cl Cc X.env) fp) ifs' (tB' X.K (evC C ifs)))
    (hk : ∀ (s : Shared) (H : Hp) (Cc : Addr) (cl : List (Str × Addr)) (fp : List Addr), PE (X.blk s H sc' (compEnvC sc' cl Cc X.env) fp) ke' (tE X.K (evE C ke)))
    (he : ∀ (s : Shared) (H : Hp) (Cc : Addr) (cl : List (Str × Addr)) (fp : List Addr), PE (X.blk s H sc' (compEnvC sc' cl Cc X.env) fp) ve' (tE X.K (evE C ve))) :
    SF X C (.DictComp ke' ve' [⟨tg', it', ifs', 0⟩] sc' pos) (.dcomp ke ve tg it ifs own) := by
  have ok : BlkOk X.N X.env.scope sc' (own.map fun i => (N.getD i (Str.ofString ""), i)) := by
    rw [S.n, S.s]
    exact blkOk_by h1
  have p := pe_dc (pos := pos) S.calm (by rw [S.n]; exact S.nd) hi ok hg ht hk he hfs
  rw [ownM] at p
  exact .fr (p.mono fun σ H Q q => dc_read h0 σ H Q q) ob_dcomp
theorem mI_fold {N : List Str} {Γ : Nat → Option Str} {sc : Scope} {it : Iter} {e tg : Expr} (h : mI N Γ sc it e tg = true) (x : Value) : foldedSetIterable e X.env x = pure x := by
  cases e <;> first
    | rfl
    | skip
  unfold mI at h
  split at h <;> first
    | contradiction
    | skip
  all_goals simp at h
end
end Z

set_option Elab.async false
set_option linter.all false
set_option maxRecDepth 100000
set_option maxHeartbeats 8000000
/-! Z13: every expression that is matched is sound -/
namespace Z
open PySem PySem.Spec PyProof.Rows L2
section
variable {k : Nat} {N : List Str} {Γ : Nat → Option Str} {C : Cal}
mutual
theorem sE : ∀ (a : Ex) {X : Cx} {sc : Scope} {x : Expr}, Sta X k N Γ sc C → mE N Γ sc a x = true → SF X C x a
  | .nm i, X, sc, x, S, h => by
    have h0 := h
    unfold mE at h
    split at h
    all_goals (try contradiction)
    rename_i heq
    cases heq
    exact .of (s_nm S h0) rfl
  | .lnon, X, sc, x, S, h => by
    unfold mE at h
    split at h
    all_goals (try contradiction)
    exact .of s_lnon rfl
  | .lbl b, X, sc, x, S, h => by
    unfold mE at h
    split at h
    all_goals (try contradiction)
    rename_i heq
    cases heq
    simp only [decide_eq_true_eq] at h
    subst h
    exact .of s_lbl rfl
  | .lint i, X, sc, x, S, h => by
    unfold mE at h
    split at h
    all_goals (try contradiction)
    rename_i heq
    cases heq
    simp only [decide_eq_true_eq] at h
    subst h
    exact .of s_lint rfl
  | .lstr i, X, sc, x, S, h => by
    unfold mE at h
    split at h
    all_goals (try contradiction)
    rename_i heq
    cases heq
    simp only [decide_eq_true_eq] at h
    subst h
    exact .of s_lstr rfl
  | .tup es, X, sc, x, S, h => by
    unfold mE at h
    split at h
    all_goals (try contradiction)
    rename_i heq
    cases heq
    exact .of (s_tup (sA es S h)) rfl
  | .lst es, X, sc, x, S, h => by
    unfold mE at h
    split at h
    all_goals (try contradiction)
    rename_i heq
    cases heq
    exact .fr (s_lstF (sA es S h)) ob_lst
  | .bin op a b, X, sc, x, S, h => by
    unfold mE at h
    split at h
    all_goals (try contradiction)
    rename_i heq
    cases heq
    simp only [Bool.and_eq_true, decide_eq_true_eq] at h
    obtain ⟨⟨rfl, h1⟩, h2⟩ := h
    exact ⟨s_binN S (sE a S h1).1.1 (sE b S h2).1.1, fun _ => s_binF S (sE a S h1).1.1 (sE b S h2).1.1⟩
  | .neg a, X, sc, x, S, h => by
    unfold mE at h
    split at h
    all_goals (try contradiction)
    rename_i heq
    cases heq
    exact .of (s_neg (sE a S h).1.1) rfl
  | .nt a, X, sc, x, S, h => by
    unfold mE at h
    split at h
    all_goals (try contradiction)
    rename_i heq
    cases heq
    exact .of (s_nt (sE a S h).1) rfl
  | .bool isAnd a es, X, sc, x, S, h => by
    unfold mE at h
    split at h
    all_goals (try contradiction)
    · rename_i heq
      cases heq
      simp only [Bool.and_eq_true] at h
      exact .of (s_bool (isAnd := true) (sE a S h.1).1 (sB es S h.2)) rfl
    · rename_i heq
      cases heq
      simp only [Bool.and_eq_true] at h
      exact .of (s_bool (isAnd := false) (sE a S h.1).1 (sB es S h.2)) rfl
  | .cmp op a b, X, sc, x, S, h => by
    unfold mE at h
    split at h
    all_goals (try contradiction)
    rename_i heq
    cases heq
    simp only [Bool.and_eq_true, decide_eq_true_eq, Bool.not_eq_true'] at h
    obtain ⟨⟨⟨rfl, h1⟩, h2⟩, h3⟩ := h
    exact .of (s_cmp S (sE a S h1).1.1 (sE b S h2).1.1 h3) rfl
  | .cmp2 op op' a b c, X, sc, x, S, h => by
    unfold mE at h
    split at h
    all_goals (try contradiction)
    rename_i heq
    cases heq
    simp only [Bool.and_eq_true, decide_eq_true_eq, Bool.not_eq_true'] at h
    obtain ⟨⟨⟨⟨⟨rfl, rfl⟩, h1⟩, h2⟩, h3⟩, h4⟩ := h
    exact .of (s_cmp2 S (sE a S h1).1.1 (sE b S h2).1.1 (sE c S h3).1.1 h4) rfl
  | .ife c a b, X, sc, x, S, h => by
    unfold mE at h
    split at h
    all_goals (try contradiction)
    rename_i heq
    cases heq
    simp only [Bool.and_eq_true] at h
    exact .of (s_ife (sE c S h.1.1).1 (sE a S h.1.2).1 (sE b S h.2).1) rfl
  | .call f es, X, sc, x, S, h => by
    unfold mE at h
    split at h
    all_goals (try contradiction)
    rename_i heq
    cases heq
    simp only [Bool.and_eq_true, decide_eq_true_eq] at h
    obtain ⟨⟨⟨h1, h2⟩, h3⟩, h4⟩ := h
    exact .of (s_call S h1 h2 h3 (mP_nostar h4) (sP es S h4)) rfl
  | .bi f es, X, sc, x, S, h => by
    unfold mE at h
    split at h
    all_goals (try contradiction)
    · rename_i heq
      cases heq
      simp only [Bool.and_eq_true, decide_eq_true_eq, Bool.not_eq_true'] at h
      obtain ⟨⟨⟨⟨⟨⟨rfl, rfl⟩, h1⟩, h2⟩, h3⟩, h4⟩, h5⟩ := h
      exact .of (s_isa S h1 h2 h3 h4 (sE _ S h5).1.1) rfl
    · rename_i heq
      cases heq
      simp only [Bool.and_eq_true, decide_eq_true_eq] at h
      obtain ⟨⟨⟨⟨⟨rfl, rfl⟩, h1⟩, h2⟩, h3⟩, h4⟩ := h
      exact .fr (s_valsG S h1 h2 h3 (sE _ S h4).1.1 endF) (ob_bi (by simp))
    · rename_i heq
      cases heq
      simp only [Bool.and_eq_true, decide_eq_true_eq, Bool.not_eq_true'] at h
      obtain ⟨⟨⟨⟨⟨rfl, rfl⟩, h1⟩, h2⟩, h3⟩, h4⟩ := h
      exact .fr (s_lrng1G S h1 h2 h3 (sE _ S h4).1.1 endF) (ob_bi (by simp))
    · rename_i heq
      cases heq
      simp only [Bool.and_eq_true, decide_eq_true_eq, Bool.not_eq_true'] at h
      obtain ⟨⟨⟨⟨⟨⟨⟨rfl, rfl⟩, h1⟩, h2⟩, h3⟩, h3'⟩, h4⟩, h5⟩ := h
      exact .fr (s_lrng2G S h1 h2 h3 h3' (sE _ S h4).1.1 (sE _ S h5).1.1 endF) (ob_bi (by simp))
    · rename_i heq
      cases heq
      simp only [Bool.and_eq_true, decide_eq_true_eq, Bool.not_eq_true'] at h
      obtain ⟨⟨⟨h1, rfl⟩, h2⟩, h3⟩ := h
      exact s_biS S h1 h2 (mP_nostar h3) (sP es S h3)
  | .mth mt o es, X, sc, x, S, h => by
    unfold mE at h
    split at h
    all_goals (try contradiction)
    · rename_i heq
      cases heq
      simp only [Bool.and_eq_true, decide_eq_true_eq] at h
      obtain ⟨⟨⟨rfl, h1⟩, h2⟩, h3⟩ := h
      exact .of (s_mth0 S h1 h2 (sE o S h3).1.1) rfl
    · rename_i heq
      cases heq
      simp only [Bool.and_eq_true, decide_eq_true_eq, Bool.not_eq_true'] at h
      obtain ⟨⟨⟨⟨⟨⟨h0, rfl⟩, h1⟩, h2⟩, h3⟩, h4⟩, h5⟩ := h
      have hn : ∀ e ∈ [_], isStar e = false := fun e he => by
        rw [List.mem_singleton.mp he]
        exact h3
      exact .of (s_mth1 S h0 h1 h2 (by simp) hn (sE o S h4).1.1 (s_acons h3 (sE _ S h5).1.1 s_anil)) rfl
    · rename_i heq
      cases heq
      simp only [Bool.and_eq_true, decide_eq_true_eq, Bool.not_eq_true'] at h
      obtain ⟨⟨⟨⟨⟨⟨⟨rfl, h1⟩, h2⟩, h3⟩, h3'⟩, h4⟩, h5⟩, h6⟩ := h
      exact .of (s_get2 S h1 h2 (fun e he => by
        rcases List.mem_cons.mp he with rfl | he
        · exact h3
        · rw [List.mem_singleton.mp he]
          exact h3') (sE o S h4).1.1 (sE _ S h5).1.1 (sE _ S h6).1.1) rfl
  | .sub o i, X, sc, x, S, h => by
    unfold mE at h
    split at h
    all_goals (try contradiction)
    rename_i heq
    cases heq
    simp only [Bool.and_eq_true, Bool.not_eq_true'] at h
    exact .of (s_sub S h.1.1 (sE o S h.1.2).1.1 (sE i S h.2).1.1) rfl
  | .slc sk o es, X, sc, x, S, h => by
    unfold mE at h
    split at h
    all_goals (try contradiction)
    · rename_i heq
      cases heq
      simp only [Bool.and_eq_true] at h
      exact s_slcLo S (sE o S h.1).1.1 (sE _ S h.2).1.1
    · rename_i heq
      cases heq
      simp only [Bool.and_eq_true] at h
      exact s_slcHi S (sE o S h.1).1.1 (sE _ S h.2).1.1
    · rename_i heq
      cases heq
      simp only [Bool.and_eq_true] at h
      exact s_slcLoHi S (sE o S h.1.1).1.1 (sE _ S h.1.2).1.1 (sE _ S h.2).1.1
    · rename_i heq
      cases heq
      exact s_slcRev S (sE o S h).1.1
  | .comp elt tg it ifs own, X, sc, x, S, h => by
    unfold mE at h
    split at h
    all_goals (try contradiction)
    rename_i heq
    cases heq
    simp only [Bool.and_eq_true, List.all_eq_true, decide_eq_true_eq] at h
    obtain ⟨⟨⟨⟨⟨h0, h1⟩, h2⟩, h3⟩, h4⟩, h5⟩ := h
    exact s_comp S h0 h1 (sI it S h2) (mI_fold h2) (fun s H Cc cl fp => sT tg (S.blk _ s H Cc cl fp) (own_blk _ s H Cc cl fp) h3) (fun s H Cc cl fp => sC ifs (S.blk _ s H Cc cl fp) h4) fun s H Cc cl fp => (sE elt (S.blk _ s H Cc cl fp) h5).1.1
  | .dcomp ke ve tg it ifs own, X, sc, x, S, h => by
    unfold mE at h
    split at h
    all_goals (try contradiction)
    rename_i heq
    cases heq
    simp only [Bool.and_eq_true, List.all_eq_true, decide_eq_true_eq] at h
    obtain ⟨⟨⟨⟨⟨⟨h0, h1⟩, h2⟩, h3⟩, h4⟩, h5⟩, h6⟩ := h
    exact s_dcomp S h0 h1 (sI it S h2) (mI_fold h2) (fun s H Cc cl fp => sT tg (S.blk _ s H Cc cl fp) (own_blk _ s H Cc cl fp) h3) (fun s H Cc cl fp => sC ifs (S.blk _ s H Cc cl fp) h4) (fun s H Cc cl fp => (sE ke (S.blk _ s H Cc cl fp) h5).1.1) fun s H Cc cl fp => (sE ve (S.blk _ s H Cc cl fp) h6).1.1
  | .dct es, X, sc, x, S, h => by
    unfold mE at h
    split at h
    all_goals (try contradiction)
    · rename_i heq
      cases heq
      exact .fr s_dct0 ob_dct
    · rename_i heq
      cases heq
      simp only [Bool.and_eq_true, decide_eq_true_eq, Bool.not_eq_true'] at h
      obtain ⟨⟨⟨h1, h2⟩, h3⟩, h4⟩ := h
      obtain ⟨d1, d2, d3⟩ := sD es S h4
      exact .fr (s_dctG (F := KF X.K) rfl (d1 _) d2 d3 h2 (fun z => by rw [z] at h1; cases h1) h3) ob_dct
  | .dnewt, X, sc, x, S, h => by
    unfold mE at h
    split at h
    all_goals (try contradiction)
    refine .fr s_dnewt fun e hs d hs' h => ?_
    simp only [evE] at h
    cases h
    trivial
  | .al a, X, sc, x, S, h => by
    unfold mE at h
    simp only [Bool.and_eq_true] at h
    exact .of (s_al ((sE a S h.2).2 h.1)) rfl
theorem sA : ∀ (es : Exs) {X : Cx} {sc : Scope} {xs : List Expr}, Sta X k N Γ sc C → mA N Γ sc es xs = true → PA X xs (tA X.K (evA C es))
  | .nil, X, sc, xs, S, h => by
    unfold mA at h
    split at h
    all_goals (try contradiction)
    exact s_anil
  | .cons st a r, X, sc, xs, S, h => by
    unfold mA at h
    split at h
    all_goals (try contradiction)
    · rename_i heq
      cases heq
      simp only [Bool.and_eq_true] at h
      exact s_astar (sE a S h.1).1.1 (sA r S h.2)
    · rename_i heq
      cases heq
      simp only [Bool.and_eq_true, Bool.not_eq_true'] at h
      exact s_acons h.1.1 (sE a S h.1.2).1.1 (sA r S h.2)
theorem sP : ∀ (es : Exs) {X : Cx} {sc : Scope} {xs : List Expr}, Sta X k N Γ sc C → mP N Γ sc es xs = true → PA X xs (tA X.K (evA C es))
  | .nil, X, sc, xs, S, h => by
    unfold mP at h
    split at h
    all_goals (try contradiction)
    exact s_anil
  | .cons st a r, X, sc, xs, S, h => by
    unfold mP at h
    split at h
    all_goals (try contradiction)
    rename_i heq
    cases heq
    simp only [Bool.and_eq_true, Bool.not_eq_true'] at h
    exact s_acons h.1.1 (sE a S h.1.2).1.1 (sP r S h.2)
theorem sB : ∀ (es : Exs) {X : Cx} {sc : Scope} {x : Expr} {xs : List Expr} {pos : Pos} {isAnd : Bool}, Sta X k N Γ sc C → mB N Γ sc es (x :: xs) = true → SB X isAnd (x :: xs) pos (evB C isAnd es)
  | .nil, X, sc, x, xs, pos, isAnd, S, h => by
    unfold mB at h
    contradiction
  | .cons st a .nil, X, sc, x, xs, pos, isAnd, S, h => by
    unfold mB at h
    split at h
    all_goals (try contradiction)
    rotate_left
    · rename_i heq heq'
      cases heq
    rename_i heq heq'
    cases heq
    cases heq'
    exact s_B1 (sE a S h).1
  | .cons st a (.cons st' b r), X, sc, x, xs, pos, isAnd, S, h => by
    unfold mB at h
    split at h
    all_goals (try contradiction)
    · rename_i heq heq'
      cases heq
    rename_i heq heq'
    cases heq
    cases heq'
    simp only [Bool.and_eq_true] at h
    exact s_B2 (sE a S h.1).1 (sB (.cons st' b r) S h.2)
theorem sC : ∀ (es : Exs) {X : Cx} {sc : Scope} {xs : List Expr}, Sta X k N Γ sc C → mC N Γ sc es xs = true → PTs X xs (tB' X.K (evC C es))
  | .nil, X, sc, xs, S, h => by
    unfold mC at h
    split at h
    all_goals (try contradiction)
    exact pts0
  | .cons st a r, X, sc, xs, S, h => by
    unfold mC at h
    split at h
    all_goals (try contradiction)
    rename_i heq
    cases heq
    exact pts1 (sE a S h).1.2
theorem sT : ∀ (t : Tg) {X : Cx} {sc own : Scope} {x : Expr}, Sta X k N Γ sc C → Own X own → mT N Γ sc own t x = true → PG X x (tG X.K (tgN t) (evT C t))
  | .nm i, X, sc, own, x, S, O, h => by
    unfold mT at h
    split at h
    all_goals (try contradiction)
    rename_i heq
    cases heq
    simp only [Bool.and_eq_true, decide_eq_true_eq] at h
    exact t_nm S O h.1 h.2
  | .tup ts, X, sc, own, x, S, O, h => by
    unfold mT at h
    split at h
    all_goals (try contradiction)
    rename_i heq
    cases heq
    exact t_tup S h (sTs ts S O h)
  | .sub o i, X, sc, own, x, S, O, h => by
    unfold mT at h
    split at h
    all_goals (try contradiction)
    rename_i heq
    cases heq
    simp only [Bool.and_eq_true, Bool.not_eq_true'] at h
    exact t_sub S h.1.1 (sE o S h.1.2).1.1 (sE i S h.2).1.1
theorem sTs : ∀ (ts : Tgs) {X : Cx} {sc own : Scope} {xs : List Expr}, Sta X k N Γ sc C → Own X own → mTs N Γ sc own ts xs = true → PGs X xs (tGs X.K (tgNs ts) (evTs C ts))
  | .nil, X, sc, own, xs, S, O, h => by
    unfold mTs at h
    split at h
    all_goals (try contradiction)
    exact ts_nil
  | .cons t r, X, sc, own, xs, S, O, h => by
    unfold mTs at h
    split at h
    all_goals (try contradiction)
    rename_i heq
    cases heq
    simp only [Bool.and_eq_true, Bool.not_eq_true'] at h
    exact ts_cons h.1.1 (sT t S O h.1.2) (sTs r S O h.2)
theorem sI : ∀ (it : Iter) {X : Cx} {sc : Scope} {e tg : Expr}, Sta X k N Γ sc C → mI N Γ sc it e tg = true → PI X tg e (tI X.K (evI C it))
  | .seq a, X, sc, e, tg, S, h => by
    unfold mI at h
    simp only [Bool.and_eq_true] at h
    exact pi_seq S (sE a S h.1).1.1
  | .rng (.cons false a .nil), X, sc, e, tg, S, h => by
    unfold mI at h
    split at h
    all_goals (try contradiction)
    rotate_left
    · rename_i heq
      cases heq
    rename_i heq
    cases heq
    simp only [Bool.and_eq_true, decide_eq_true_eq, Bool.not_eq_true'] at h
    obtain ⟨⟨⟨rfl, h1⟩, h2⟩, h3⟩ := h
    exact pi_rng1 S h1 h2 (sE a S h3).1.1
  | .rng (.cons false a (.cons false b .nil)), X, sc, e, tg, S, h => by
    unfold mI at h
    split at h
    all_goals (try contradiction)
    · rename_i heq
      cases heq
    rename_i heq
    cases heq
    simp only [Bool.and_eq_true, decide_eq_true_eq, Bool.not_eq_true'] at h
    obtain ⟨⟨⟨⟨⟨rfl, h1⟩, h2⟩, h2'⟩, h3⟩, h4⟩ := h
    exact pi_rng2 S h1 h2 h2' (sE a S h3).1.1 (sE b S h4).1.1
  | .enum a, X, sc, e, tg, S, h => by
    unfold mI at h
    split at h
    all_goals (try contradiction)
    rename_i heq
    cases heq
    simp only [Bool.and_eq_true, decide_eq_true_eq, Bool.not_eq_true'] at h
    obtain ⟨⟨⟨⟨rfl, h1⟩, h2⟩, ht⟩, h3⟩ := h
    unfold isTup at ht
    split at ht
    · exact pi_en S h1 h2 (sE a S h3).1.1
    · cases ht
  | .zip st a b, X, sc, e, tg, S, h => by
    unfold mI at h
    split at h
    all_goals (try contradiction)
    rename_i heq
    cases heq
    simp only [Bool.and_eq_true, decide_eq_true_eq, Bool.not_eq_true'] at h
    obtain ⟨⟨⟨⟨⟨⟨rfl, h1⟩, h2⟩, h2'⟩, ht⟩, h3⟩, h4⟩ := h
    unfold isTup at ht
    split at ht
    · exact pi_zp S h1 h2 h2' (sE a S h3).1.1 (sE b S h4).1.1
    · cases ht
  | .items a, X, sc, e, tg, S, h => by
    unfold mI at h
    contradiction
  | .keys a, X, sc, e, tg, S, h => by
    unfold mI at h
    contradiction
  | .rng .nil, X, sc, e, tg, S, h => by
    unfold mI at h
    contradiction
  | .rng (.cons true a r), X, sc, e, tg, S, h => by
    unfold mI at h
    contradiction
  | .rng (.cons false a (.cons true b r)), X, sc, e, tg, S, h => by
    unfold mI at h
    contradiction
  | .rng (.cons false a (.cons false b (.cons s c r))), X, sc, e, tg, S, h => by
    unfold mI at h
    contradiction
theorem sD : ∀ (es : Exs) {X : Cx} {sc : Scope} {ks : List (Option Expr)} {vs : List Expr}, Sta X k N Γ sc C → mD N Γ sc es ks vs = true → (∀ pos, PPs X pos ks vs (trsOf X.K C es)) ∧ altOk es = true ∧ ks.all (·.isSome) = true
  | .nil, X, sc, ks, vs, S, h => by
    unfold mD at h
    split at h
    all_goals (try contradiction)
    exact ⟨fun pos => pps_nil, rfl, rfl⟩
  | .cons st a .nil, X, sc, ks, vs, S, h => by
    unfold mD at h
    split at h
    all_goals (try contradiction)
    rename_i heq
    cases heq
  | .cons st a (.cons st' b r), X, sc, ks, vs, S, h => by
    unfold mD at h
    split at h
    all_goals (try contradiction)
    rename_i heq
    cases heq
    simp only [Bool.and_eq_true] at h
    obtain ⟨d1, d2, d3⟩ := sD r S h.2
    exact ⟨fun pos => pps_cons (sE a S h.1.1).1.1 (sE b S h.1.2).1.1 (d1 pos), d2, by simpa using d3⟩
end
end
end Z

set_option Elab.async false
set_option linter.all false
set_option maxRecDepth 100000
set_option maxHeartbeats 4000000
/-! Z14: statements -/
namespace Z
open PySem PySem.Spec PyProof.Rows L2

def setsD (e : Ev) : List Nat → List D → Ev
  | i :: is, d :: ds => setsD (e.set i (some d)) is ds
  | _, _ => e
section
variable (C : Cal) (L : Nat)
mutual
noncomputable def evS : Sm → Ev → Hs → Option Fl
  | .asg tg a, e, h => match evE C a e h with
    | some (d, h1) => (evT C tg d e h1).map fun p => .nx p.1 p.2
    | none => none
  | .par is es, e, h => match evA C es e h with
    | some (ds, h1) => if ds.length = is.length then some (.nx (setsD e is ds) h1) else none
    | none => none
  | .expr a, e, h => (evE C a e h).map fun p => .nx e p.2
  | .ret a, e, h => (evE C a e h).map fun p => .rt p.1 p.2
  | .retN, _, h => some (.rt .non h)
  | .iff c a b, e, h => match evE C c e h with
    | some (.bl true, h1) => evSs a e h1
    | some (.bl false, h1) => evSs b e h1
    | _ => none
  | .whl c b, e, h => loopW (fun e h => match evE C c e h with
    | some (.bl b, h') => some (b, h')
    | _ => none) (evSs b) L e h
  | .forr tg it b, e, h => match evI C it e h with
    | some (src, h1) => loopS src (fun x e h => match evT C tg x e h with
      | some (e', h') => evSs b e' h'
      | none => none) src.1 e h1
    | none => none
  | .never, _, _ => none
noncomputable def evSs : Sms → Ev → Hs → Option Fl
  | .nil, e, h => some (.nx e h)
  | .cons s r, e, h => match evS s e h with
    | some (.nx e' h') => evSs r e' h'
    | r => r
end
end

/-! ### the text -/
def fnK (sc : Scope) : Bool := match (if sc.kind.isAnnotationScope then ScopeKind.function else sc.kind) with
  | .function => true
  | _ => false
def parNames (sc : Scope) (ts : List Expr) : List Str := ts.filterMap fun
    | .Name id pos => if sc.names.lookup id == some .local && pos.line == (ts.head?.map (·.pos.line)).getD 0 then some id else none
    | _ => none
def starIn (vs : List Expr) : Bool := vs.any fun | .Starred .. => true | _ => false
/-- no swapped stores -/
def swNone (sc : Scope) (ts vs : List Expr) : Bool :=
  !(ts.length == 2 || ts.length == 3) || vs.length != ts.length || !fnK sc || starIn vs || (parNames sc ts).length != ts.length || (parNames sc ts).eraseDups.length != (parNames sc ts).length || vs.all (foldedForSure 8)
def swFree (sc : Scope) (tg e : Expr) : Bool :=
  match e with
  | .ListComp _ _ s p => (match tg with
    | .Name t tp => !(fnK sc && sc.names.lookup t == some .local && tp.line == p.line && !(s.names.any fun (n, k) => n == t && (k == .local || k == .cell)))
    | _ => true)
  | .DictComp _ _ _ s p => (match tg with
    | .Name t tp => !(fnK sc && sc.names.lookup t == some .local && tp.line == p.line && !(s.names.any fun (n, k) => n == t && (k == .local || k == .cell)))
    | _ => true)
  | .SetComp _ _ _ _ => false
  | .Tuple vs _ _ => (match tg with
    | .Tuple ts _ _ => swNone sc ts vs
    | .List _ _ => false
    | _ => true)
  | _ => true
theorem blk_fn (env : Env) : (env.blockKind == ScopeKind.function) = fnK env.scope := by
  unfold Env.blockKind fnK
  generalize (if env.scope.kind.isAnnotationScope then ScopeKind.function else env.scope.kind) = k
  cases k <;> rfl
theorem swNone_ok {env : Env} {ts vs : List Expr} {k k2 : Nat} {p p2 : Pos} (h : swNone env.scope ts vs = true) : swappedStores [.Tuple ts k p] (.Tuple vs k2 p2) env = pure none := by
  unfold swappedStores
  dsimp only
  split
  · rfl
  rename_i c1
  split
  · rfl
  rename_i c2
  split
  · rfl
  rename_i c3
  split
  · rfl
  rename_i c4
  exfalso
  unfold swNone at h
  rw [← blk_fn] at h
  simp only [Bool.or_eq_true] at h c1 c3
  rcases h with (((((h | h) | h) | h) | h) | h) | h
  · exact c1 (.inl (.inl h))
  · exact c1 (.inl (.inr h))
  · exact c1 (.inr h)
  · exact c2 h
  · exact c3 (.inl h)
  · exact c3 (.inr h)
  · exact c4 h
theorem swFree_ok {env : Env} {tg e : Expr} {l : Nat} (h : swFree env.scope tg e = true) : swapsWithSole [tg] e l env = pure false ∧ swappedStores [tg] e env = pure none := by
  cases e with
  | ListComp a b s p =>
    refine ⟨?_, by cases tg <;> rfl⟩
    cases tg with
    | Name t tp =>
      simp only [swFree, Bool.not_eq_true'] at h
      show (pure (env.blockKind == .function && env.kindOf t == some .local && tp.line == p.line && !(s.names.any fun (n, k) => n == t && (k == .local || k == .cell))) : Sem Bool) = pure false
      rw [blk_fn]
      exact congrArg pure h
    | _ => rfl
  | DictComp a b c s p =>
    refine ⟨?_, by cases tg <;> rfl⟩
    cases tg with
    | Name t tp =>
      simp only [swFree, Bool.not_eq_true'] at h
      show (pure (env.blockKind == .function && env.kindOf t == some .local && tp.line == p.line && !(s.names.any fun (n, k) => n == t && (k == .local || k == .cell))) : Sem Bool) = pure false
      rw [blk_fn]
      exact congrArg pure h
    | _ => rfl
  | SetComp => simp [swFree] at h
  | Tuple vs k p =>
    refine ⟨by cases tg <;> rfl, ?_⟩
    cases tg with
    | Tuple ts k' p' => exact swNone_ok h
    | List ts p' => simp [swFree] at h
    | _ => rfl
  | _ => exact ⟨by cases tg <;> rfl, by cases tg <;> rfl⟩
/-- the stores swapped -/
def swPar (sc : Scope) (ts vs : List Expr) : Bool :=
  (ts.length == 2 || ts.length == 3) && vs.length == ts.length && fnK sc && !starIn vs && (parNames sc ts).length == ts.length && (parNames sc ts).eraseDups.length == (parNames sc ts).length && !vs.all (foldedForSure 8) && !vs.all (constantsAlone 8)
theorem swPar_ok {env : Env} {ts vs : List Expr} {k k2 : Nat} {p p2 : Pos} (h : swPar env.scope ts vs = true) : swappedStores [.Tuple ts k p] (.Tuple vs k2 p2) env = pure (some (parNames env.scope ts)) := by
  unfold swPar at h
  rw [← blk_fn] at h
  simp only [Bool.and_eq_true, Bool.not_eq_true'] at h
  obtain ⟨⟨⟨⟨⟨⟨⟨h1, h2⟩, h3⟩, h4⟩, h5⟩, h6⟩, h7⟩, h8⟩ := h
  unfold swappedStores
  dsimp only
  split
  · rename_i c1
    exfalso
    simp only [Bool.or_eq_true, bne, h1, h2, h3] at c1
    simp at c1
  split
  · rename_i c2
    exfalso
    have : starIn vs = true := c2
    rw [h4] at this
    cases this
  split
  · rename_i c3
    exfalso
    have c3' : ((parNames env.scope ts).length != ts.length || (parNames env.scope ts).eraseDups.length != (parNames env.scope ts).length) = true := c3
    simp only [bne, h5, h6] at c3'
    simp at c3'
  split
  · rename_i c4
    exfalso
    rw [h7] at c4
    cases c4
  split
  · rename_i c5
    exfalso
    rw [h8] at c5
    cases c5
  rfl

/-! ### readings -/
def FlK (K : PySem.W.Frag) (m : Mp) (H : Hp) (f : Fl) (Dn : Ends) : Prop :=
  match f with
  | .nx e' hs' => ∀ m' σ' H', Go m H m' H' → RE K m' H' σ' e' → RH K m' H' hs' → Dn.nx σ' H'
  | .rt d hs' => ∀ m' v H', Go m H m' H' → RH K m' H' hs' → Rep K m' H' v d → Dn.rt v H'
theorem FlK.mono {K : PySem.W.Frag} {m m' : Mp} {H H' : Hp} {f : Fl} {Dn : Ends} (h : FlK K m H f Dn) (g : Go m H m' H') : FlK K m' H' f Dn := by
  cases f with
  | nx e hs => exact fun m2 σ2 H2 g2 => h m2 σ2 H2 (g.trans g2)
  | rt d hs => exact fun m2 v H2 g2 => h m2 v H2 (g.trans g2)
def tSr (K : PySem.W.Frag) (ev : Ev → Hs → Option Fl) : TS := fun Dn σ H => ∃ m e hs f, RE K m H σ e ∧ RH K m H hs ∧ ev e hs = some f ∧ FlK K m H f Dn
structure SSta (X : Cx) (k : Nat) (N : List Str) (Γ : Nat → Option Str) (sc : Scope) (C : Cal) : Prop extends Sta X k N Γ sc C where
  own : Own X sc
  hp : PassesOwn (model X.prog X.w) X.A X.env X.xe
section
variable {X : Cx} {k : Nat} {N : List Str} {Γ : Nat → Option Str} {sc : Scope} {C : Cal} {L : Nat}
theorem ss_asg (S : SSta X k N Γ sc C) {tg : Tg} {a : Ex} {y : Expr} {x : Expr} {pos : Pos} {is : List Nat} (hst : isStar y = false) (hsw : swFree sc y x = true) (ha : PE X x (tE X.K (evE C a))) (ht : PG X y (tG X.K is (evT C tg))) :
    PS X (.Assign [y] x pos) (tSr X.K (evS C L (.asg tg a))) := by
  obtain ⟨w1, w2⟩ := swFree_ok (env := X.env) (l := pos.line) (by rw [S.s]; exact hsw)
  refine (ps_asg ha ht w1 w2 (by rw [asEach_cons hst]; rfl)).mono fun Dn σ H ⟨m, e, hs, f, r1, r2, r3, r4⟩ => ?_
  simp only [evS] at r3
  split at r3
  · rename_i d h1 e1
    obtain ⟨p, e2, rfl⟩ := Option.map_eq_some_iff.mp r3
    refine ⟨m, e, hs, d, h1, r1, r2, e1, fun m1 v1 H1 g1 q1 w1 => ⟨m1, e, h1, d, p.1, p.2, r1.mono g1, q1, w1, e2, fun m2 σ2 H2 g2 re rh _ => ?_⟩⟩
    exact r4 m2 σ2 H2 (g1.trans g2) re rh
  · cases r3
theorem al_read {a : Ex} {K : PySem.W.Frag} (σ : L2.St) (H : Hp) (Q : VK) (h : tE K (evE C (.al a)) σ H Q) : tEF K (evE C a) σ H Q := by
  obtain ⟨m, e, hs, d, hs', r1, r2, r3, r4⟩ := h
  simp only [evE] at r3
  split at r3
  · rename_i l h' e1
    cases r3
    refine ⟨m, e, hs, .lst l, h', r1, r2, e1, fun m1 vs p H1 g1 q1 hp w1 => ?_⟩
    have g : Go m1 H1 (m1.add p) (upd H1 p (.lst vs)) := Go.alloc q1 hp
    refine r4 (m1.add p) _ _ (g1.trans g) (q1.alloc hp ⟨vs, upd_same, w1.mono g⟩) (.ref ?_)
    show (m1.r ++ [p])[h'.length]? = _
    rw [← q1.len, List.getElem?_append_right (Nat.le_refl _), Nat.sub_self]
    rfl
  · rename_i l h' e1
    cases r3
    refine ⟨m, e, hs, .dk l, h', r1, r2, e1, fun m1 vs p H1 g1 q1 hp w0 w1 => ?_⟩
    have g : Go m1 H1 (m1.add p) (upd H1 p (.dK vs)) := Go.alloc q1 hp
    refine r4 (m1.add p) _ _ (g1.trans g) (q1.alloc hp ⟨vs, upd_same, w0, w1.mono g⟩) (.ref ?_)
    show (m1.r ++ [p])[h'.length]? = _
    rw [← q1.len, List.getElem?_append_right (Nat.le_refl _), Nat.sub_self]
    rfl
  · rename_i l h' e1
    cases r3
    refine ⟨m, e, hs, .dt l, h', r1, r2, e1, fun m1 vs p H1 g1 q1 hp w0 w1 => ?_⟩
    have g : Go m1 H1 (m1.add p) (upd H1 p (.dT vs)) := Go.alloc q1 hp
    refine r4 (m1.add p) _ _ (g1.trans g) (q1.alloc hp ⟨vs, upd_same, w0, w1.mono g⟩) (.ref ?_)
    show (m1.r ++ [p])[h'.length]? = _
    rw [← q1.len, List.getElem?_append_right (Nat.le_refl _), Nat.sub_self]
    rfl
  · cases r3
/-- name = [..], the name a local: the list comes to the name before the block ends -/
theorem ss_setLc (S : SSta X k N Γ sc C) {i : Nat} {a : Ex} {y : Str} {py : Pos} {elt : Ex} {tg : Tg} {it : Iter} {ifs : Exs} {own : List Nat} {elt' tg' it' : Expr} {ifs' : List Expr} {sc' : Scope} {pos spos : Pos} (ha : a = .comp elt tg it ifs own ∨ a = .al (.comp elt tg it ifs own))
    (hN : N[i]? = some y) (hl : sc.names.lookup y = some .local) (hk : sc.kind = .function) (hline : (py.line == pos.line) = true) (hno : (sc'.names.any fun (n, k) => n == y && (k == .local || k == .cell)) = false)
    (h0 : ∀ i ∈ tgN tg, i ∈ own) (h1 : blkC N sc sc' (own.map fun i => (N.getD i (Str.ofString ""), i)) = true)
    (hi : PI X tg' it' (tI X.K (evI C it))) (hfs : ∀ x, foldedSetIterable it' X.env x = pure x)
    (hg : ∀ (s : Shared) (H : Hp) (Cc : Addr) (cl : List (Str × Addr)) (fp : List Addr), PG (X.blk s H sc' (compEnvC sc' cl Cc X.env) fp) tg' (tG X.K (tgN tg) (evT C tg)))
    (ht : ∀ (s : Shared) (H : Hp) (Cc : Addr) (cl : List (Str × Addr)) (fp : List Addr), PTs (X.blk s H sc' (compEnvC sc' cl Cc X.env) fp) ifs' (tB' X.K (evC C ifs)))
    (he : ∀ (s : Shared) (H : Hp) (Cc : Addr) (cl : List (Str × Addr)) (fp : List Addr), PE (X.blk s H sc' (compEnvC sc' cl Cc X.env) fp) elt' (tE X.K (evE C elt))) :
    PS X (.Assign [.Name y py] (.ListComp elt' [⟨tg', it', ifs', 0⟩] sc' pos) spos) (tSr X.K (evS C L (.asg (.nm i) a))) := by
  have ok : BlkOk X.N X.env.scope sc' (own.map fun i => (N.getD i (Str.ofString ""), i)) := by
    rw [S.n, S.s]
    exact blkOk_by h1
  have hl' : X.env.scope.names.lookup y = some .local := by rw [S.s]; exact hl
  have p := ps_setLc (spos := spos) (py := py) (pos := pos) S.calm (by rw [S.n]; exact S.nd) (by rw [S.n]; exact hN) hl' (sw_true (by rw [S.s]; exact hk) hl' hline hno) hi ok hg ht he hfs
  rw [ownM] at p
  refine p.mono fun Dn σ H ⟨m, e, hs, f, r1, r2, r3, r4⟩ => ?_
  simp only [evS] at r3
  split at r3
  · rename_i d h1 e1
    obtain ⟨p, e2, rfl⟩ := Option.map_eq_some_iff.mp r3
    simp only [evT] at e2
    cases e2
    have q : tE X.K (evE C a) σ H fun x H1 => Dn.nx (σ.set i (some x)) H1 := ⟨m, e, hs, d, h1, r1, r2, e1, fun m1 v1 H1 g1 q1 w1 => r4 m1 _ H1 g1 ((r1.mono g1).set w1 i) q1⟩
    refine lc_read h0 σ H _ ?_
    rcases ha with rfl | rfl
    · obtain ⟨m, e, hs, d, hs', q1, q2, q3, q4⟩ := q
      exact ⟨m, e, hs, d, hs', q1, q2, q3, q4.f (ob_comp _ _ _ _ q3)⟩
    · exact al_read σ H _ q
  · cases r3
theorem ss_par2 (S : SSta X k N Γ sc C) {i j : Nat} {x y : Str} {es : Exs} {a b : Expr} {px py pt : Pos} {kt k2 : Nat} {pt2 spos : Pos} (hi : N[i]? = some x) (hj : N[j]? = some y) (hij : i ≠ j) (hx : sc.names.lookup x = some .local) (hy : sc.names.lookup y = some .local)
    (hw : swPar sc [.Name x px, .Name y py] [a, b] = true) (hn : parNames sc [.Name x px, .Name y py] = [x, y]) (ha : PA X [a, b] (tA X.K (evA C es))) :
    PS X (.Assign [.Tuple [.Name x px, .Name y py] kt pt] (.Tuple [a, b] k2 pt2) spos) (tSr X.K (evS C L (.par [i, j] es))) := by
  have w := swPar_ok (env := X.env) (ts := [.Name x px, .Name y py]) (vs := [a, b]) (k := kt) (k2 := k2) (p := pt) (p2 := pt2) (by rw [S.s]; exact hw)
  rw [S.s, hn] at w
  refine (ps_par S.calm (by rw [S.n]; exact S.nd) (by rw [S.n]; exact hi) (by rw [S.n]; exact hj) hij (by rw [S.s]; exact hx) (by rw [S.s]; exact hy) ha w).mono fun Dn σ H ⟨m, e, hs, f, r1, r2, r3, r4⟩ => ?_
  simp only [evS] at r3
  split at r3
  · rename_i ds h1 e1
    split at r3
    · rename_i hlen
      cases r3
      refine ⟨m, e, hs, ds, h1, r1, r2, e1, fun m1 vs H1 g1 q1 w1 => ?_⟩
      match ds, hlen, w1, r4 with
      | [d1, d2], _, w1, r4 =>
        obtain ⟨v, u, rfl, wv, wu⟩ := w1.rep2
        exact ⟨v, u, rfl, r4 m1 _ H1 g1 (((r1.mono g1).set wv i).set wu j) q1⟩
    · cases r3
  · cases r3
theorem vals_three {x y z : V} {us : List Value} (h : Vals [x, y, z] us) : ∃ u v w, us = [u, v, w] ∧ RelV x u ∧ RelV y v ∧ RelV z w := by
  cases h with
  | cons p q => cases q with
    | cons p' q' => cases q' with
      | cons p'' q'' => cases q''; exact ⟨_, _, _, rfl, p, p', p''⟩
theorem ps_par3 {i j l : Nat} {x y z : Str} {a b c : Expr} {ta : TA} {px py pz pt : Pos} {kt k2 pt2 pos} (hc : X.calm = true) (hN : X.N.Nodup) (hi : X.N[i]? = some x) (hj : X.N[j]? = some y) (hl : X.N[l]? = some z) (hij : i ≠ j) (hil : i ≠ l) (hjl : j ≠ l)
    (hx : X.env.scope.names.lookup x = some .local) (hy : X.env.scope.names.lookup y = some .local) (hz : X.env.scope.names.lookup z = some .local) (ha : PA X [a, b, c] ta)
    (hw : swappedStores [.Tuple [.Name x px, .Name y py, .Name z pz] kt pt] (.Tuple [a, b, c] k2 pt2) X.env = pure (some [x, y, z]))
    (hs : swapsWithSole [.Tuple [.Name x px, .Name y py, .Name z pz] kt pt] (.Tuple [a, b, c] k2 pt2) pos.line X.env = pure false := by rfl) :
    PS X (.Assign [.Tuple [.Name x px, .Name y py, .Name z pz] kt pt] (.Tuple [a, b, c] k2 pt2) pos) (fun D σ H => ta σ H fun vs H1 => ∃ u v w, vs = [u, v, w] ∧ D.nx (((σ.set i (some u)).set j (some v)).set l (some w)) H1) := by
  refine ⟨fun pins s σ H D I h => ?_⟩
  rw [exec_Assign_arm]
  refine wpAny_bind (wpAny_standAt ?_)
  rw [hs]
  refine wpAny_bind (wpAny_pure ?_)
  rw [if_neg (by decide)]
  refine wpAny_bind (Tuple_ (thn (ha.run _ pins s σ H _ I h) fun us s1 ⟨vs, H1, I1, r1, q1⟩ => ?_))
  obtain ⟨u, v, w, e1, q1⟩ := q1
  subst e1
  obtain ⟨u1, u2, u3, rfl, ru, rv, rw'⟩ := vals_three r1
  refine wpAny_newObj_type ?_ (by show 3 ≤ sizeLine; decide)
  have I2 : L2.Inv X pins σ H1 { s1 with heap := s1.heap.push { cls := .type "tuple", data := .seq [u1, u2, u3].toArray } } := I1.kept (t' := s1.toks) fun b o e => Heap.get?_push_of_some _ e
  rw [hw]
  refine wpAny_bind (wpAny_pure ?_)
  show wpAny (model X.prog X.w) X.A (do rule "assign.swapped-stores"; let items ← unpackItems (.ref s1.heap.objs.size) 3 none; assignInOrder [fun v => bindName X.env z v, fun v => bindName X.env y v, fun v => bindName X.env x v] items.reverse; pure Flow.next) _ _ _
  refine wpAny_bind (wpAny_rule (wpAny_bind (unpackItems_tuple (items := #[u1, u2, u3]) (I.ok.hd hc) (IsTup.new s1.heap _) fun h' hx' => ?_)))
  have I3 := I2.kept (h' := h') (t' := s1.toks) fun b o e => hx' b o (Nat.ne_of_lt (Heap.lt_size e)) e
  show wpAny _ _ (assignInOrder [fun v => bindName X.env z v, fun v => bindName X.env y v, fun v => bindName X.env x v] [u3, u2, u1] >>= fun _ => pure Flow.next) _ _ _
  refine wpAny_bind (assignInOrder_cons (wpAny_bindName (store_ok I3 hN hl (.inl hz) rw' (fun s2 I4 => ?_) (.inr hz))))
  refine assignInOrder_cons (wpAny_bindName (store_ok I4 hN hj (.inl hy) rv (fun s3 I5 => ?_) (.inr hy)))
  refine assignInOrder_cons (wpAny_bindName (store_ok I5 hN hi (.inl hx) ru (fun s4 I6 => assignInOrder_nil (wpAny_pure ?_)) (.inr hx)))
  have e : ((σ.set l (some w)).set j (some v)).set i (some u) = ((σ.set i (some u)).set j (some v)).set l (some w) := by
    rw [List.set_comm _ _ (Ne.symm hjl), List.set_comm _ _ (Ne.symm hil), List.set_comm _ _ (Ne.symm hij)]
  rw [e] at I6
  exact ⟨_, H1, I6, q1⟩
theorem ss_par3 (S : SSta X k N Γ sc C) {i j l : Nat} {x y z : Str} {es : Exs} {a b c : Expr} {px py pz pt : Pos} {kt k2 : Nat} {pt2 spos : Pos} (hi : N[i]? = some x) (hj : N[j]? = some y) (hl : N[l]? = some z) (hij : i ≠ j) (hil : i ≠ l) (hjl : j ≠ l)
    (hx : sc.names.lookup x = some .local) (hy : sc.names.lookup y = some .local) (hz : sc.names.lookup z = some .local)
    (hw : swPar sc [.Name x px, .Name y py, .Name z pz] [a, b, c] = true) (hn : parNames sc [.Name x px, .Name y py, .Name z pz] = [x, y, z]) (ha : PA X [a, b, c] (tA X.K (evA C es))) :
    PS X (.Assign [.Tuple [.Name x px, .Name y py, .Name z pz] kt pt] (.Tuple [a, b, c] k2 pt2) spos) (tSr X.K (evS C L (.par [i, j, l] es))) := by
  have w := swPar_ok (env := X.env) (ts := [.Name x px, .Name y py, .Name z pz]) (vs := [a, b, c]) (k := kt) (k2 := k2) (p := pt) (p2 := pt2) (by rw [S.s]; exact hw)
  rw [S.s, hn] at w
  refine (ps_par3 S.calm (by rw [S.n]; exact S.nd) (by rw [S.n]; exact hi) (by rw [S.n]; exact hj) (by rw [S.n]; exact hl) hij hil hjl (by rw [S.s]; exact hx) (by rw [S.s]; exact hy) (by rw [S.s]; exact hz) ha w).mono fun Dn σ H ⟨m, e, hs, f, r1, r2, r3, r4⟩ => ?_
  simp only [evS] at r3
  split at r3
  · rename_i ds h1 e1
    split at r3
    · rename_i hlen
      cases r3
      refine ⟨m, e, hs, ds, h1, r1, r2, e1, fun m1 vs H1 g1 q1 w1 => ?_⟩
      match ds, hlen, w1, r4 with
      | [d1, d2, d3], _, w1, r4 =>
        obtain ⟨v, r, rfl, wv, w1⟩ := w1.cons'
        obtain ⟨u, t, rfl, wu, wt⟩ := w1.rep2
        exact ⟨v, u, t, rfl, r4 m1 _ H1 g1 ((((r1.mono g1).set wv i).set wu j).set wt l) q1⟩
    · cases r3
  · cases r3
theorem ss_expr (S : SSta X k N Γ sc C) {a : Ex} {x : Expr} {pos : Pos} (hs : swapsWith x none pos.line X.env = pure false) (ha : PE X x (tE X.K (evE C a))) : PS X (.Expr x pos) (tSr X.K (evS C L (.expr a))) := by
  refine (ps_expr ha hs).mono fun Dn σ H ⟨m, e, hs, f, r1, r2, r3, r4⟩ => ?_
  simp only [evS] at r3
  obtain ⟨p, e1, rfl⟩ := Option.map_eq_some_iff.mp r3
  exact ⟨m, e, hs, p.1, p.2, r1, r2, e1, fun m1 v1 H1 g1 q1 _ => r4 m1 σ H1 g1 (r1.mono g1) q1⟩
theorem ss_ret (S : SSta X k N Γ sc C) {a : Ex} {x : Expr} {pos : Pos} (ha : PE X x (tE X.K (evE C a))) : PS X (.Return (some x) pos) (tSr X.K (evS C L (.ret a))) := by
  refine (ps_ret ha).mono fun Dn σ H ⟨m, e, hs, f, r1, r2, r3, r4⟩ => ?_
  simp only [evS] at r3
  obtain ⟨p, e1, rfl⟩ := Option.map_eq_some_iff.mp r3
  exact ⟨m, e, hs, p.1, p.2, r1, r2, e1, fun m1 v1 H1 g1 q1 w1 => r4 m1 v1 H1 g1 q1 w1⟩
theorem ss_retN (S : SSta X k N Γ sc C) {pos : Pos} : PS X (.Return none pos) (tSr X.K (evS C L .retN)) := by
  refine ps_retN.mono fun Dn σ H ⟨m, e, hs, f, r1, r2, r3, r4⟩ => ?_
  simp only [evS] at r3
  cases r3
  exact r4 m .non H (Go.refl m H) r2 .non
theorem ss_if (S : SSta X k N Γ sc C) {c : Ex} {a b : Sms} {x : Expr} {ys zs : List Stmt} {pos : Pos} (hc : PT X x (tT X.K (evE C c))) (ha : PSs X ys (tSr X.K (evSs C L a))) (hb : PSs X zs (tSr X.K (evSs C L b))) : PS X (.If x ys zs pos) (tSr X.K (evS C L (.iff c a b))) := by
  refine (ps_if hc ha hb).mono fun Dn σ H ⟨m, e, hs, f, r1, r2, r3, r4⟩ => ?_
  simp only [evS] at r3
  split at r3
  · rename_i h1 e1
    exact ⟨m, e, hs, true, h1, r1, r2, e1, fun m1 H1 g1 q1 => iteT ⟨m1, e, h1, f, r1.mono g1, q1, r3, r4.mono g1⟩⟩
  · rename_i h1 e1
    exact ⟨m, e, hs, false, h1, r1, r2, e1, fun m1 H1 g1 q1 => iteF ⟨m1, e, h1, f, r1.mono g1, q1, r3, r4.mono g1⟩⟩
  · cases r3
theorem ss_while (S : SSta X k N Γ sc C) {c : Ex} {b : Sms} {x : Expr} {ys : List Stmt} {pos : Pos} (hc : PT X x (tT X.K (evE C c))) (hb : PSs X ys (tSr X.K (evSs C L b))) : PS X (.While x ys [] pos) (tSr X.K (evS C L (.whl c b))) := by
  refine (ps_while S.hp hc hb).mono fun Dn σ H ⟨m, e, hs, f, r1, r2, r3, r4⟩ => ?_
  simp only [evS] at r3
  refine ⟨fun n σ H => ∃ m e hs, RE X.K m H σ e ∧ RH X.K m H hs ∧ loopW (fun e h => match evE C c e h with
    | some (.bl b, h') => some (b, h')
    | _ => none) (evSs C L b) n e hs = some f ∧ FlK X.K m H f Dn, ⟨L, m, e, hs, r1, r2, r3, r4⟩, ?_⟩
  rintro n σ H ⟨m, e, hs, r1, r2, r3, r4⟩
  cases n with
  | zero => simp [loopW] at r3
  | succ n =>
    simp only [loopW] at r3
    split at r3
    · rename_i h1 e1
      split at e1
      rotate_left
      · cases e1
      rename_i b' h1' e1'
      cases e1
      refine ⟨m, e, hs, true, h1, r1, r2, e1', fun m1 H1 g1 q1 => iteT ⟨fun σ' H' => ∃ m e hs, RE X.K m H' σ' e ∧ RH X.K m H' hs ∧ loopW (fun e h => match evE C c e h with
        | some (.bl b, h') => some (b, h')
        | _ => none) (evSs C L b) n e hs = some f ∧ FlK X.K m H' f Dn, fun σ' H' q => ⟨n, Nat.lt_succ_self n, q⟩, ?_⟩⟩
      split at r3
      · rename_i e2 h2 eb
        exact ⟨m1, e, h1, _, r1.mono g1, q1, eb, fun m2 σ2 H2 g2 re rh => ⟨m2, e2, h2, re, rh, r3, r4.mono (g1.trans g2)⟩⟩
      · rename_i hne
        cases hbd : evSs C L b e h1 with
        | none => rw [hbd] at r3; cases r3
        | some fl =>
          cases fl with
          | nx e2 h2 => exact (hne e2 h2 hbd).elim
          | rt d h2 =>
            rw [hbd] at r3
            cases r3
            exact ⟨m1, e, h1, _, r1.mono g1, q1, hbd, fun m2 v H2 g2 rh w => r4 m2 v H2 (g1.trans g2) rh w⟩
    · rename_i h1 e1
      split at e1
      rotate_left
      · cases e1
      rename_i b' h1' e1'
      cases e1
      cases r3
      exact ⟨m, e, hs, false, h1, r1, r2, e1', fun m1 H1 g1 q1 => iteF (r4 m1 σ H1 g1 (r1.mono g1) q1)⟩
    · cases r3
theorem ss_for (S : SSta X k N Γ sc C) {tg : Tg} {it : Iter} {b : Sms} {x y : Expr} {ys : List Stmt} {pos : Pos} {is : List Nat} (hi : PI X y x (tI X.K (evI C it))) (hfs : ∀ v, foldedSetIterable x X.env v = pure v) (hg : PG X y (tG X.K is (evT C tg)))
    (hb : PSs X ys (tSr X.K (evSs C L b))) : PS X (.For y x ys [] pos) (tSr X.K (evS C L (.forr tg it b))) := by
  refine (ps_for S.hp S.calm hi hg hb hfs).mono fun Dn σ H ⟨m, e, hs, f, r1, r2, r3, r4⟩ => ?_
  simp only [evS] at r3
  split at r3
  rotate_left
  · cases r3
  rename_i src h1 e1
  refine ⟨m, e, hs, src, h1, r1, r2, e1, fun m1 H1 J g1 q1 so => ?_⟩
  refine ⟨fun i n σ H => ∃ mi e hs, Go m1 H1 mi H ∧ RE X.K mi H σ e ∧ RH X.K mi H hs ∧ i ≤ src.1.length ∧ n = src.1.length - i ∧ loopS src (fun x e h => match evT C tg x e h with
      | some (e', h') => evSs C L b e' h'
      | none => none) (src.1.drop i) e hs = some f, ⟨src.1.length, m1, e, h1, Go.refl m1 H1, r1.mono g1, q1, Nat.zero_le _, rfl, r3⟩, ?_⟩
  rintro i n σ Hi ⟨mi, ei, hi', gi, re, rh, hil, rfl, hl⟩
  have gw := gi.toGw
  cases hdr : src.1.drop i with
  | nil =>
    rw [hdr] at hl
    simp only [loopS] at hl
    obtain ⟨ok, ez⟩ := chk_some hl
    subst ez
    have e1 : i = src.1.length := by
      have := List.drop_eq_nil_iff.mp hdr
      omega
    exact .inl ⟨so.stop mi Hi _ i gw rh ok e1, r4 mi σ Hi (g1.trans gi) re rh⟩
  | cons x rest =>
    rw [hdr] at hl
    simp only [loopS] at hl
    split at hl
    rotate_left
    · cases hl
    rename_i u0 hok
    obtain ⟨ok, _⟩ := chk_some hok
    have hlt : i < src.1.length := by
      apply Nat.lt_of_not_le
      intro hh
      rw [List.drop_eq_nil_of_le hh] at hdr
      cases hdr
    have hxi : src.1[i]? = some x := by
      have := List.getElem?_drop (xs := src.1) (i := i) (j := 0)
      rw [hdr] at this
      simpa using this.symm
    have hrest : src.1.drop (i + 1) = rest := by
      rw [← List.tail_drop, hdr]
      rfl
    refine .inr ⟨so.go mi Hi _ i gw rh ok hlt, _, fun σ' H' hh => hh, fun v Hy hy => ?_⟩
    obtain ⟨sm, rv⟩ := so.yld mi Hi _ i v Hy x gw rh ok hxi hy
    split at hl
    · rename_i e2 h2 et
      split at et
      rotate_left
      · cases et
      rename_i e3 h3 et'
      refine ⟨mi, ei, hi', x, e3, h3, re.mono (Go.same sm), rh.same sm, rv, et', fun m2 σ2 H2 g2 re2 rh2 _ => ⟨m2, e3, h3, _, re2, rh2, et, fun m4 σ4 H4 g4 re4 rh4 => ?_⟩⟩
      exact ⟨src.1.length - (i + 1), by omega, m4, e2, h2, gi.trans ((Go.same sm).trans (g2.trans g4)), re4, rh4, by omega, rfl, by rw [hrest]; exact hl⟩
    · rename_i hne
      generalize hbd : (match evT C tg x ei hi' with
        | some (e', h') => evSs C L b e' h'
        | none => none) = r at hl hne
      cases r with
      | none => cases hl
      | some fl =>
        cases fl with
        | nx e2 h2 => exact (hne e2 h2 rfl).elim
        | rt d h2 =>
          cases hl
          split at hbd
          rotate_left
          · cases hbd
          rename_i e3 h3 et'
          refine ⟨mi, ei, hi', x, e3, h3, re.mono (Go.same sm), rh.same sm, rv, et', fun m2 σ2 H2 g2 re2 rh2 _ => ⟨m2, e3, h3, _, re2, rh2, hbd, fun m4 v4 H4 g4 rh4 w4 => ?_⟩⟩
          exact r4 m4 v4 H4 ((g1.trans gi).trans ((Go.same sm).trans (g2.trans g4))) rh4 w4
theorem sss_nil : PSs X [] (tSr X.K (evSs C L .nil)) := by
  refine pss_nil.mono fun Dn σ H ⟨m, e, hs, f, r1, r2, r3, r4⟩ => ?_
  simp only [evSs] at r3
  cases r3
  exact r4 m σ H (Go.refl m H) r1 r2
theorem sss_cons {a : Sm} {r : Sms} {y : Stmt} {ys : List Stmt} (h1 : PS X y (tSr X.K (evS C L a))) (h2 : PSs X ys (tSr X.K (evSs C L r))) : PSs X (y :: ys) (tSr X.K (evSs C L (.cons a r))) := by
  refine (pss_cons h1 h2).mono fun Dn σ H ⟨m, e, hs, f, r1, r2, r3, r4⟩ => ?_
  simp only [evSs] at r3
  split at r3
  · rename_i e' h' e1
    exact ⟨m, e, hs, _, r1, r2, e1, fun m1 σ1 H1 g1 re rh => ⟨m1, e', h', f, re, rh, r3, r4.mono g1⟩⟩
  · rename_i hne
    cases hbd : evS C L a e hs with
    | none => rw [hbd] at r3; cases r3
    | some fl =>
      cases fl with
      | nx e2 h2 => exact (hne e2 h2 hbd).elim
      | rt d h2 =>
        rw [hbd] at r3
        cases r3
        exact ⟨m, e, hs, _, r1, r2, hbd, r4⟩
end
end Z

set_option Elab.async false
set_option linter.all false
set_option maxRecDepth 100000
set_option maxHeartbeats 8000000
/-! Z15: every statement that is matched is sound -/
namespace Z
open PySem PySem.Spec PyProof.Rows L2
def isComp : Ex → Bool
  | .comp _ _ _ _ _ => true
  | .al (.comp _ _ _ _ _) => true
  | _ => false
/-- name = [..], swapped -/
def lcSet (N : List Str) (sc : Scope) (tg : Tg) (a : Ex) (y x : Expr) : Bool :=
  match tg, y, x with
  | .nm i, .Name t tp, .ListComp _ _ s p => isComp a && decide (N[i]? = some t) && decide (sc.names.lookup t = some .local) && (match sc.kind with | .function => true | _ => false) && (tp.line == p.line) && !(s.names.any fun (n, k) => n == t && (k == .local || k == .cell))
  | _, _, _ => false
def notComp : Expr → Bool
  | .ListComp _ _ _ _ => false
  | .SetComp _ _ _ _ => false
  | .DictComp _ _ _ _ _ => false
  | _ => true
theorem notComp_ok {x : Expr} {l : Nat} {env : Env} (h : notComp x = true) : swapsWith x none l env = pure false := by
  cases x <;> first
    | rfl
    | cases h
section
variable (N : List Str) (Γ : Nat → Option Str) (sc : Scope)
mutual
def mS : Sm → Stmt → Bool
  | .asg tg a, .Assign [y] x _ => !isStar y && mT N Γ sc sc tg y && mE N Γ sc a x && (swFree sc y x || lcSet N sc tg a y x)
  | .par [i, j] es, .Assign [.Tuple [.Name x px, .Name y py] _ _] (.Tuple [a, b] _ _) _ => decide (N[i]? = some x) && decide (N[j]? = some y) && decide (i ≠ j) && decide (sc.names.lookup x = some .local) && decide (sc.names.lookup y = some .local) &&
      swPar sc [.Name x px, .Name y py] [a, b] && decide (parNames sc [.Name x px, .Name y py] = [x, y]) && mA N Γ sc es [a, b]
  | .par [i, j, l] es, .Assign [.Tuple [.Name x px, .Name y py, .Name z pz] _ _] (.Tuple [a, b, c] _ _) _ => decide (N[i]? = some x) && decide (N[j]? = some y) && decide (N[l]? = some z) && decide (i ≠ j) && decide (i ≠ l) && decide (j ≠ l) &&
      decide (sc.names.lookup x = some .local) && decide (sc.names.lookup y = some .local) && decide (sc.names.lookup z = some .local) &&
      swPar sc [.Name x px, .Name y py, .Name z pz] [a, b, c] && decide (parNames sc [.Name x px, .Name y py, .Name z pz] = [x, y, z]) && mA N Γ sc es [a, b, c]
  | .expr a, .Expr x _ => notComp x && mE N Γ sc a x
  | .ret a, .Return (some x) _ => mE N Γ sc a x
  | .retN, .Return none _ => true
  | .iff c a b, .If x ys zs _ => mE N Γ sc c x && mSs a ys && mSs b zs
  | .whl c b, .While x ys [] _ => mE N Γ sc c x && mSs b ys
  | .forr tg it b, .For y x ys [] _ => mI N Γ sc it x y && mT N Γ sc sc tg y && mSs b ys
  | .never, _ => true
  | _, _ => false
def mSs : Sms → List Stmt → Bool
  | .nil, [] => true
  | .cons s r, y :: ys => mS s y && mSs r ys
  | _, _ => false
end
end
section
variable {k : Nat} {N : List Str} {Γ : Nat → Option Str} {sc : Scope} {C : Cal} {L : Nat}
theorem ss_lc1 {X : Cx} (S : SSta X k N Γ sc C) {i : Nat} {a : Ex} {elt : Ex} {tg : Tg} {it : Iter} {ifs : Exs} {own : List Nat} {t : Str} {tp p pos : Pos} {elt' : Expr} {gens : List Comprehension} {s : Scope} (hab : a = .comp elt tg it ifs own ∨ a = .al (.comp elt tg it ifs own))
    (hm : mE N Γ sc (.comp elt tg it ifs own) (.ListComp elt' gens s p) = true) (h2 : N[i]? = some t) (h3 : sc.names.lookup t = some .local) (hk : sc.kind = .function) (h5 : (tp.line == p.line) = true) (h6 : (s.names.any fun (n, k) => n == t && (k == .local || k == .cell)) = false) :
    PS X (.Assign [.Name t tp] (.ListComp elt' gens s p) pos) (tSr X.K (evS C L (.asg (.nm i) a))) := by
  unfold mE at hm
  split at hm
  all_goals (try contradiction)
  rename_i heq heq2
  cases heq
  cases heq2
  simp only [Bool.and_eq_true, List.all_eq_true, decide_eq_true_eq] at hm
  obtain ⟨⟨⟨⟨⟨g0, g1⟩, g2⟩, g3⟩, g4⟩, g5⟩ := hm
  exact ss_setLc S hab h2 h3 hk h5 h6 g0 g1 (sI _ S.toSta g2) (mI_fold g2) (fun s H Cc cl fp => sT _ (S.toSta.blk _ s H Cc cl fp) (own_blk _ s H Cc cl fp) g3) (fun s H Cc cl fp => sC _ (S.toSta.blk _ s H Cc cl fp) g4)
    fun s H Cc cl fp => (sE _ (S.toSta.blk _ s H Cc cl fp) g5).1.1
theorem ss_lc {X : Cx} (S : SSta X k N Γ sc C) {tg : Tg} {a : Ex} {y x : Expr} {pos : Pos} (ha : mE N Γ sc a x = true) (h : lcSet N sc tg a y x = true) : PS X (.Assign [y] x pos) (tSr X.K (evS C L (.asg tg a))) := by
  unfold lcSet at h
  split at h
  rotate_left
  · cases h
  simp only [Bool.and_eq_true, decide_eq_true_eq, Bool.not_eq_true'] at h
  obtain ⟨⟨⟨⟨⟨h1, h2⟩, h3⟩, h4⟩, h5⟩, h6⟩ := h
  have hk : sc.kind = .function := by
    split at h4
    · assumption
    · cases h4
  unfold isComp at h1
  split at h1
  · exact ss_lc1 S (.inl rfl) ha h2 h3 hk h5 h6
  · unfold mE at ha
    simp only [Bool.and_eq_true] at ha
    exact ss_lc1 S (.inr rfl) ha.2 h2 h3 hk h5 h6
  · cases h1
mutual
theorem sS : ∀ (a : Sm) {X : Cx} {x : Stmt}, SSta X k N Γ sc C → mS N Γ sc a x = true → PS X x (tSr X.K (evS C L a))
  | .asg tg a, X, x, S, h => by
    unfold mS at h
    split at h
    all_goals (try contradiction)
    rename_i heq
    cases heq
    simp only [Bool.and_eq_true, Bool.not_eq_true', Bool.or_eq_true] at h
    obtain ⟨⟨⟨h1, h2⟩, h3⟩, h4⟩ := h
    rcases h4 with h4 | h4
    · exact ss_asg S h1 h4 (sE a S.toSta h3).1.1 (sT tg S.toSta S.own h2)
    · exact ss_lc S h3 h4
  | .par is es, X, x, S, h => by
    unfold mS at h
    split at h
    all_goals (try contradiction)
    · rename_i heq
      cases heq
      simp only [Bool.and_eq_true, decide_eq_true_eq] at h
      obtain ⟨⟨⟨⟨⟨⟨⟨h1, h2⟩, h3⟩, h4⟩, h5⟩, h6⟩, h7⟩, h8⟩ := h
      exact ss_par2 S h1 h2 h3 h4 h5 h6 h7 (sA es S.toSta h8)
    · rename_i heq
      cases heq
      simp only [Bool.and_eq_true, decide_eq_true_eq] at h
      obtain ⟨⟨⟨⟨⟨⟨⟨⟨⟨⟨⟨h1, h2⟩, h3⟩, h4⟩, h5⟩, h6⟩, h7⟩, h8⟩, h9⟩, h10⟩, h11⟩, h12⟩ := h
      exact ss_par3 S h1 h2 h3 h4 h5 h6 h7 h8 h9 h10 h11 (sA es S.toSta h12)
  | .expr a, X, x, S, h => by
    unfold mS at h
    split at h
    all_goals (try contradiction)
    rename_i heq
    cases heq
    simp only [Bool.and_eq_true] at h
    exact ss_expr S (notComp_ok h.1) (sE a S.toSta h.2).1.1
  | .ret a, X, x, S, h => by
    unfold mS at h
    split at h
    all_goals (try contradiction)
    rename_i heq
    cases heq
    exact ss_ret S (sE a S.toSta h).1.1
  | .retN, X, x, S, h => by
    unfold mS at h
    split at h
    all_goals (try contradiction)
    exact ss_retN S
  | .iff c a b, X, x, S, h => by
    unfold mS at h
    split at h
    all_goals (try contradiction)
    rename_i heq
    cases heq
    simp only [Bool.and_eq_true] at h
    exact ss_if S (sE c S.toSta h.1.1).1.2 (sSs a S h.1.2) (sSs b S h.2)
  | .whl c b, X, x, S, h => by
    unfold mS at h
    split at h
    all_goals (try contradiction)
    rename_i heq
    cases heq
    simp only [Bool.and_eq_true] at h
    exact ss_while S (sE c S.toSta h.1).1.2 (sSs b S h.2)
  | .forr tg it b, X, x, S, h => by
    unfold mS at h
    split at h
    all_goals (try contradiction)
    rename_i heq
    cases heq
    simp only [Bool.and_eq_true] at h
    exact ss_for S (sI it S.toSta h.1.1) (mI_fold h.1.1) (sT tg S.toSta S.own h.1.2) (sSs b S h.2)
  | .never, X, x, S, h => by
    refine ps_never.mono fun Dn σ H ⟨m, e, hs, f, r1, r2, r3, r4⟩ => ?_
    simp only [evS] at r3
    cases r3
theorem sSs : ∀ (a : Sms) {X : Cx} {xs : List Stmt}, SSta X k N Γ sc C → mSs N Γ sc a xs = true → PSs X xs (tSr X.K (evSs C L a))
  | .nil, X, xs, S, h => by
    unfold mSs at h
    split at h
    all_goals (try contradiction)
    exact sss_nil
  | .cons s r, X, xs, S, h => by
    unfold mSs at h
    split at h
    all_goals (try contradiction)
    rename_i heq
    cases heq
    simp only [Bool.and_eq_true] at h
    exact sss_cons (sS s S h.1) (sSs r S h.2)
end
end
end Z

set_option Elab.async false
set_option linter.all false
set_option maxRecDepth 100000
set_option maxHeartbeats 8000000
/-! Z16: defs, their calls, the law's end -/
namespace Z
open PySem PySem.Spec PyProof.Rows L2
structure Fn where
  np : Nat
  nn : Nat
  keep : Bool
  body : Sms

/-! ### what is handed out no more changes -/
/-- nothing behind b in it -/
inductive Low (b : Nat) : D → Prop
  | non : Low b .non
  | bl (x : Bool) : Low b (.bl x)
  | int (x : Int) : Low b (.int x)
  | str (x : Str) : Low b (.str x)
  | scr (x : List Int) : Low b (.scr x)
  | tup {xs : List D} : (∀ x ∈ xs, Low b x) → Low b (.tup xs)
  | lst {xs : List D} : (∀ x ∈ xs, Low b x) → Low b (.lst xs)
  | dk {kvs : List (Key × D)} : (∀ p ∈ kvs, Low b p.2) → Low b (.dk kvs)
  | dt {kvs : List (List Key × D)} : (∀ p ∈ kvs, Low b p.2) → Low b (.dt kvs)
  | ref {k : Nat} : k < b → Low b (.ref k)
def LowO (b : Nat) : O → Prop
  | .lst xs => ∀ x ∈ xs, Low b x
  | .dk kvs => ∀ p ∈ kvs, Low b p.2
  | .dt kvs => ∀ p ∈ kvs, Low b p.2
open Classical in
noncomputable def frz (hs : Hs) (b : Nat) : Nat → D → Option D
  | 0, d => if Low b d then some d else none
  | n + 1, d => if Low b d then some d else match d with
    | .tup xs => (xs.mapM (frz hs b n)).map .tup
    | .lst xs => (xs.mapM (frz hs b n)).map .lst
    | .dk kvs => ((kvs.map (·.2)).mapM (frz hs b n)).map fun vs => .dk ((kvs.map (·.1)).zip vs)
    | .dt kvs => ((kvs.map (·.2)).mapM (frz hs b n)).map fun vs => .dt ((kvs.map (·.1)).zip vs)
    | .ref k => match hs[k]? with
      | some (.lst xs) => (xs.mapM (frz hs b n)).map .lst
      | some (.dk kvs) => ((kvs.map (·.2)).mapM (frz hs b n)).map fun vs => .dk ((kvs.map (·.1)).zip vs)
      | some (.dt kvs) => ((kvs.map (·.2)).mapM (frz hs b n)).map fun vs => .dt ((kvs.map (·.1)).zip vs)
      | none => none
    | _ => none
noncomputable def fin (keep : Bool) (b : Nat) (d : D) (hs : Hs) : Option (D × Hs) :=
  if keep then some (d, hs) else match frz hs b 20 d with
    | some d' => chk (∀ o ∈ hs.take b, LowO b o) (d', hs.take b)
    | none => none
noncomputable def callD (C : Cal) (L : Nat) (F : Fn) (ds : List D) (hs : Hs) : Option (D × Hs) :=
  if ds.length = F.np then match evSs C L F.body (ds.map some ++ List.replicate (F.nn - F.np) none) hs with
    | some (.rt d h) => fin F.keep hs.length d h
    | some (.nx _ h) => fin F.keep hs.length .non h
    | none => none
  else none
noncomputable def calls (fns : List Fn) (L : Nat) : Nat → Cal
  | 0 => fun _ _ _ => none
  | n + 1 => fun f ds hs => match fns[f]? with
    | some F => callD (calls fns L n) L F ds hs
    | none => none

section
variable {K : PySem.W.Frag} {m : Mp} {H : Hp} {hs : Hs}
/-- the store without what lies behind b -/
def Mp.cut (m : Mp) (b : Nat) : Mp := ⟨m.r.take b, m.x⟩
theorem cut_not {b : Nat} {a : Addr} (h : a ∉ m) : a ∉ m.cut b := fun z => h (z.elim (fun z => .inl (List.mem_of_mem_take z)) .inr)
theorem Fz.cut {b : Nat} {a : Addr} {u : HO} (h : Fz m H a u) : Fz (m.cut b) H a u := ⟨h.1, cut_not h.2⟩
theorem RH.outCut (h : RH K m H hs) {b k : Nat} {a : Addr} (e : m.r[k]? = some a) (hk : b ≤ k) : a ∉ m.cut b := fun z => by
  rcases z with z | z
  · obtain ⟨j, hj⟩ := List.getElem?_of_mem (show a ∈ m.r.take b from z)
    have hjb : j < b := by
      have := (List.getElem?_eq_some_iff.mp hj).1
      rw [List.length_take] at this
      omega
    rw [List.getElem?_take_of_lt hjb] at hj
    have := h.inj hj e
    omega
  · exact h.md a z (List.mem_of_getElem? e)
theorem zip_keys {κ : Type} {us : List (κ × V)} {kvs : List (κ × D)} {vs : List D} (e : us.map (·.1) = kvs.map (·.1)) (r : Reps K m H (us.map (·.2)) vs) : us.map (·.1) = (((kvs.map (·.1)).zip vs).map (·.1)) ∧ Reps K m H (us.map (·.2)) (((kvs.map (·.1)).zip vs).map (·.2)) := by
  have hl := r.length
  rw [List.length_map] at hl
  have hk : us.length = kvs.length := by simpa using congrArg List.length e
  have e1 : ((kvs.map (·.1)).zip vs).map (·.1) = kvs.map (·.1) := List.map_fst_zip (by rw [List.length_map]; omega)
  have e2 : ((kvs.map (·.1)).zip vs).map (·.2) = vs := List.map_snd_zip (by rw [List.length_map]; omega)
  rw [e1, e2]
  exact ⟨e, r⟩
mutual
theorem low_rep {b : Nat} : ∀ {v : V} {d : D}, Rep K m H v d → Low b d → Rep K (m.cut b) H v d
  | _, _, .non, _ => .non
  | _, _, .bl x, _ => .bl x
  | _, _, .int x, _ => .int x
  | _, _, .str x, _ => .str x
  | _, _, .scr s, _ => by
    refine .scr ?_
    rcases s with ⟨o, s⟩ | s
    · exact .inl ⟨o, s.cut⟩
    · exact .inr s
  | _, _, .tup f r, l => .tup f.cut (low_reps r (by cases l; assumption))
  | _, _, .lst f r, l => .lst f.cut (low_reps r (by cases l; assumption))
  | _, _, .dk f k r, l => .dk f.cut k (low_reps r (by
      cases l with
      | dk q =>
        intro x hx
        obtain ⟨p, hp, rfl⟩ := List.mem_map.mp hx
        exact q p hp))
  | _, _, .dt f k r, l => .dt f.cut k (low_reps r (by
      cases l with
      | dt q =>
        intro x hx
        obtain ⟨p, hp, rfl⟩ := List.mem_map.mp hx
        exact q p hp))
  | _, _, .ref em, l => by
    cases l with
    | ref hk => exact .ref (by show (m.r.take b)[_]? = _; rw [List.getElem?_take_of_lt hk]; exact em)
theorem low_reps {b : Nat} : ∀ {v : List V} {d : List D}, Reps K m H v d → (∀ x ∈ d, Low b x) → Reps K (m.cut b) H v d
  | _, _, .nil, _ => .nil
  | _, _, .cons a r, l => .cons (low_rep a (l _ List.mem_cons_self)) (low_reps r fun x hx => l x (List.mem_cons_of_mem _ hx))
end
theorem mapM_rep {b n : Nat} (ih : ∀ {v : V} {d d' : D}, Rep K m H v d → frz hs b n d = some d' → Rep K (m.cut b) H v d') : ∀ {v : List V} {d d' : List D}, Reps K m H v d → d.mapM (frz hs b n) = some d' → Reps K (m.cut b) H v d'
  | _, _, _, .nil, e => by
    simp at e
    subst e
    exact .nil
  | _, _, _, .cons a r, e => by
    simp only [List.mapM_cons, Option.bind_eq_bind, Option.pure_def] at e
    obtain ⟨p, e1, e⟩ := Option.bind_eq_some_iff.mp e
    obtain ⟨ps, e2, e⟩ := Option.bind_eq_some_iff.mp e
    cases e
    exact .cons (ih a e1) (mapM_rep ih r e2)
theorem frz_rep (h : RH K m H hs) (b : Nat) : ∀ (n : Nat) {v : V} {d d' : D}, Rep K m H v d → frz hs b n d = some d' → Rep K (m.cut b) H v d'
  | 0, v, d, d', r, e => by
    unfold frz at e
    by_cases hl : Low b d
    · rw [if_pos hl] at e
      cases e
      exact low_rep r hl
    · rw [if_neg hl] at e
      cases e
  | n + 1, v, d, d', r, e => by
    have ih := fun {v d d'} => @frz_rep h b n v d d'
    unfold frz at e
    by_cases hl : Low b d
    · rw [if_pos hl] at e
      cases e
      exact low_rep r hl
    · rw [if_neg hl] at e
      cases r with
      | tup f r =>
        obtain ⟨l, e1, rfl⟩ := Option.map_eq_some_iff.mp e
        exact .tup f.cut (mapM_rep ih r e1)
      | lst f r =>
        obtain ⟨l, e1, rfl⟩ := Option.map_eq_some_iff.mp e
        exact .lst f.cut (mapM_rep ih r e1)
      | dk f k r =>
        obtain ⟨l, e1, rfl⟩ := Option.map_eq_some_iff.mp e
        obtain ⟨z1, z2⟩ := zip_keys k (mapM_rep ih r e1)
        exact .dk f.cut z1 z2
      | dt f k r =>
        obtain ⟨l, e1, rfl⟩ := Option.map_eq_some_iff.mp e
        obtain ⟨z1, z2⟩ := zip_keys k (mapM_rep ih r e1)
        exact .dt f.cut z1 z2
      | @ref a k em =>
        have hk : b ≤ k := Nat.le_of_not_lt fun z => hl (.ref z)
        have hn := h.outCut em hk
        simp only at e
        split at e
        · rename_i xs he
          obtain ⟨a', e1, vs, e2, q⟩ := h.ob _ _ he
          rw [em] at e1
          cases e1
          obtain ⟨l, e3, rfl⟩ := Option.map_eq_some_iff.mp e
          exact .lst ⟨e2, hn⟩ (mapM_rep ih q e3)
        · rename_i xs he
          obtain ⟨a', e1, us, e2, ek, q⟩ := h.ob _ _ he
          rw [em] at e1
          cases e1
          obtain ⟨l, e3, rfl⟩ := Option.map_eq_some_iff.mp e
          obtain ⟨z1, z2⟩ := zip_keys ek (mapM_rep ih q e3)
          exact .dk ⟨e2, hn⟩ z1 z2
        · rename_i xs he
          obtain ⟨a', e1, us, e2, ek, q⟩ := h.ob _ _ he
          rw [em] at e1
          cases e1
          obtain ⟨l, e3, rfl⟩ := Option.map_eq_some_iff.mp e
          obtain ⟨z1, z2⟩ := zip_keys ek (mapM_rep ih q e3)
          exact .dt ⟨e2, hn⟩ z1 z2
        · cases e
      | _ => cases e
theorem RH.fin (h : RH K m H hs) {b : Nat} (hl : ∀ o ∈ hs.take b, LowO b o) : RH K (m.cut b) H (hs.take b) := by
  refine ⟨h.nd.sublist (List.take_sublist _ _), ?_, h.mt, fun a ha z => h.md a ha (List.mem_of_mem_take z), fun n o q => ?_⟩
  · show (m.r.take b).length = _
    rw [List.length_take, List.length_take, h.len]
  · have hn : n < b := by
      have := (List.getElem?_eq_some_iff.mp q).1
      rw [List.length_take] at this
      omega
    have lo := hl o (List.mem_of_getElem? q)
    rw [List.getElem?_take_of_lt hn] at q
    obtain ⟨a, e1, or⟩ := h.ob _ _ q
    refine ⟨a, by show (m.r.take b)[n]? = _; rw [List.getElem?_take_of_lt hn]; exact e1, ?_⟩
    have low2 : ∀ {κ : Type} {kvs : List (κ × D)}, (∀ p ∈ kvs, Low b p.2) → ∀ x ∈ kvs.map (·.2), Low b x := fun q x hx => by
      obtain ⟨p, hp, rfl⟩ := List.mem_map.mp hx
      exact q p hp
    cases o with
    | lst xs =>
      obtain ⟨vs, e2, r⟩ := or
      exact ⟨vs, e2, low_reps r lo⟩
    | dk kvs =>
      obtain ⟨us, e2, ek, r⟩ := or
      exact ⟨us, e2, ek, low_reps r (low2 lo)⟩
    | dt kvs =>
      obtain ⟨us, e2, ek, r⟩ := or
      exact ⟨us, e2, ek, low_reps r (low2 lo)⟩
theorem Go.cut {m1 : Mp} {H1 : Hp} {b : Nat} (g : Go m1 H1 m H) (hb : m1.r.length ≤ b) : Go m1 H1 (m.cut b) H where
  keep := fun a o e n => let ⟨e', n'⟩ := g.keep a o e n; ⟨e', cut_not n'⟩
  ref := fun n a e => by
    have hn : n < b := Nat.lt_of_lt_of_le (List.getElem?_eq_some_iff.mp e).1 hb
    show (m.r.take b)[n]? = _
    rw [List.getElem?_take_of_lt hn]
    exact g.ref n a e
  mx := g.mx
  mkeep := g.mkeep
/-- how a call ends -/
theorem fin_ok {m1 : Mp} {H1 : Hp} {hs1 : Hs} (r1 : RH K m1 H1 hs1) (g : Go m1 H1 m H) (h : RH K m H hs) {keep : Bool} {v : V} {d d' : D} {hs' : Hs} (w : Rep K m H v d) (e : fin keep hs1.length d hs = some (d', hs')) {Q : VK} (q : KN K m1 H1 d' hs' Q) : Q v H := by
  unfold fin at e
  cases keep with
  | true =>
    cases e
    exact q m v H g h w
  | false =>
    simp only [Bool.false_eq_true, if_false] at e
    split at e
    · rename_i d0 e1
      obtain ⟨e2, ez⟩ := chk_some e
      cases ez
      have hb : hs1.length ≤ hs.length := by
        rw [← r1.len, ← h.len]
        apply Nat.le_of_not_lt
        intro hlt
        have e3 := g.ref (m.r.length) (m1.r[m.r.length]) (List.getElem?_eq_getElem hlt)
        rw [List.getElem?_eq_none (Nat.le_refl _)] at e3
        cases e3
      exact q (m.cut hs1.length) v H (g.cut (by rw [r1.len]; exact Nat.le_refl _)) (h.fin e2) (frz_rep h _ _ w e1)
    · cases e
end
section
variable {P : Program} {w : World} {K : PySem.W.Frag} {mg : Str → Option Value} {base : Heap} {fns : List Fn} {L : Nat} {Γ : Nat → Option Str}
theorem re_start {m : Mp} {H : Hp} {N : List Str} {vs : List V} {ds : List D} (r : Reps K m H vs ds) : RE K m H (L2.start N vs) (ds.map some ++ List.replicate (N.length - ds.length) none) := by
  have hl := r.length
  refine ⟨by unfold L2.start; rw [List.length_append, List.length_append, List.length_map, List.length_map, List.length_replicate, List.length_replicate, hl], fun i d e => ?_⟩
  by_cases hi : i < ds.length
  · rw [List.getElem?_append_left (by rw [List.length_map]; exact hi), List.getElem?_map] at e
    obtain ⟨d0, e0, e1⟩ := Option.map_eq_some_iff.mp e
    cases e1
    obtain ⟨v, ev, rv⟩ := r.get e0
    refine ⟨v, ?_, rv⟩
    unfold L2.start
    rw [List.getElem?_append_left (by rw [List.length_map, hl]; exact hi), List.getElem?_map, ev]
    rfl
  · rw [List.getElem?_append_right (by rw [List.length_map]; omega), List.getElem?_replicate] at e
    split at e <;> cases e
/-- a def of the text -/
theorem gok_of {k i : Nat} {n : Nat} {Fd : Fn} {f : Addr} {name qual : Str} {params : Arguments} {body : List Stmt} {scope : Scope} {dV kV doc pm cdv ct oc : Value} {an od : Option Addr} {osl : Array (Option Value)} {N ps : List Str}
    (hF : fns[i]? = some Fd) (found : K.lookup f = some ⟨oc, od, .func (PySem.W.fnOf name qual params body scope dV kV doc pm an cdv ct), osl⟩) (hcd : PySem.W.codeIn K cdv qual = true) (S : FnScope N ps scope)
    (hbn : ∀ (s : Shared) (us : List Value), us.length = ps.length → BindsTo s (PySem.W.fnOf name qual params body scope dV kV doc pm an cdv ct) ⟨us, []⟩ (ps.zip us))
    (hnp : ps.length = Fd.np) (hnn : N.length = Fd.nn) (hm : mSs N Γ scope Fd.body body = true) (blt : ∀ x ∈ bNames, mg x = none)
    (call : ∀ g nm, Γ g = some nm → ∃ a, mg nm = some (.ref a) ∧ PySem.W.keepIn K (.ref a) = true ∧ GOk P w K mg base k a (spC K (calls fns L n) g)) :
    GOk P w K mg base (k + 1) f (spC K (calls fns L (n + 1)) i) := by
  refine ⟨fun A outer s H us vs Q hroom hgd e0 rv hsp => ?_⟩
  obtain ⟨m, hs, ds, d, hs', rh, rds, hC, kn⟩ := hsp
  simp only [calls, hF] at hC
  unfold callD at hC
  split at hC
  rotate_left
  · cases hC
  rename_i hdl
  have hvl : vs.length = ps.length := by rw [rds.length, hdl, hnp]
  have hul : us.length = ps.length := by rw [← rv.length]; exact hvl
  have inK : K.In s.heap := e0.mod.kin.keeps fun b o e => (e0.bs b o e).1
  have noLim : s.heap.NoLimit := e0.mod.nolimit.keeps fun b o e => (e0.bs b o e).1
  have kinds' : ∀ y ∈ ps.zip us, scope.names.lookup y.1 = some .local ∨ (scope.names.lookup y.1 = some .cell ∧ ((cellsFrom (s.heap.objs.size + 1) scope.names []).lookup y.1).isSome = true) := fun y hy => by
    rcases S.par y.1 (List.of_mem_zip (a := y.1) (b := y.2) hy).1 with q | q
    · exact .inl q
    · exact .inr ⟨q, PySem.W.cellsFrom_some _ _ _ (.inl q)⟩
  refine codeAny_call_function hroom.depth (inK _ _ found) rfl S.co S.gen rfl (PySem.W.codeRec_of inK hcd) (hbn s us hul _ _ _ _ ?_)
  refine wpAny_newFunctionEnv_cells S.kind kinds' fun env he s1 x => ?_
  subst he
  refine ⟨noLim.keeps x.toInCall.keep, codeAny_func ?_⟩
  have I0 := inv_start (CX := CX0) (P := P) (w := w) (K := K) (mg := mg) (base := base) (E := E0) S hroom.hd e0 hvl rv x
  generalize hX : cxOf CX0 P w K mg base N qual scope f cdv A outer s H E0 = X at I0
  have SX : SSta X.nox k N Γ scope (calls fns L n) := by
    subst hX
    exact { n := rfl, s := rfl, nd := S.nd, calm := rfl, room := hroom.deeper _, gd := hgd, blt := blt, call := call, own := fun x hx => ⟨own_of hx, .inl rfl⟩, hp := PassesOwn.never }
  have body' : PSs X body (tSr X.K (evSs (calls fns L n) L Fd.body)) := (sSs Fd.body SX hm).nox
  have hK : X.K = K := by subst hX; rfl
  have start' : RE K m H (L2.start N vs) (ds.map some ++ List.replicate (Fd.nn - Fd.np) none) := by
    have := re_start (N := N) rds
    rw [hdl, hnn] at this
    exact this
  have hq : tSr X.K (evSs (calls fns L n) L Fd.body) { nx := fun _ H' => Q .non H', rt := Q } (L2.start N vs) H := by
    rw [hK]
    cases hbd : evSs (calls fns L n) L Fd.body (ds.map some ++ List.replicate (Fd.nn - Fd.np) none) hs with
    | none => rw [hbd] at hC; cases hC
    | some fl =>
      rw [hbd] at hC
      refine ⟨m, _, hs, fl, start', rh, hbd, ?_⟩
      cases fl with
      | nx e2 h2 => exact fun m' σ' H' g re rh' => fin_ok rh g rh' .non hC kn
      | rt d2 h2 => exact fun m' v H' g rh' w' => fin_ok rh g rh' w' hC kn
  subst hX
  refine wpAny_mono (body'.run [] s1 (L2.start N vs) H _ I0 hq) (fun fl s' hend => ?_) fun e s' hend => hend
  have done : ∀ {σ' : L2.St} {H' : Hp} {v : V} {u : Value}, L2.Inv (cxOf CX0 P w K mg base N qual scope f cdv A outer s H E0) [] σ' H' s' → RelV v u → Q v H' → CE outer P w H s Q u s' :=
    fun {σ' H' v u} J rel q => ⟨v, H', J.os, J.bare, J.base, J.hok, rel, q⟩
  cases fl with
  | ret u =>
    obtain ⟨v, σ', H', J, rel, q⟩ := hend
    exact done J rel q
  | next =>
    obtain ⟨σ', H', J, q⟩ := hend
    exact done (v := V.non) (u := Value.none) J rfl q
  | brk =>
    obtain ⟨_, _, _, q⟩ := hend
    cases q
  | cont =>
    obtain ⟨_, _, _, q⟩ := hend
    cases q
end
end Z

set_option Elab.async false
set_option linter.all false
set_option maxRecDepth 100000
set_option maxHeartbeats 8000000
/-! Z17: the table of defs; the law's end -/
namespace Z
open PySem PySem.Spec PyProof.Rows L2
/-- what the text tells of a def -/
structure FnS (fns : List Fn) (Γ : Nat → Option Str) (i : Nat) (st : Stmt) (nm : Str) (N ps : List Str) : Prop where
  sc : FnScope N ps (defScope st)
  bd : ∀ (kV doc pm : Value) (an : Option Addr) (cdv ct : Value) (us : List Value), us.length = ps.length → bindArgs (PySem.W.fnOf nm nm (defArgs st) (defBody st) (defScope st) .none kV doc pm an cdv ct) ⟨us, []⟩ = pure (ps.zip us)
  fd : ∃ Fd, fns[i]? = some Fd ∧ ps.length = Fd.np ∧ N.length = Fd.nn ∧ mSs N Γ (defScope st) Fd.body (defBody st) = true
/-- what the top has written of it -/
def FnT (K : PySem.W.Frag) (nm : Str) (st : Stmt) (f : Addr) : Prop :=
  ∃ (oc : Value) (od an : Option Addr) (osl : Array (Option Value)) (kV doc pm cdv ct : Value), K.lookup f = some ⟨oc, od, .func (PySem.W.fnOf nm nm (defArgs st) (defBody st) (defScope st) .none kV doc pm an cdv ct), osl⟩ ∧ PySem.W.codeIn K cdv nm = true ∧ PySem.W.keepIn K (.ref f) = true
structure FnR (K : PySem.W.Frag) (mg : Str → Option Value) (fns : List Fn) (Γ : Nat → Option Str) (i : Nat) (nm : Str) : Prop where
  ex : ∃ (st : Stmt) (N ps : List Str) (f : Addr), FnS fns Γ i st nm N ps ∧ FnT K nm st f ∧ mg nm = some (.ref f)
theorem fnT_mk {K : PySem.W.Frag} {nm : Str} {st : Stmt} {f : Addr} {oc : Value} {od an : Option Addr} {osl : Array (Option Value)} {kV doc pm cdv ct : Value} (l : K.lookup f = some ⟨oc, od, .func (PySem.W.fnOf nm nm (defArgs st) (defBody st) (defScope st) .none kV doc pm an cdv ct), osl⟩)
    (c : PySem.W.codeIn K cdv nm = true) (k : PySem.W.keepIn K (.ref f) = true) : FnT K nm st f := ⟨oc, od, an, osl, kV, doc, pm, cdv, ct, l, c, k⟩
section
variable {P : Program} {w : World} {K : PySem.W.Frag} {mg : Str → Option Value} {base : Heap} {fns : List Fn} {L : Nat} {Γ : Nat → Option Str}
theorem all_gok (T : ∀ i nm, Γ i = some nm → FnR K mg fns Γ i nm) (blt : ∀ x ∈ bNames, mg x = none) :
    ∀ n i nm, Γ i = some nm → ∃ a, mg nm = some (.ref a) ∧ PySem.W.keepIn K (.ref a) = true ∧ GOk P w K mg base n a (spC K (calls fns L n) i)
  | 0, i, nm, h => by
    obtain ⟨st, N, ps, f, _, ⟨_, _, _, _, _, _, _, _, _, _, _, hk⟩, hm⟩ := (T i nm h).ex
    refine ⟨f, hm, hk, ⟨fun A outer s H us vs Q _ _ _ _ hsp => ?_⟩⟩
    obtain ⟨m, hs, ds, d, hs', _, _, hC, _⟩ := hsp
    cases hC
  | n + 1, i, nm, h => by
    obtain ⟨st, N, ps, f, hS, ⟨oc, od, an, osl, kV, doc, pm, cdv, ct, hl, hc, hk⟩, hm⟩ := (T i nm h).ex
    obtain ⟨Fd, h1, h2, h3, h4⟩ := hS.fd
    exact ⟨f, hm, hk, gok_of h1 hl hc hS.sc (fun s us hus => .of_eq (hS.bd kV doc pm an cdv ct us hus)) h2 h3 h4 blt (all_gok T blt n)⟩
/-- the law's call, at the heap behind the top -/
theorem law_run {mb : Str → Option Value} {k : Nat} {fa a : Addr} {sp : List V → Hp → VK → Prop} {t : Shared} {vs : List Value} {ns : List Int}
    (inK : K.In t.heap) (g0 : t.heap.Ns mainGlobals mg) (b0 : t.heap.Ns builtinsNs mb) (b1 : ∀ x : Str, x ≠ "__name__" → mb x = bootBuiltins x) (noLim : t.heap.NoLimit) (noGen : t.gens = #[])
    (at0 : t.heap.get? a = some { cls := .type "list", data := .seq vs.toArray }) (intsH : IntsAre vs ns) (few : ns.length ≤ sizeLine) (room : Room k callerA)
    (Fn : ∀ base : Heap, K.In base → base.Ns mainGlobals mg → GOk P w K mg base k fa sp) (hsp : ∀ H : Hp, Only H → SqL K H a (ns.map V.int) → sp [.ref a] H (fun v _ => v = .bl true)) :
    codeAny (model P w) callerA (.call (.ref fa) ⟨[.ref a], []⟩) (fun r t' => r = .ok (.ret (.bool true)) ∧ OldK t.heap t'.heap ∧ t'.os = t.os ∧ AllBare t'.gens) t := by
  have vals := vals_ints intsH
  have same := intsH.length
  have main : ∀ H : Hp, Only H → SqL K H a (ns.map V.int) → HOk P w H t.heap → (∀ b, H b ≠ none → b = a) → (H a ≠ none → K.lookup a = none) →
      codeAny (model P w) callerA (.call (.ref fa) ⟨[.ref a], []⟩) (fun r t' => r = .ok (.ret (.bool true)) ∧ OldK t.heap t'.heap ∧ t'.os = t.os ∧ AllBare t'.gens) t := by
    intro H only sq hok lone apart
    have low : ∀ {b : Addr} {o : Obj}, t.heap.get? b = some o → H b = none → (hidT t.heap H).get? b = some o := fun e n => hidT_get e n
    have free : ∀ {b : Addr} {o : Obj} {es : Array DictEntry} {ep : Nat}, t.heap.get? b = some o → o.data = .dict es ep → H b = none := fun {b o es ep} e dd => by
      cases q : H b with
      | none => rfl
      | some u =>
        obtain rfl : b = a := lone b (by rw [q]; simp)
        rw [at0] at e
        cases e
        have contra : Data.seq vs.toArray _ = Data.dict es ep := dd
        cases contra
    have ns' : ∀ {b : Addr} {m : Str → Option Value}, t.heap.Ns b m → (hidT t.heap H).Ns b m := fun {b m} ⟨o, es, ep, e, dd, r⟩ => ⟨o, es, ep, low e (free e dd), dd, r⟩
    have inB : K.In (hidT t.heap H) := fun b o e => low (inK b o e) (by
      cases q : H b with
      | none => rfl
      | some u =>
        obtain rfl : b = a := lone b (by rw [q]; simp)
        rw [apart (by rw [q]; simp)] at e
        cases e)
    have md : Mod K mg (hidT t.heap H) := ⟨inB, ns' g0, ⟨mb, ns' b0, b1⟩, let ⟨mc, q1, q2⟩ := noLim; ⟨mc, ns' q1, q2⟩⟩
    have entry : Env0 P w K mg (hidT t.heap H) callerA [] t H := ⟨rfl, md, fun b o e => of_hidT e, Nat.le_of_eq (hidT_size _ _), trivial, fun b hb => absurd (show b ∈ ([] : List Addr) from hb) (by simp), hok, .of_eq noGen⟩
    refine codeAny_mono ((Fn _ inB (ns' g0)).run callerA [] t H [.ref a] [.ref a] _ room rfl entry (.cons rfl .nil) (hsp H only sq)) fun r t' hr => ?_
    cases r with
    | error e => exact hr.elim
    | ok fl =>
      cases fl with
      | next => cases hr
      | brk => cases hr
      | cont => cases hr
      | ret u =>
        obtain ⟨v, H', os, bare, un, hok', rel, fin⟩ := hr
        obtain rfl : v = .bl true := fin
        obtain rfl : u = Value.bool true := rel
        refine ⟨rfl, OldK.of_keep fun b o e => ?_, os, bare⟩
        cases q : H b with
        | none => exact un.keep b o e q (by intro z; exact absurd (show b ∈ ([] : List Addr) from z) (by simp)) (by simp)
        | some u =>
          rcases only b with z | ⟨ob, xs, z⟩
          · rw [q] at z
            cases z
          · obtain ⟨e1, _⟩ := hok b _ z
            obtain ⟨e2, _⟩ := hok' b _ (un.frzs b ob _ z)
            rw [e] at e1
            cases e1
            exact e2
  cases own : K.lookup a with
  | some o =>
    have e := inK a o own
    rw [at0] at e
    cases e
    exact main (fun _ => none) (fun _ => .inl rfl) (.inr ⟨_, vs.toArray, _, own, rfl, rfl, rfl, by rw [List.size_toArray, same]; exact few, by simpa using vals⟩) (fun b u z => by cases (show (none : Option HO) = some u from z)) (fun b z => absurd rfl z) fun z => absurd rfl z
  | none =>
    have atA : (fun b => if b = a then some (HO.frz { cls := .type "list", data := .seq vs.toArray } (.lst (ns.map V.int))) else none) a = some (HO.frz { cls := .type "list", data := .seq vs.toArray } (.lst (ns.map V.int))) := if_pos rfl
    refine main (fun b => if b = a then some (.frz { cls := .type "list", data := .seq vs.toArray } (.lst (ns.map V.int))) else none) (fun b => ?_) (.inl (.inr ⟨{ cls := .type "list", data := .seq vs.toArray }, atA⟩)) (fun b u z => ?_) (fun b z => ?_) fun _ => own
    · by_cases hb : b = a
      · exact .inr ⟨_, _, if_pos hb⟩
      · exact .inl (if_neg hb)
    · by_cases hb : b = a
      · have z' := (if_pos hb).symm.trans z
        cases z'
        subst hb
        exact ⟨at0, by rw [List.length_map]; exact few, vs, _, vals, at0⟩
      · cases (if_neg hb).symm.trans z
    · by_cases hb : b = a
      · exact hb
      · exact absurd (if_neg hb) z
end
/-- the goal that the head leaves, from the evaluator's answer -/
theorem law_walk {l : PySem.W.OpenLaw} {n k i : Nat} {q : Program} {loose : List Str} {XP : (Str → Option Value) → Heap → Prop} {YP : World → Heap → Prop} {d : DefRec} {Kf : Params → PySem.W.Frag} {fns : List Fn} {L : Nat} {Γ : Nat → Option Str}
    (hn : l.most = some n) (hn2 : n ≤ sizeLine) (hdf : d.params.defaults = []) (room : Room k callerA) (hY : ∀ (w : World) (h : Heap), YP w h → (Kf w.params).In h) (hi : Γ i = some d.name)
    (T : ∀ (w : World) (mg : Str → Option Value) (h : Heap), (Kf w.params).In h → h.Ns mainGlobals mg → (∀ j nm, Γ j = some nm → FnR (Kf w.params) mg fns Γ j nm) ∧ ∀ x ∈ bNames, mg x = none)
    (ans : ∀ ns : List Int, ns.length ≤ n → ∃ hs', calls fns L k i [.scr ns] [] = some (.bl true, hs')) :
    PySem.W.WalkO q loose XP YP l.row.toRowW d [] (fun f vs => PySem.call f vs) := by
  refine Att.attach_call hn hdf fun w s₀ t mg mb fa o pm cd doc a vs ns G Y ho hd hcd hmg at0 intsH hlen noGen => ?_
  have inK := hY w _ Y
  obtain ⟨hT, hB⟩ := T w mg _ inK G.T.g
  refine law_run (k := k) (sp := spC (Kf w.params) (calls fns L k) i) inK G.T.g G.T.b G.T.builtins G.T.nolimit noGen at0 intsH (Nat.le_trans hlen hn2) room (fun base _ _ => ?_) fun H only sq => ?_
  · obtain ⟨a', e1, _, F⟩ := all_gok (P := l.prog) (w := w) (base := base) (L := L) hT hB k i d.name hi
    rw [hmg] at e1
    cases e1
    exact F
  · obtain ⟨hs', e⟩ := ans ns hlen
    refine ⟨⟨[], []⟩, [], [.scr ns], .bl true, hs', ⟨List.nodup_nil, rfl, fun a h => (by cases h), fun a h => (by cases h), fun n o h => (by simp at h)⟩, .cons (.scr ?_) .nil, e, fun m' v H' _ _ r => rep_bl r⟩
    rcases sq with sq | sq
    · rcases only a with z | ⟨ob, xs, z⟩
      · rcases sq with sq | ⟨o, sq⟩
        · rw [sq] at z
          cases z
        · rw [sq] at z
          cases z
      · rcases sq with sq | ⟨o, sq⟩
        · rw [sq] at z
          cases z
        · exact .inl ⟨o, sq, fun q => by rcases q with q | q <;> cases q⟩
    · exact .inr sq
end Z

set_option Elab.async false
set_option linter.all false
set_option maxRecDepth 100000
set_option maxHeartbeats 8000000
/-! Y1: reckoning with the evaluator -/
namespace Z
open PySem PySem.Spec PyProof.Rows L2
/-! ### what lies low -/
theorem low_ofList {b : Nat} {α : Type} {f : α → D} (h : ∀ a, Low b (f a)) (l : List α) : ∀ x ∈ l.map f, Low b x := fun x hx => by
  obtain ⟨a, _, rfl⟩ := List.mem_map.mp hx
  exact h a
theorem mapM_self {α : Type} {f : α → Option α} : ∀ {l : List α}, (∀ x ∈ l, f x = some x) → l.mapM f = some l
  | [], _ => rfl
  | x :: r, h => by
    simp only [List.mapM_cons, h x List.mem_cons_self, mapM_self fun y hy => h y (List.mem_cons_of_mem _ hy), Option.bind_eq_bind, Option.pure_def, Option.bind_some]
theorem frz_low {hs : Hs} {b n : Nat} {d : D} (h : Low b d) : frz hs b n d = some d := by
  cases n <;> (unfold frz; rw [if_pos h])
theorem frz_ref {hs : Hs} {b n k : Nat} {l : List D} (hk : b ≤ k) (e : hs[k]? = some (.lst l)) (h : ∀ x ∈ l, Low b x) : frz hs b (n + 1) (.ref k) = some (.lst l) := by
  unfold frz
  have hn : ¬ Low b (.ref k) := fun z => by
    cases z with
    | ref q => omega
  rw [if_neg hn]
  simp only [e, mapM_self fun x hx => frz_low (hs := hs) (n := n) (h x hx), Option.map_some]
theorem zip_self {α β : Type} : ∀ l : List (α × β), (l.map (·.1)).zip (l.map (·.2)) = l
  | [] => rfl
  | p :: r => by rw [List.map_cons, List.map_cons, List.zip_cons_cons, zip_self r]
theorem frz_refD {hs : Hs} {b n k : Nat} {l : List (Key × D)} (hk : b ≤ k) (e : hs[k]? = some (.dk l)) (h : ∀ x ∈ l, Low b x.2) : frz hs b (n + 1) (.ref k) = some (.dk l) := by
  unfold frz
  have hn : ¬ Low b (.ref k) := fun z => by
    cases z with
    | ref q => omega
  have hm : ∀ x ∈ l.map (·.2), frz hs b n x = some x := fun x hx => by
    obtain ⟨p, hp, rfl⟩ := List.mem_map.mp hx
    exact frz_low (h p hp)
  have hz := zip_self l
  rw [if_neg hn]
  simp only [e, mapM_self hm, Option.map_some, hz]
/-- the store is closed -/
def Cl (hs : Hs) : Prop := ∀ o ∈ hs, LowO hs.length o
theorem fin_ret {hs ext : Hs} {d d' : D} (hc : Cl hs) (h : frz (hs ++ ext) hs.length 20 d = some d') : fin false hs.length d (hs ++ ext) = some (d', hs) := by
  unfold fin
  rw [if_neg Bool.false_ne_true, h]
  simp only [List.take_left]
  exact chk_pos hc
theorem fin_low {hs ext : Hs} {d : D} (hc : Cl hs) (h : Low hs.length d) : fin false hs.length d (hs ++ ext) = some (d, hs) := fin_ret hc (frz_low h)
theorem fin_low0 {hs : Hs} {d : D} (hc : Cl hs) (h : Low hs.length d) : fin false hs.length d hs = some (d, hs) := by
  have := fin_low (ext := []) hc h
  rwa [List.append_nil] at this
/-- the store may have been written, but grew not over b -/
theorem fin_chg {hs hs' ext : Hs} {d d' : D} (hl : hs'.length = hs.length) (hc : Cl hs') (h : frz (hs' ++ ext) hs.length 20 d = some d') : fin false hs.length d (hs' ++ ext) = some (d', hs') := by
  rw [← hl] at h ⊢
  exact fin_ret hc h

/-! ### loops -/
theorem loopC_map {src : List D} {g : D → Hs → Option (Option D × Hs)} {h : Hs} (o : D → Option D) : ∀ {l : List D}, (∀ x ∈ l, g x h = some (o x, h)) → loopC (src, []) g l h = some (l.filterMap o, h)
  | [], _ => by
    simp only [loopC]
    exact chk_pos fun p hp => by cases hp
  | x :: r, hg => by
    have hk : chk (okSrc h (src, [])) () = some () := chk_pos fun p hp => by cases hp
    simp only [loopC, hk, hg x List.mem_cons_self, loopC_map o fun y hy => hg y (List.mem_cons_of_mem _ hy)]
    cases e : o x with
    | none => rw [List.filterMap_cons_none e]; rfl
    | some d => rw [List.filterMap_cons_some e]; rfl
/-- a comprehension whose turns leave the store as it is; with a ghost of the items -/
theorem loopC_ghost {α : Type} {src : List D} {g : D → Hs → Option (Option D × Hs)} {h : Hs} (enc : α → D) (o : α → Option D) : ∀ {l : List α}, (∀ x ∈ l, g (enc x) h = some (o x, h)) → loopC (src, []) g (l.map enc) h = some (l.filterMap o, h)
  | [], _ => by
    simp only [loopC, List.map_nil]
    exact chk_pos fun p hp => by cases hp
  | x :: r, hg => by
    have hk : chk (okSrc h (src, [])) () = some () := chk_pos fun p hp => by cases hp
    simp only [List.map_cons, loopC, hk, hg x List.mem_cons_self, loopC_ghost enc o fun y hy => hg y (List.mem_cons_of_mem _ hy)]
    cases e : o x with
    | none => rw [List.filterMap_cons_none e]; rfl
    | some d => rw [List.filterMap_cons_some e]; rfl
/-- by an invariant -/
theorem loopS_inv {src : Src} {g : D → Ev → Hs → Option Fl} (I : List D → Ev → Hs → Prop) (hok : ∀ l e h, I l e h → okSrc h src) (step : ∀ x r e h, I (x :: r) e h → ∃ e' h', g x e h = some (.nx e' h') ∧ I r e' h') :
    ∀ (l : List D) (e : Ev) (h : Hs), I l e h → ∃ e' h', loopS src g l e h = some (.nx e' h') ∧ I [] e' h'
  | [], e, h, hi => ⟨e, h, by simp only [loopS]; exact chk_pos (hok _ _ _ hi), hi⟩
  | x :: r, e, h, hi => by
    obtain ⟨e1, h1, q1, i1⟩ := step x r e h hi
    obtain ⟨e2, h2, q2, i2⟩ := loopS_inv I hok step r e1 h1 i1
    have hk : chk (okSrc h src) () = some () := chk_pos (hok _ _ _ hi)
    exact ⟨e2, h2, by simp only [loopS, hk, q1]; exact q2, i2⟩
theorem ok_nil {h : Hs} {l : List D} : okSrc h (l, []) := fun p hp => by cases hp
/-! ### comprehensions -/
section
variable {C : Cal} {elt : Ex} {tg : Tg} {it : Iter} {ifs : Exs} {own : List Nat} {e e2 : Ev} {h h1 h2 h3 h4 : Hs} {src : Src} {l : List D} {x d : D} {α : Type}
theorem ev_comp (hi : evI C it e h = some (src, h1)) (hl : loopC src (turnC C elt tg ifs own e) src.1 h1 = some (l, h2)) (hz : src.1.length ≤ sizeLine) : evE C (.comp elt tg it ifs own) e h = some (.lst l, h2) := by
  rw [evE, hi]
  show (match loopC src (turnC C elt tg ifs own e) src.1 h1 with
    | some (l, h2) => chk (src.1.length ≤ sizeLine) (D.lst l, h2)
    | none => none) = _
  rw [hl]
  exact chk_pos hz
theorem turn_all (q1 : evT C tg x (wipeD e own) h = some (e2, h1)) (q2 : evE C elt e2 h1 = some (d, h2)) : turnC C elt tg .nil own e x h = some (some d, h2) := by
  unfold turnC
  simp only [q1, evC, q2]
theorem turn_if {c : Ex} {b : Bool} (q1 : evT C tg x (wipeD e own) h = some (e2, h1)) (q2 : evE C c e2 h1 = some (.bl b, h2)) (q3 : b = true → evE C elt e2 h2 = some (d, h2)) : turnC C elt tg (.cons false c .nil) own e x h = some (if b = true then some d else none, h2) := by
  unfold turnC
  simp only [q1, evC, q2]
  cases b with
  | true =>
    simp only [q3 rfl]
    rfl
  | false => rfl
theorem ev_compF (enc : α → D) {xs : List α} (f : α → Option D) (hi : evI C it e h = some ((xs.map enc, []), h1)) (ht : ∀ x ∈ xs, turnC C elt tg ifs own e (enc x) h1 = some (f x, h1)) (hz : xs.length ≤ sizeLine) : evE C (.comp elt tg it ifs own) e h = some (.lst (xs.filterMap f), h1) :=
  ev_comp hi (loopC_ghost enc f ht) (by rw [List.length_map]; exact hz)
theorem fm_map {β : Type} (g : α → β) (xs : List α) : xs.filterMap (fun x => some (g x)) = xs.map g := by
  induction xs with
  | nil => rfl
  | cons x r ih => rw [List.map_cons, ← ih]; rfl
theorem ev_compA (enc : α → D) {xs : List α} (g : α → D) (hi : evI C it e h = some ((xs.map enc, []), h1)) (ht : ∀ x ∈ xs, turnC C elt tg ifs own e (enc x) h1 = some (some (g x), h1)) (hz : xs.length ≤ sizeLine) : evE C (.comp elt tg it ifs own) e h = some (.lst (xs.map g), h1) := by
  have := ev_compF enc (fun x => some (g x)) hi ht hz
  rwa [fm_map] at this
/-- for .. in ..: by an invariant -/
theorem sx_for {L : Nat} {b : Sms} (hi : evI C it e h = some (src, h1)) (I : List D → Ev → Hs → Prop) (hok : ∀ l e h, I l e h → okSrc h src) (h0 : I src.1 e h1)
    (step : ∀ x r e h, I (x :: r) e h → ∃ e1 h1 e' h', evT C tg x e h = some (e1, h1) ∧ evSs C L b e1 h1 = some (.nx e' h') ∧ I r e' h') : ∃ e' h', evS C L (.forr tg it b) e h = some (.nx e' h') ∧ I [] e' h' := by
  obtain ⟨e', h', q, hI⟩ := loopS_inv (src := src) (g := fun x e h => match evT C tg x e h with
    | some (e', h') => evSs C L b e' h'
    | none => none) I hok (fun x r e h hx => by
      obtain ⟨e1, h1, e', h', q1, q2, q3⟩ := step x r e h hx
      exact ⟨e', h', by simp only [q1, q2], q3⟩) src.1 e h1 h0
  refine ⟨e', h', ?_, hI⟩
  rw [evS, hi]
  exact q
end
/-! ### statements, step by step -/
section
variable {C : Cal} {L : Nat} {e e' : Ev} {h h' h1 h2 : Hs} {d : D} {a c : Ex} {r : Sms} {st : Sm} {x : Option Fl}
theorem sx_next (q1 : evS C L st e h = some (.nx e' h')) (q2 : evSs C L r e' h' = x) : evSs C L (.cons st r) e h = x := by
  simp only [evSs, q1]
  exact q2
theorem sx_stop (q1 : evS C L st e h = some (.rt d h')) : evSs C L (.cons st r) e h = some (.rt d h') := by
  simp only [evSs, q1]
theorem sx_ret (q : evE C a e h = some (d, h')) : evSs C L (.cons (.ret a) r) e h = some (.rt d h') := sx_stop (by simp only [evS, q, Option.map_some])
theorem sx_asg {tg : Tg} (q1 : evE C a e h = some (d, h1)) (q2 : evT C tg d e h1 = some (e', h2)) : evS C L (.asg tg a) e h = some (.nx e' h2) := by
  simp only [evS, q1, q2, Option.map_some]
theorem sx_set {i : Nat} (q1 : evE C a e h = some (d, h1)) : evS C L (.asg (.nm i) a) e h = some (.nx (e.set i (some d)) h1) := sx_asg q1 (by simp only [evT])
theorem sx_par {is : List Nat} {es : Exs} {ds : List D} (q : evA C es e h = some (ds, h1)) (hl : ds.length = is.length) : evS C L (.par is es) e h = some (.nx (setsD e is ds) h1) := by
  simp only [evS, q, hl, if_true]
theorem sx_expr (q : evE C a e h = some (d, h1)) : evS C L (.expr a) e h = some (.nx e h1) := by
  simp only [evS, q, Option.map_some]
theorem sx_t {b1 b2 : Sms} (q : evE C c e h = some (.bl true, h1)) (q2 : evSs C L b1 e h1 = x) : evS C L (.iff c b1 b2) e h = x := by
  simp only [evS, q]
  exact q2
theorem sx_f {b1 b2 : Sms} (q : evE C c e h = some (.bl false, h1)) (q2 : evSs C L b2 e h1 = x) : evS C L (.iff c b1 b2) e h = x := by
  simp only [evS, q]
  exact q2
theorem sx_nil : evSs C L .nil e h = some (.nx e h) := by simp only [evSs]
theorem callD_eq {F : Fn} {ds : List D} {hs h' : Hs} {d : D} (hl : ds.length = F.np) (h : evSs C L F.body (ds.map some ++ List.replicate (F.nn - F.np) none) hs = some (.rt d h')) : callD C L F ds hs = fin F.keep hs.length d h' := by
  unfold callD
  rw [if_pos hl, h]
end
/-! ### the script's source -/
structure Sc where
  cells : List Int
  left : Int
  mixed : Int
  turn : Int
def kS (s : String) : Key := .inr (Str.ofString s)
def Sc.kv (s : Sc) : List (Key × D) := [(kS "cells", .ref 0), (kS "left", .int s.left), (kS "mixed", .int s.mixed), (kS "turn", .int s.turn)]
def Sc.hs (s : Sc) (rest : Hs) : Hs := .lst (s.cells.map .int) :: .dk s.kv :: rest
theorem look_cells (s : Sc) : look s.kv (kS "cells") = some (.ref 0) := by rfl
theorem look_left (s : Sc) : look s.kv (kS "left") = some (.int s.left) := by rfl
theorem look_mixed (s : Sc) : look s.kv (kS "mixed") = some (.int s.mixed) := by rfl
theorem look_turn (s : Sc) : look s.kv (kS "turn") = some (.int s.turn) := by rfl
theorem put_left (s : Sc) (v : Int) : put s.kv (kS "left") (.int v) = ({ s with left := v } : Sc).kv := by rfl
theorem put_mixed (s : Sc) (v : Int) : put s.kv (kS "mixed") (.int v) = ({ s with mixed := v } : Sc).kv := by rfl
theorem put_turn (s : Sc) (v : Int) : put s.kv (kS "turn") (.int v) = ({ s with turn := v } : Sc).kv := by rfl
end Z

set_option Elab.async false
set_option linter.all false
set_option maxRecDepth 100000
set_option maxHeartbeats 8000000
/-! X1: what an evaluation asks for, forwards -/
namespace Z
open PySem PySem.Spec PyProof.Rows L2
def wO {α : Type} (o : Option α) (Q : α → Prop) : Prop := ∃ a, o = some a ∧ Q a
section
variable {α β : Type} {o o' : Option α} {Q : α → Prop}
theorem wO_congr (h : o = o') : wO o Q = wO o' Q := by rw [h]
theorem wO_of {a : α} (h : o = some a) (q : Q a) : wO o Q := ⟨a, h, q⟩
theorem wO_some {a : α} : wO (some a) Q = Q a := by
  unfold wO
  apply propext
  constructor
  · rintro ⟨_, h, q⟩
    cases h
    exact q
  · exact fun q => ⟨a, rfl, q⟩
theorem wO_none : wO (none : Option α) Q = False := by
  unfold wO
  apply propext
  constructor
  · rintro ⟨_, h, _⟩
    cases h
  · exact False.elim
theorem wO_map {f : β → α} {o : Option β} : wO (o.map f) Q = wO o fun a => Q (f a) := by
  cases o with
  | none => rw [Option.map_none, wO_none, wO_none]
  | some a => rw [Option.map_some, wO_some, wO_some]
theorem wO_bind {f : β → Option α} {o : Option β} : wO (o.bind f) Q = wO o fun a => wO (f a) Q := by
  cases o with
  | none => rw [Option.bind_none, wO_none, wO_none]
  | some a => rw [Option.bind_some, wO_some]
theorem wO_chk {c : Prop} {a : α} : wO (chk c a) Q = (c ∧ Q a) := by
  by_cases h : c
  · rw [chk_pos h, wO_some]
    exact propext ⟨fun q => ⟨h, q⟩, fun q => q.2⟩
  · have : chk c a = none := by unfold chk; rw [if_neg h]
    rw [this, wO_none]
    exact propext ⟨False.elim, fun q => h q.1⟩
theorem wO_mono {Q' : α → Prop} (h : wO o Q) (q : ∀ a, Q a → Q' a) : wO o Q' := let ⟨a, e, x⟩ := h; ⟨a, e, q a x⟩
end
/-! ### environments -/
def wV : Ev → Nat → (D → Prop) → Prop
  | some d :: _, 0, Q => Q d
  | none :: _, 0, _ => False
  | _ :: e, i + 1, Q => wV e i Q
  | [], _, _ => False
theorem wV_0 {d : D} {e : Ev} {Q : D → Prop} : wV (some d :: e) 0 Q = Q d := rfl
theorem wV_s {d : Option D} {e : Ev} {i : Nat} {Q : D → Prop} : wV (d :: e) (i + 1) Q = wV e i Q := by cases d <;> rfl
def wX : Ev → Nat → Option D → (Ev → Prop) → Prop
  | _ :: e, 0, d, Q => Q (d :: e)
  | x :: e, i + 1, d, Q => wX e i d fun e' => Q (x :: e')
  | [], _, _, Q => Q []
theorem wX_0 {x d : Option D} {e : Ev} {Q : Ev → Prop} : wX (x :: e) 0 d Q = Q (d :: e) := rfl
theorem wX_s {x d : Option D} {e : Ev} {i : Nat} {Q : Ev → Prop} : wX (x :: e) (i + 1) d Q = wX e i d fun e' => Q (x :: e') := rfl
theorem wX_eq {d : Option D} : ∀ {e : Ev} {i : Nat} {Q : Ev → Prop}, wX e i d Q = Q (e.set i d)
  | [], _, _ => rfl
  | x :: e, 0, _ => rfl
  | x :: e, i + 1, Q => by rw [wX_s, wX_eq]; rfl
def wW (e : Ev) (is : List Nat) (Q : Ev → Prop) : Prop := Q (wipeD e is)
theorem wW_nil {e : Ev} {Q : Ev → Prop} : wW e [] Q = Q e := rfl
theorem wW_cons {e : Ev} {i : Nat} {is : List Nat} {Q : Ev → Prop} : wW e (i :: is) Q = wW e is fun e' => wX e' i none Q := by
  unfold wW
  simp only [wX_eq]
  rfl
def wP (e : Ev) (is : List Nat) (ds : List D) (Q : Ev → Prop) : Prop := ds.length = is.length ∧ Q (setsD e is ds)
theorem wP_nil {e : Ev} {Q : Ev → Prop} : wP e [] [] Q = Q e := by
  unfold wP setsD
  exact propext ⟨fun q => q.2, fun q => ⟨rfl, q⟩⟩
theorem wP_cons {e : Ev} {i : Nat} {is : List Nat} {d : D} {ds : List D} {Q : Ev → Prop} : wP e (i :: is) (d :: ds) Q = wX e i (some d) fun e' => wP e' is ds Q := by
  rw [wX_eq]
  unfold wP
  rw [List.length_cons, List.length_cons]
  show (_ ∧ Q (setsD (e.set i (some d)) is ds)) = _
  exact propext ⟨fun q => ⟨by omega, q.2⟩, fun q => ⟨by omega, q.2⟩⟩
/-! ### ways of a value -/
def wBl : D → (Bool → Prop) → Prop
  | .bl b, Q => Q b
  | _, _ => False
theorem wBl_b {b : Bool} {Q : Bool → Prop} : wBl (.bl b) Q = Q b := rfl
def wIn : D → (Int → Prop) → Prop
  | .int b, Q => Q b
  | _, _ => False
theorem wIn_i {b : Int} {Q : Int → Prop} : wIn (.int b) Q = Q b := rfl
abbrev QE := D → Hs → Prop
/-- two ways on -/
def wIte (p : Bool) (A B : QE → Prop) (Q : QE) : Prop := if p = true then A Q else B Q
section
variable {p p' : Bool} {A B : QE → Prop} {Q : QE}
theorem wIte_congr (h : p = p') : wIte p A B Q = wIte p' A B Q := by rw [h]
theorem wIte_t : wIte true A B Q = A Q := rfl
theorem wIte_f : wIte false A B Q = B Q := rfl
theorem wIte_split (h1 : p = true → A Q) (h2 : p = false → B Q) : wIte p A B Q := by cases p with
  | true => exact h1 rfl
  | false => exact h2 rfl
end
def wIs (p : Bool) (A B : (Ev → Hs → Prop) → QE → Prop) (N : Ev → Hs → Prop) (R : QE) : Prop := if p = true then A N R else B N R
section
variable {p p' : Bool} {A B : (Ev → Hs → Prop) → QE → Prop} {N : Ev → Hs → Prop} {R : QE}
theorem wIs_congr (h : p = p') : wIs p A B N R = wIs p' A B N R := by rw [h]
theorem wIs_t : wIs true A B N R = A N R := rfl
theorem wIs_f : wIs false A B N R = B N R := rfl
theorem wIs_split (h1 : p = true → A N R) (h2 : p = false → B N R) : wIs p A B N R := by cases p with
  | true => exact h1 rfl
  | false => exact h2 rfl
end
section
variable (C : Cal) (L : Nat)
def wE (a : Ex) (e : Ev) (h : Hs) (Q : QE) : Prop := wO (evE C a e h) fun r => Q r.1 r.2
def wA (es : Exs) (e : Ev) (h : Hs) (Q : List D → Hs → Prop) : Prop := wO (evA C es e h) fun r => Q r.1 r.2
def wB (isAnd : Bool) (es : Exs) (e : Ev) (h : Hs) (Q : QE) : Prop := wO (evB C isAnd es e h) fun r => Q r.1 r.2
def wC (es : Exs) (e : Ev) (h : Hs) (Q : Bool → Hs → Prop) : Prop := wO (evC C es e h) fun r => Q r.1 r.2
def wT (t : Tg) (d : D) (e : Ev) (h : Hs) (Q : Ev → Hs → Prop) : Prop := wO (evT C t d e h) fun r => Q r.1 r.2
def wTs (t : Tgs) (d : List D) (e : Ev) (h : Hs) (Q : Ev → Hs → Prop) : Prop := wO (evTs C t d e h) fun r => Q r.1 r.2
def wI (it : Iter) (e : Ev) (h : Hs) (Q : Src → Hs → Prop) : Prop := wO (evI C it e h) fun r => Q r.1 r.2
def flK (N : Ev → Hs → Prop) (R : QE) : Fl → Prop
  | .nx e h => N e h
  | .rt d h => R d h
def wS (s : Sm) (e : Ev) (h : Hs) (N : Ev → Hs → Prop) (R : QE) : Prop := wO (evS C L s e h) (flK N R)
def wSs (b : Sms) (e : Ev) (h : Hs) (N : Ev → Hs → Prop) (R : QE) : Prop := wO (evSs C L b e h) (flK N R)
def wFor (src : Src) (tg : Tg) (b : Sms) (l : List D) (e : Ev) (h : Hs) (N : Ev → Hs → Prop) (R : QE) : Prop := wO (loopS src (fun x e h => match evT C tg x e h with
      | some (e', h') => evSs C L b e' h'
      | none => none) l e h) (flK N R)
def wWhl (c : Ex) (b : Sms) (n : Nat) (e : Ev) (h : Hs) (N : Ev → Hs → Prop) (R : QE) : Prop := wO (loopW (fun e h => match evE C c e h with
    | some (.bl b, h') => some (b, h')
    | _ => none) (evSs C L b) n e h) (flK N R)
def wComp (elt : Ex) (tg : Tg) (ifs : Exs) (own : List Nat) (src : Src) (e : Ev) (h : Hs) (Q : List D → Hs → Prop) : Prop := wO (loopC src (turnC C elt tg ifs own e) src.1 h) fun r => Q r.1 r.2
end
theorem wFor_congr {C : Cal} {L : Nat} {src : Src} {tg : Tg} {b : Sms} {l l' : List D} {e : Ev} {h : Hs} {N : Ev → Hs → Prop} {R : QE} (hl : l = l') : wFor C L src tg b l e h N R = wFor C L src tg b l' e h N R := by rw [hl]
theorem wWhl_congr {C : Cal} {L : Nat} {c : Ex} {b : Sms} {n n' : Nat} {e : Ev} {h : Hs} {N : Ev → Hs → Prop} {R : QE} (hl : n = n') : wWhl C L c b n e h N R = wWhl C L c b n' e h N R := by rw [hl]
theorem wComp_congr {C : Cal} {elt : Ex} {tg : Tg} {ifs : Exs} {own : List Nat} {src src' : Src} {e : Ev} {h : Hs} {Q : List D → Hs → Prop} (hl : src = src') : wComp C elt tg ifs own src e h Q = wComp C elt tg ifs own src' e h Q := by rw [hl]
section
variable {C : Cal} {L : Nat} {a b c o i : Ex} {es r : Exs} {e : Ev} {h : Hs} {Q : QE} {N : Ev → Hs → Prop} {R : QE}
theorem wE_nm {i : Nat} : wE C (.nm i) e h Q = wV e i fun d => Q d h := by
  unfold wE
  induction e generalizing i with
  | nil => simp only [evE, List.getElem?_nil, wO_none]; rfl
  | cons x e ih =>
    cases i with
    | zero =>
      cases x with
      | none => simp only [evE, List.getElem?_cons_zero, wO_none]; rfl
      | some d => simp only [evE, List.getElem?_cons_zero, wO_some, wV_0]
    | succ i =>
      rw [wV_s, ← ih]
      simp only [evE, List.getElem?_cons_succ]
theorem wE_non : wE C .lnon e h Q = Q .non h := by unfold wE; simp only [evE, wO_some]
theorem wE_lbl {x : Bool} : wE C (.lbl x) e h Q = Q (.bl x) h := by unfold wE; simp only [evE, wO_some]
theorem wE_int {x : Int} : wE C (.lint x) e h Q = Q (.int x) h := by unfold wE; simp only [evE, wO_some]
theorem wE_str {x : Str} : wE C (.lstr x) e h Q = Q (.str x) h := by unfold wE; simp only [evE, wO_some]
theorem wE_tup : wE C (.tup es) e h Q = wA C es e h fun ds h' => ds.length ≤ sizeLine ∧ Q (.tup ds) h' := by
  unfold wE wA
  rw [evE]
  cases evA C es e h with
  | none => rw [wO_none, wO_none]
  | some p => rw [wO_some]; exact wO_chk
theorem wE_lst : wE C (.lst es) e h Q = wA C es e h fun ds h' => ds.length ≤ sizeLine ∧ Q (.lst ds) h' := by
  unfold wE wA
  rw [evE]
  cases evA C es e h with
  | none => rw [wO_none, wO_none]
  | some p => rw [wO_some]; exact wO_chk
/-- a display without a star, not long -/
def plain : Exs → Nat → Bool
  | .nil, _ => true
  | .cons s _ r, n + 1 => !s && plain r n
  | .cons _ _ _, 0 => false
theorem plain_len : ∀ {es : Exs} {n : Nat} {e : Ev} {h h' : Hs} {ds : List D}, plain es n = true → evA C es e h = some (ds, h') → ds.length ≤ n
  | .nil, n, e, h, h', ds, _, q => by
    simp only [evA, Option.some.injEq, Prod.mk.injEq] at q
    rw [← q.1]
    exact Nat.zero_le _
  | .cons s a r, 0, e, h, h', ds, p, q => by cases p
  | .cons s a r, n + 1, e, h, h', ds, p, q => by
    simp only [plain, Bool.and_eq_true, Bool.not_eq_true'] at p
    rw [evA, p.1] at q
    cases q1 : evE C a e h with
    | none => rw [q1] at q; cases q
    | some x =>
      rw [q1] at q
      simp only [Bool.false_eq_true, if_false] at q
      cases q2 : evA C r e x.2 with
      | none => rw [q2] at q; cases q
      | some y =>
        rw [q2] at q
        simp only [Option.some.injEq, Prod.mk.injEq] at q
        rw [← q.1, List.length_append, List.length_singleton]
        have := plain_len (es := r) (e := e) (h := x.2) (ds := y.1) (h' := y.2) p.2 q2
        omega
theorem wA_plain {n : Nat} {Q : List D → Hs → Prop} (p : plain es n = true) (hn : n ≤ sizeLine) : (wA C es e h fun ds h' => ds.length ≤ sizeLine ∧ Q ds h') = wA C es e h Q := by
  unfold wA
  apply propext
  constructor
  · exact fun x => wO_mono x fun _ q => q.2
  · rintro ⟨x, q1, q2⟩
    exact ⟨x, q1, Nat.le_trans (plain_len p q1) hn, q2⟩
theorem fits15 : 15 ≤ sizeLine := by
  have := sizeLine_eq
  omega
theorem wE_tupP (p : plain es 15 = true) : wE C (.tup es) e h Q = wA C es e h fun ds h' => Q (.tup ds) h' := by rw [wE_tup, wA_plain (Q := fun ds h' => Q (.tup ds) h') p fits15]
theorem wE_lstP (p : plain es 15 = true) : wE C (.lst es) e h Q = wA C es e h fun ds h' => Q (.lst ds) h' := by rw [wE_lst, wA_plain (Q := fun ds h' => Q (.lst ds) h') p fits15]
theorem wA_nil {Q : List D → Hs → Prop} : wA C .nil e h Q = Q [] h := by unfold wA; simp only [evA, wO_some]
theorem wA_cons {Q : List D → Hs → Prop} : wA C (.cons false a r) e h Q = wE C a e h fun x h1 => wA C r e h1 fun xs h2 => Q (x :: xs) h2 := by
  unfold wA wE
  rw [evA]
  cases evE C a e h with
  | none => rw [wO_none, wO_none]
  | some p =>
    rw [wO_some]
    simp only [Bool.false_eq_true, if_false]
    cases evA C r e p.2 with
    | none => simp only [wO_none]
    | some q => simp only [wO_some]; rfl
theorem wA_star {Q : List D → Hs → Prop} : wA C (.cons true a r) e h Q = wE C a e h fun x h1 => wO (getS h1 x) fun l => wA C r e h1 fun xs h2 => Q (l ++ xs) h2 := by
  unfold wA wE
  rw [evA]
  cases evE C a e h with
  | none => rw [wO_none, wO_none]
  | some p =>
    rw [wO_some]
    simp only [if_true]
    cases getS p.2 p.1 with
    | none => simp only [wO_none]
    | some l =>
      simp only [wO_some]
      cases evA C r e p.2 with
      | none => simp only [wO_none]
      | some q => simp only [wO_some]
theorem wE_bin {op : Bop} : wE C (.bin op a b) e h Q = wE C a e h fun x h1 => wE C b e h1 fun y h2 => wO (binD h2 op x y) fun d => Q d h2 := by
  unfold wE
  rw [evE]
  cases evE C a e h with
  | none => rw [wO_none, wO_none]
  | some p =>
    rw [wO_some]
    simp only
    cases evE C b e p.2 with
    | none => rw [wO_none, wO_none]
    | some q => rw [wO_some]; exact wO_map
theorem wE_neg : wE C (.neg a) e h Q = wE C a e h fun x h1 => wIn x fun i => Q (.int (-i)) h1 := by
  unfold wE
  rw [evE]
  rcases evE C a e h with _ | ⟨x, h1⟩
  · rw [wO_none, wO_none]
  · rw [wO_some]
    cases x <;> simp only [wO_some, wO_none, wIn]
theorem wE_nt : wE C (.nt a) e h Q = wE C a e h fun x h1 => wBl x fun i => Q (.bl (!i)) h1 := by
  unfold wE
  rw [evE]
  rcases evE C a e h with _ | ⟨x, h1⟩
  · rw [wO_none, wO_none]
  · rw [wO_some]
    cases x <;> simp only [wO_some, wO_none, wBl]
theorem wB_one {s isAnd : Bool} : wB C isAnd (.cons s a .nil) e h Q = wE C a e h Q := by unfold wB wE; rw [evB]
theorem wE_and : wE C (.bool true a r) e h Q = wE C a e h fun x h1 => wBl x fun p => wIte p (fun Q => wB C true r e h1 Q) (fun Q => Q (.bl false) h1) Q := by
  unfold wE wB
  rw [evE]
  rcases evE C a e h with _ | ⟨x, h1⟩
  · rw [wO_none, wO_none]
  · rw [wO_some]
    cases x with
    | bl b =>
      cases b with
      | true => rfl
      | false => simp only [wBl, wIte_f, Bool.false_eq_true, if_false, wO_some]
    | _ => simp only [wO_none, wBl]
theorem wE_or : wE C (.bool false a r) e h Q = wE C a e h fun x h1 => wBl x fun p => wIte p (fun Q => Q (.bl true) h1) (fun Q => wB C false r e h1 Q) Q := by
  unfold wE wB
  rw [evE]
  rcases evE C a e h with _ | ⟨x, h1⟩
  · rw [wO_none, wO_none]
  · rw [wO_some]
    cases x with
    | bl b =>
      cases b with
      | false => rfl
      | true => simp only [wBl, wIte_t, Bool.true_eq_false, if_false, wO_some]
    | _ => simp only [wO_none, wBl]
theorem wB_and {s s2 : Bool} {a2 : Ex} {r2 : Exs} : wB C true (.cons s a (.cons s2 a2 r2)) e h Q = wE C a e h fun x h1 => wBl x fun p => wIte p (fun Q => wB C true (.cons s2 a2 r2) e h1 Q) (fun Q => Q (.bl false) h1) Q := by
  unfold wE wB
  rw [evB]
  rcases evE C a e h with _ | ⟨x, h1⟩
  · rw [wO_none, wO_none]
  · rw [wO_some]
    cases x with
    | bl b =>
      cases b with
      | true => rfl
      | false => simp only [wBl, wIte_f, Bool.false_eq_true, if_false, wO_some]
    | _ => simp only [wO_none, wBl]
  · rintro ⟨⟩
theorem wB_or {s s2 : Bool} {a2 : Ex} {r2 : Exs} : wB C false (.cons s a (.cons s2 a2 r2)) e h Q = wE C a e h fun x h1 => wBl x fun p => wIte p (fun Q => Q (.bl true) h1) (fun Q => wB C false (.cons s2 a2 r2) e h1 Q) Q := by
  unfold wE wB
  rw [evB]
  rcases evE C a e h with _ | ⟨x, h1⟩
  · rw [wO_none, wO_none]
  · rw [wO_some]
    cases x with
    | bl b =>
      cases b with
      | false => rfl
      | true => simp only [wBl, wIte_t, Bool.true_eq_false, if_false, wO_some]
    | _ => simp only [wO_none, wBl]
  · rintro ⟨⟩
theorem wE_cmp {op : Cop} : wE C (.cmp op a b) e h Q = wE C a e h fun x h1 => wE C b e h1 fun y h2 => wO (cmpD h2 op x y) fun d => Q (.bl d) h2 := by
  unfold wE
  rw [evE]
  cases evE C a e h with
  | none => rw [wO_none, wO_none]
  | some p =>
    rw [wO_some]
    simp only
    cases evE C b e p.2 with
    | none => rw [wO_none, wO_none]
    | some q => rw [wO_some]; exact wO_map
theorem wE_cmp2 {op op' : Cop} : wE C (.cmp2 op op' a b c) e h Q = wE C a e h fun x h1 => wE C b e h1 fun y h2 => wO (cmpD h2 op x y) fun p => wIte p (fun Q => wE C c e h2 fun z h3 => wO (cmpD h3 op' y z) fun d => Q (.bl d) h3) (fun Q => Q (.bl false) h2) Q := by
  unfold wE
  rw [evE]
  cases evE C a e h with
  | none => rw [wO_none, wO_none]
  | some p =>
    rw [wO_some]
    simp only
    cases evE C b e p.2 with
    | none => rw [wO_none, wO_none]
    | some q =>
      rw [wO_some]
      simp only
      rcases cmpD q.2 op p.1 q.1 with _ | x
      · rw [wO_none, wO_none]
      · rw [wO_some]
        cases x with
        | false => simp only [wIte_f, wO_some]
        | true =>
          simp only [wIte_t]
          cases evE C c e q.2 with
          | none => rw [wO_none, wO_none]
          | some z => rw [wO_some]; exact wO_map
theorem wE_ife : wE C (.ife c a b) e h Q = wE C c e h fun x h1 => wBl x fun p => wIte p (fun Q => wE C a e h1 Q) (fun Q => wE C b e h1 Q) Q := by
  unfold wE
  rw [evE]
  rcases evE C c e h with _ | ⟨x, h1⟩
  · rw [wO_none, wO_none]
  · rw [wO_some]
    cases x with
    | bl b => cases b <;> rfl
    | _ => simp only [wO_none, wBl]
theorem wE_call {f : Nat} : wE C (.call f es) e h Q = wA C es e h fun ds h1 => wO (C f ds h1) fun r => Q r.1 r.2 := by
  unfold wE wA
  rw [evE]
  cases evA C es e h with
  | none => rw [wO_none, wO_none]
  | some p => rw [wO_some]
theorem wE_bi {f : Bi} : wE C (.bi f es) e h Q = wA C es e h fun ds h1 => wO (biD h1 f ds) fun d => Q d h1 := by
  unfold wE wA
  rw [evE]
  cases evA C es e h with
  | none => rw [wO_none, wO_none]
  | some p => rw [wO_some]; exact wO_map
theorem wE_mth {m : Mt} : wE C (.mth m o es) e h Q = wE C o e h fun x h1 => mokD h1 m x = true ∧ wA C es e h1 fun ds h2 => wO (mthD h2 m x ds) fun r => Q r.1 r.2 := by
  unfold wE wA
  rw [evE]
  cases evE C o e h with
  | none => rw [wO_none, wO_none]
  | some p =>
    rw [wO_some]
    simp only
    by_cases q : mokD p.2 m p.1 = true
    · rw [if_pos q]
      cases evA C es e p.2 with
      | none => simp only [wO_none, and_false]
      | some z => simp only [wO_some, q, true_and]
    · rw [if_neg q, wO_none]
      exact propext ⟨False.elim, fun z => q z.1⟩
theorem wE_sub : wE C (.sub o i) e h Q = wE C o e h fun x h1 => wE C i e h1 fun y h2 => wO (subD h2 x y) fun d => Q d h2 := by
  unfold wE
  rw [evE]
  cases evE C o e h with
  | none => rw [wO_none, wO_none]
  | some p =>
    rw [wO_some]
    simp only
    cases evE C i e p.2 with
    | none => rw [wO_none, wO_none]
    | some q => rw [wO_some]; exact wO_map
theorem wE_slc {k : Sk} : wE C (.slc k o es) e h Q = wE C o e h fun x h1 => wA C es e h1 fun ds h2 => wO (slcD h2 k x ds) fun d => Q d h2 := by
  unfold wE wA
  rw [evE]
  cases evE C o e h with
  | none => rw [wO_none, wO_none]
  | some p =>
    rw [wO_some]
    simp only
    cases evA C es e p.2 with
    | none => rw [wO_none, wO_none]
    | some q => rw [wO_some]; exact wO_map
theorem wE_comp {elt : Ex} {tg : Tg} {it : Iter} {own : List Nat} : wE C (.comp elt tg it es own) e h Q = wI C it e h fun src h1 => wComp C elt tg es own src e h1 fun l h2 => src.1.length ≤ sizeLine ∧ Q (.lst l) h2 := by
  unfold wE wI wComp
  rw [evE]
  rcases evI C it e h with _ | ⟨src, h1⟩
  · rw [wO_none, wO_none]
  · rw [wO_some]
    show wO (match loopC src (turnC C elt tg es own e) src.1 h1 with
      | some (l, h2) => chk (src.1.length ≤ sizeLine) (D.lst l, h2)
      | none => none) _ = _
    show _ = wO (loopC src (turnC C elt tg es own e) src.1 h1) fun r => src.1.length ≤ sizeLine ∧ Q (.lst r.1) r.2
    cases loopC src (turnC C elt tg es own e) src.1 h1 with
    | none => rw [wO_none, wO_none]
    | some p => rw [wO_some]; exact wO_chk
theorem wE_dct : wE C (.dct es) e h Q = wA C es e h fun ds h1 => wO (pairsD ds) fun kvs => kvs.length ≤ 15 ∧ Q (.dk (mergeD [] kvs)) h1 := by
  unfold wE wA
  rw [evE]
  cases evA C es e h with
  | none => rw [wO_none, wO_none]
  | some p =>
    rw [wO_some]
    simp only
    cases pairsD p.1 with
    | none => rw [wO_none, wO_none]
    | some q => rw [wO_some]; exact wO_chk
theorem wE_dnewt : wE C .dnewt e h Q = Q (.dt []) h := by unfold wE; simp only [evE, wO_some]
def wAl : D → Hs → QE → Prop
  | .lst l, h, Q => Q (.ref h.length) (h ++ [.lst l])
  | .dk l, h, Q => Q (.ref h.length) (h ++ [.dk l])
  | .dt l, h, Q => Q (.ref h.length) (h ++ [.dt l])
  | _, _, _ => False
theorem wAl_lst {l : List D} : wAl (.lst l) h Q = Q (.ref h.length) (h ++ [.lst l]) := rfl
theorem wAl_dk {l : List (Key × D)} : wAl (.dk l) h Q = Q (.ref h.length) (h ++ [.dk l]) := rfl
theorem wAl_dt {l : List (List Key × D)} : wAl (.dt l) h Q = Q (.ref h.length) (h ++ [.dt l]) := rfl
theorem wE_al : wE C (.al a) e h Q = wE C a e h fun x h1 => wAl x h1 Q := by
  unfold wE
  rw [evE]
  rcases evE C a e h with _ | ⟨x, h1⟩
  · rw [wO_none, wO_none]
  · rw [wO_some]
    cases x <;> simp only [wO_some, wO_none, wAl]
/-! ### targets -/
theorem wT_nm {i : Nat} {d : D} : wT C (.nm i) d e h N = wX e i (some d) fun e' => N e' h := by
  unfold wT
  rw [evT, wO_some, wX_eq]
theorem wT_tup {ts : Tgs} {d : D} : wT C (.tup ts) d e h N = wO (getS h d) fun l => wTs C ts l e h N := by
  unfold wT wTs
  rw [evT]
  cases getS h d with
  | none => rw [wO_none, wO_none]
  | some l => rw [wO_some]
theorem wT_sub {d : D} : wT C (.sub o i) d e h N = wE C o e h fun x h1 => wE C i e h1 fun y h2 => wO (setD h2 x y d) fun h3 => N e h3 := by
  unfold wT wE
  rw [evT]
  cases evE C o e h with
  | none => rw [wO_none, wO_none]
  | some p =>
    rw [wO_some]
    simp only
    cases evE C i e p.2 with
    | none => rw [wO_none, wO_none]
    | some q => rw [wO_some]; exact wO_map
theorem wTs_nil : wTs C .nil [] e h N = N e h := by unfold wTs; rw [evTs, wO_some]
theorem wTs_cons {t : Tg} {r : Tgs} {d : D} {l : List D} : wTs C (.cons t r) (d :: l) e h N = wT C t d e h fun e1 h1 => wTs C r l e1 h1 N := by
  unfold wTs wT
  rw [evTs]
  cases evT C t d e h with
  | none => rw [wO_none, wO_none]
  | some p => rw [wO_some]
/-! ### what is walked -/
def wSeq : D → Hs → (Src → Hs → Prop) → Prop
  | .tup l, h, Q => Q (l, []) h
  | .lst l, h, Q => Q (l, []) h
  | .ref n, h, Q => wO (getL h (.ref n)) fun l => Q (l, [(n, l)]) h
  | .scr ns, h, Q => Q (ns.map .int, []) h
  | _, _, _ => False
section
variable {Q : Src → Hs → Prop}
theorem wSeq_tup {l : List D} : wSeq (.tup l) h Q = Q (l, []) h := rfl
theorem wSeq_lst {l : List D} : wSeq (.lst l) h Q = Q (l, []) h := rfl
theorem wSeq_ref {n : Nat} : wSeq (.ref n) h Q = wO (getL h (.ref n)) fun l => Q (l, [(n, l)]) h := rfl
theorem wSeq_scr {ns : List Int} : wSeq (.scr ns) h Q = Q (ns.map .int, []) h := rfl
theorem wI_seq : wI C (.seq a) e h Q = wE C a e h fun x h1 => wSeq x h1 Q := by
  unfold wI wE
  rw [evI]
  rcases evE C a e h with _ | ⟨x, h1⟩
  · rw [wO_none, wO_none]
  · rw [wO_some]
    cases x with
    | ref n =>
      simp only [wSeq, getL]
      rcases h1[n]? with _ | x
      · simp only [wO_none]
      · cases x <;> simp only [wO_some, wO_none]
    | _ => simp only [wO_some, wO_none, wSeq]
def wRng : List D → (List D → Prop) → Prop
  | [.int j], Q => (-(2 ^ 62) ≤ j ∧ j < 2 ^ 62) ∧ Q (rngL 0 j.toNat)
  | [.int i, .int j], Q => (-(2 ^ 62) ≤ i ∧ i < 2 ^ 62 ∧ -(2 ^ 62) ≤ j ∧ j < 2 ^ 62) ∧ Q (rngL i (j - i).toNat)
  | _, _ => False
theorem wRng_1 {j : Int} {Q : List D → Prop} : wRng [.int j] Q = ((-(2 ^ 62) ≤ j ∧ j < 2 ^ 62) ∧ Q (rngL 0 j.toNat)) := rfl
theorem wRng_2 {i j : Int} {Q : List D → Prop} : wRng [.int i, .int j] Q = ((-(2 ^ 62) ≤ i ∧ i < 2 ^ 62 ∧ -(2 ^ 62) ≤ j ∧ j < 2 ^ 62) ∧ Q (rngL i (j - i).toNat)) := rfl
theorem wI_rng : wI C (.rng es) e h Q = wA C es e h fun ds h1 => wRng ds fun l => Q (l, []) h1 := by
  unfold wI wA
  rw [evI]
  rcases evA C es e h with _ | ⟨ds, h1⟩
  · rw [wO_none, wO_none]
  · rw [wO_some]
    match ds with
    | [] => simp only [wO_none, wRng]
    | [.int j] => exact wO_chk
    | [.int i, .int j] => exact wO_chk
    | [.non] => simp only [wO_none, wRng]
    | [.bl _] => simp only [wO_none, wRng]
    | [.str _] => simp only [wO_none, wRng]
    | [.tup _] => simp only [wO_none, wRng]
    | [.lst _] => simp only [wO_none, wRng]
    | [.dk _] => simp only [wO_none, wRng]
    | [.dt _] => simp only [wO_none, wRng]
    | [.ref _] => simp only [wO_none, wRng]
    | [.scr _] => simp only [wO_none, wRng]
    | a :: b :: c :: r => simp only [wO_none, wRng]
    | [a, b] => cases a <;> cases b <;> first | exact wO_chk | simp only [wO_none, wRng]
def wEnum : D → Hs → (Src → Hs → Prop) → Prop
  | .tup l, h, Q => Q (enumL 0 l, []) h
  | .lst l, h, Q => Q (enumL 0 l, []) h
  | .ref n, h, Q => wO (getL h (.ref n)) fun l => Q (enumL 0 l, [(n, l)]) h
  | _, _, _ => False
theorem wEnum_tup {l : List D} : wEnum (.tup l) h Q = Q (enumL 0 l, []) h := rfl
theorem wEnum_lst {l : List D} : wEnum (.lst l) h Q = Q (enumL 0 l, []) h := rfl
theorem wEnum_ref {n : Nat} : wEnum (.ref n) h Q = wO (getL h (.ref n)) fun l => Q (enumL 0 l, [(n, l)]) h := rfl
theorem wI_enum : wI C (.enum a) e h Q = wE C a e h fun x h1 => wEnum x h1 Q := by
  unfold wI wE
  rw [evI]
  rcases evE C a e h with _ | ⟨x, h1⟩
  · rw [wO_none, wO_none]
  · rw [wO_some]
    cases x with
    | ref n =>
      simp only [wEnum, getL]
      rcases h1[n]? with _ | x
      · simp only [wO_none]
      · cases x <;> simp only [wO_some, wO_none]
    | _ => simp only [wO_some, wO_none, wEnum]
def wZip : D → D → Hs → (Src → Hs → Prop) → Prop
  | .tup l, .tup l', h, Q => Q (zipL l l', []) h
  | .lst l, .lst l', h, Q => Q (zipL l l', []) h
  | _, _, _, _ => False
theorem wZip_tup {l l' : List D} : wZip (.tup l) (.tup l') h Q = Q (zipL l l', []) h := rfl
theorem wZip_lst {l l' : List D} : wZip (.lst l) (.lst l') h Q = Q (zipL l l', []) h := rfl
theorem wI_zip {s : Bool} : wI C (.zip s a b) e h Q = wE C a e h fun x h1 => wE C b e h1 fun y h2 => wZip x y h2 Q := by
  unfold wI wE
  rw [evI]
  rcases evE C a e h with _ | ⟨x, h1⟩
  · rw [wO_none, wO_none]
  · rw [wO_some]
    simp only
    rcases evE C b e h1 with _ | ⟨y, h2⟩
    · rw [wO_none, wO_none]
    · rw [wO_some]
      cases x <;> cases y <;> simp only [wO_some, wO_none, wZip]
end
/-! ### statements -/
section
variable {st : Sm} {sr b1 b2 : Sms}
theorem wSs_nil : wSs C L .nil e h N R = N e h := by unfold wSs; rw [evSs, wO_some]; rfl
theorem wSs_cons : wSs C L (.cons st sr) e h N R = wS C L st e h (fun e' h' => wSs C L sr e' h' N R) R := by
  unfold wSs wS
  rw [evSs]
  rcases evS C L st e h with _ | ⟨e1, h1⟩ | ⟨d, h1⟩
  · rw [wO_none, wO_none]
  · rw [wO_some]
    rfl
  · rw [wO_some, wO_some]
    rfl
theorem wS_asg {tg : Tg} : wS C L (.asg tg a) e h N R = wE C a e h fun d h1 => wT C tg d e h1 N := by
  unfold wS wE wT
  rw [evS]
  cases evE C a e h with
  | none => rw [wO_none, wO_none]
  | some p => rw [wO_some]; exact wO_map
theorem wS_par {is : List Nat} : wS C L (.par is es) e h N R = wA C es e h fun ds h1 => wP e is ds fun e' => N e' h1 := by
  unfold wS wA wP
  rw [evS]
  cases evA C es e h with
  | none => rw [wO_none, wO_none]
  | some p =>
    rw [wO_some]
    simp only
    by_cases q : p.1.length = is.length
    · rw [if_pos q, wO_some]
      exact propext ⟨fun z => ⟨q, z⟩, fun z => z.2⟩
    · rw [if_neg q, wO_none]
      exact propext ⟨False.elim, fun z => q z.1⟩
theorem wS_expr : wS C L (.expr a) e h N R = wE C a e h fun _ h1 => N e h1 := by
  unfold wS wE
  rw [evS]
  exact wO_map
theorem wS_ret : wS C L (.ret a) e h N R = wE C a e h R := by
  unfold wS wE
  rw [evS]
  exact wO_map
theorem wS_retN : wS C L .retN e h N R = R .non h := by unfold wS; rw [evS, wO_some]; rfl
theorem wS_iff : wS C L (.iff c b1 b2) e h N R = wE C c e h fun x h1 => wBl x fun p => wIs p (fun N R => wSs C L b1 e h1 N R) (fun N R => wSs C L b2 e h1 N R) N R := by
  unfold wS wE
  rw [evS]
  rcases evE C c e h with _ | ⟨x, h1⟩
  · rw [wO_none, wO_none]
  · rw [wO_some]
    cases x with
    | bl b => cases b <;> rfl
    | _ => simp only [wO_none, wBl]
theorem wS_for {tg : Tg} {it : Iter} : wS C L (.forr tg it b1) e h N R = wI C it e h fun src h1 => wFor C L src tg b1 src.1 e h1 N R := by
  unfold wS wI wFor
  rw [evS]
  rcases evI C it e h with _ | ⟨src, h1⟩
  · rw [wO_none, wO_none]
  · rw [wO_some] <;> rfl
theorem wS_whl : wS C L (.whl c b1) e h N R = wWhl C L c b1 L e h N R := by
  unfold wS wWhl
  rw [evS] <;> rfl
theorem wSs_mono {N' : Ev → Hs → Prop} {R' : QE} {b : Sms} (x : wSs C L b e h N R) (hn : ∀ e h, N e h → N' e h) (hr : ∀ d h, R d h → R' d h) : wSs C L b e h N' R' := wO_mono x fun f q => by
  cases f with
  | nx e h => exact hn _ _ q
  | rt d h => exact hr _ _ q
theorem wS_mono {N' : Ev → Hs → Prop} {R' : QE} (x : wS C L st e h N R) (hn : ∀ e h, N e h → N' e h) (hr : ∀ d h, R d h → R' d h) : wS C L st e h N' R' := wO_mono x fun f q => by
  cases f with
  | nx e h => exact hn _ _ q
  | rt d h => exact hr _ _ q
theorem wE_mono {Q' : QE} (x : wE C a e h Q) (hq : ∀ d h, Q d h → Q' d h) : wE C a e h Q' := wO_mono x fun f q => hq _ _ q
theorem wT_mono {N' : Ev → Hs → Prop} {tg : Tg} {d : D} (x : wT C tg d e h N) (hq : ∀ d h, N d h → N' d h) : wT C tg d e h N' := wO_mono x fun f q => hq _ _ q
/-- a statement by what holds behind it -/
theorem wSs_cut (M : Ev → Hs → Prop) (x : wS C L st e h M R) (y : ∀ e' h', M e' h' → wSs C L sr e' h' N R) : wSs C L (.cons st sr) e h N R := by
  rw [wSs_cons]
  exact wS_mono x y fun _ _ q => q
end
end
/-! ### loops -/
section
variable {C : Cal} {L : Nat} {tg : Tg} {b : Sms} {e : Ev} {h : Hs} {N : Ev → Hs → Prop} {R : QE} {α : Type}
theorem wFor_nil {src : Src} (hok : okSrc h src) (q : N e h) : wFor C L src tg b [] e h N R := by
  unfold wFor
  rw [loopS, wO_chk]
  exact ⟨hok, q⟩
theorem wFor_cons {src : Src} {x : D} {l : List D} (hok : okSrc h src) (q : wT C tg x e h fun e1 h1 => wSs C L b e1 h1 (fun e2 h2 => wFor C L src tg b l e2 h2 N R) R) : wFor C L src tg b (x :: l) e h N R := by
  have hk : chk (okSrc h src) () = some () := chk_pos hok
  obtain ⟨⟨e1, h1⟩, q1, ⟨f, q2, q3⟩⟩ := q
  unfold wFor
  simp only [loopS, hk, q1]
  rw [q2]
  cases f with
  | nx e2 h2 => exact q3
  | rt d h2 => rw [wO_some]; exact q3
/-- by an invariant over what has been walked -/
theorem wFor_src {src : Src} {enc : α → D} {xs : List α} (I : List α → Ev → Hs → Prop) (hok : ∀ l e h, I l e h → okSrc h src) (h0 : I [] e h)
    (step : ∀ done x rest e h, xs = done ++ x :: rest → I done e h → wT C tg (enc x) e h fun e1 h1 => wSs C L b e1 h1 (fun e2 h2 => I (done ++ [x]) e2 h2) R) (post : ∀ e h, I xs e h → N e h) : wFor C L src tg b (xs.map enc) e h N R := by
  have key : ∀ (rest done : List α) (e : Ev) (h : Hs), xs = done ++ rest → I done e h → wFor C L src tg b (rest.map enc) e h N R := by
    intro rest
    induction rest with
    | nil =>
      intro done e h hx hI
      rw [List.append_nil] at hx
      subst hx
      exact wFor_nil (hok _ _ _ hI) (post _ _ hI)
    | cons x rest ih =>
      intro done e h hx hI
      refine wFor_cons (hok _ _ _ hI) (wT_mono (step done x rest e h hx hI) fun e1 h1 q => wSs_mono q (fun e2 h2 q2 => ih (done ++ [x]) e2 h2 (by rw [hx]; simp) q2) fun _ _ q => q)
  exact key xs [] e h rfl h0
theorem wFor_inv {l : List D} {enc : α → D} {xs : List α} (I : List α → Ev → Hs → Prop) (h0 : I [] e h)
    (step : ∀ done x rest e h, xs = done ++ x :: rest → I done e h → wT C tg (enc x) e h fun e1 h1 => wSs C L b e1 h1 (fun e2 h2 => I (done ++ [x]) e2 h2) R) (post : ∀ e h, I xs e h → N e h) : wFor C L (l, []) tg b (xs.map enc) e h N R :=
  wFor_src I (fun _ _ _ _ p hp => by cases hp) h0 step post
/-- while .. : by an invariant and a measure -/
theorem wWhl_inv {c : Ex} (I : Nat → Ev → Hs → Prop) {n : Nat} (hn : n < L) (h0 : I n e h)
    (step : ∀ k e h, I k e h → wE C c e h fun x h1 => wBl x fun p => if p = true then wSs C L b e h1 (fun e2 h2 => ∃ k', k' < k ∧ I k' e2 h2) R else N e h1) : wWhl C L c b L e h N R := by
  have key : ∀ (m n : Nat) (e : Ev) (h : Hs), n < m → I n e h → wWhl C L c b m e h N R := by
    intro m
    induction m with
    | zero => intro n e h hn; omega
    | succ m ih =>
      intro n e h hn hI
      obtain ⟨⟨x, h1⟩, q1, q2⟩ := step n e h hI
      unfold wWhl
      rw [loopW]
      simp only [q1]
      cases x with
      | bl p =>
        simp only [wBl] at q2
        cases p with
        | true =>
          rw [if_pos rfl] at q2
          obtain ⟨f, q3, q4⟩ := q2
          simp only [q3]
          cases f with
          | nx e2 h2 =>
            obtain ⟨k', hk', q5⟩ := q4
            exact ih k' e2 h2 (by omega) q5
          | rt d h2 => rw [wO_some]; exact q4
        | false =>
          rw [if_neg Bool.false_ne_true] at q2
          simp only [wO_some]
          exact q2
      | _ => exact q2.elim
  exact key L n e h hn h0
end
section
variable {C : Cal} {elt : Ex} {tg : Tg} {ifs : Exs} {own : List Nat} {e : Ev} {h : Hs} {Q : List D → Hs → Prop} {α : Type}
theorem turn_pure {x d : D} (t : wW e own fun e0 => wT C tg x e0 h fun e1 h1 => wE C elt e1 h1 fun y h2 => y = d ∧ h2 = h) : turnC C elt tg .nil own e x h = some (some d, h) := by
  unfold wW at t
  obtain ⟨⟨e1, h1⟩, q1, ⟨⟨y, h2⟩, q2, rfl, rfl⟩⟩ := t
  exact turn_all q1 q2
theorem turn_pureIf {x d : D} {c : Ex} {p : Bool} (t : wW e own fun e0 => wT C tg x e0 h fun e1 h1 => wE C c e1 h1 fun y h2 => y = .bl p ∧ h2 = h ∧ (p = true → wE C elt e1 h2 fun y h3 => y = d ∧ h3 = h)) : turnC C elt tg (.cons false c .nil) own e x h = some (if p = true then some d else none, h) := by
  unfold wW at t
  obtain ⟨⟨e1, h1⟩, q1, ⟨⟨y, h2⟩, q2, rfl, rfl, q3⟩⟩ := t
  refine turn_if q1 q2 fun hp => ?_
  obtain ⟨⟨y, h3⟩, q4, rfl, rfl⟩ := q3 hp
  exact q4
theorem wComp_pure {enc : α → D} {xs : List α} (g : α → D) (t : ∀ x ∈ xs, wW e own fun e0 => wT C tg (enc x) e0 h fun e1 h1 => wE C elt e1 h1 fun y h2 => y = g x ∧ h2 = h) (q : Q (xs.map g) h) : wComp C elt tg .nil own (xs.map enc, []) e h Q := by
  unfold wComp
  have := loopC_ghost (src := xs.map enc) (g := turnC C elt tg .nil own e) (h := h) enc (fun x => some (g x)) (l := xs) fun x hx => turn_pure (t x hx)
  rw [fm_map] at this
  rw [this, wO_some]
  exact q
theorem wComp_pureIf {enc : α → D} {xs : List α} {c : Ex} (p : α → Bool) (g : α → D) (t : ∀ x ∈ xs, wW e own fun e0 => wT C tg (enc x) e0 h fun e1 h1 => wE C c e1 h1 fun y h2 => y = .bl (p x) ∧ h2 = h ∧ (p x = true → wE C elt e1 h2 fun y h3 => y = g x ∧ h3 = h)) (q : Q ((xs.filter p).map g) h) : wComp C elt tg (.cons false c .nil) own (xs.map enc, []) e h Q := by
  unfold wComp
  have := loopC_ghost (src := xs.map enc) (g := turnC C elt tg (.cons false c .nil) own e) (h := h) enc (fun x => if p x = true then some (g x) else none) (l := xs) fun x hx => turn_pureIf (t x hx)
  have e2 : xs.filterMap (fun x => if p x = true then some (g x) else none) = (xs.filter p).map g := by
    clear this q t
    induction xs with
    | nil => rfl
    | cons x r ih =>
      by_cases hp : p x = true
      · rw [List.filter_cons_of_pos hp, List.map_cons, ← ih]
        simp [hp]
      · rw [List.filter_cons_of_neg hp, ← ih]
        simp [hp]
  rw [e2] at this
  rw [this, wO_some]
  exact q
/-- with a store that changes: by an invariant over what has been walked, and what has been found -/
theorem wComp_inv {enc : α → D} {xs : List α} (I : List α → List D → Hs → Prop) (h0 : I [] [] h)
    (t : ∀ done x rest out h, xs = done ++ x :: rest → I done out h → wW e own fun e0 => wT C tg (enc x) e0 h fun e1 h1 => wE C elt e1 h1 fun y h2 => I (done ++ [x]) (out ++ [y]) h2) (q : ∀ out h, I xs out h → Q out h) : wComp C elt tg .nil own (xs.map enc, []) e h Q := by
  have key : ∀ (rest done : List α) (out : List D) (h : Hs), xs = done ++ rest → I done out h → wO (loopC (xs.map enc, []) (turnC C elt tg .nil own e) (rest.map enc) h) fun r => Q (out ++ r.1) r.2 := by
    intro rest
    induction rest with
    | nil =>
      intro done out h hx hI
      rw [List.append_nil] at hx
      subst hx
      rw [List.map_nil, loopC, wO_chk]
      exact ⟨(fun p hp => by cases hp), by rw [List.append_nil]; exact q _ _ hI⟩
    | cons x rest ih =>
      intro done out h hx hI
      have hk : chk (okSrc h (xs.map enc, [])) () = some () := chk_pos fun p hp => by cases hp
      have := t done x rest out h hx hI
      unfold wW at this
      obtain ⟨⟨e1, h1⟩, q1, ⟨⟨y, h2⟩, q2, q3⟩⟩ := this
      have tt := turn_all (C := C) (elt := elt) (tg := tg) q1 q2
      obtain ⟨⟨l, h3⟩, q4, q5⟩ := ih (done ++ [x]) (out ++ [y]) h2 (by rw [hx]; simp) q3
      rw [List.map_cons, loopC]
      simp only [hk, tt, q4, wO_some]
      rw [List.append_assoc] at q5
      exact q5
  obtain ⟨r, q1, q2⟩ := key xs [] [] h rfl h0
  exact ⟨r, q1, q2⟩
end
/-! ### calls -/
section
variable {C : Cal} {L : Nat} {F : Fn} {ds : List D} {h h' : Hs} {r : D}
theorem call_run {Q : D → Hs → Prop} (hl : ds.length = F.np) (w : wSs C L F.body (ds.map some ++ List.replicate (F.nn - F.np) none) h (fun _ h' => ∃ p, fin F.keep h.length .non h' = some p ∧ Q p.1 p.2) fun d h' => ∃ p, fin F.keep h.length d h' = some p ∧ Q p.1 p.2) : wO (callD C L F ds h) fun p => Q p.1 p.2 := by
  obtain ⟨f, q1, q2⟩ := w
  unfold callD
  rw [if_pos hl, q1]
  cases f with
  | nx e1 h1 => exact q2
  | rt d h1 => exact q2
/-- a def that leaves the store as it is -/
def Ret (h : Hs) (r d : D) (h' : Hs) : Prop := ∃ ext, h' = h ++ ext ∧ frz h' h.length 20 d = some r
theorem call_pure (hl : ds.length = F.np) (hk : F.keep = false) (hc : Cl h) (w : wSs C L F.body (ds.map some ++ List.replicate (F.nn - F.np) none) h (fun _ h' => Ret h r .non h') (Ret h r)) : callD C L F ds h = some (r, h) := by
  have fr : ∀ d h', Ret h r d h' → ∃ p, fin F.keep h.length d h' = some p ∧ p.1 = r ∧ p.2 = h := by
    rintro d h' ⟨ext, rfl, q⟩
    rw [hk]
    exact ⟨_, fin_ret hc q, rfl, rfl⟩
  obtain ⟨⟨a, b⟩, q, rfl, rfl⟩ := call_run (F := F) (L := L) (C := C) (Q := fun d h' => d = r ∧ h' = h) hl (wSs_mono w (fun _ h' q => fr _ _ q) fun d h' q => fr _ _ q)
  exact q
theorem ret_low (hd : Low h.length r) : Ret h r r h := ⟨[], (List.append_nil h).symm, frz_low hd⟩
theorem ret_lowE {ext : Hs} (hd : Low h.length r) : Ret h r r (h ++ ext) := ⟨ext, rfl, frz_low hd⟩
end
end Z

set_option Elab.async false
set_option linter.all false
set_option maxRecDepth 100000
set_option maxHeartbeats 8000000
/-! Y2: the script's source, a draw from it -/
namespace Z
open PySem PySem.Spec PyProof.Rows L2
def bSource : Sms := (.cons (.asg (.nm 1) (.lint 11)) (.cons (.forr (.nm 2) (.seq (.nm 0)) (.cons (.asg (.nm 1) (.bin .mod (.bi .int1 (.cons false (.bin .add (.bin .add (.bin .mul (.nm 1) (.lint 69069)) (.bin .mul (.nm 2) (.lint 31))) (.lint 5)) .nil)) (.lint 2147483629))) .nil)) (.cons (.ret (.al (.dct (.cons false (.lstr (PySem.Str.ofString "cells")) (.cons false (.al (.slc .rev (.comp (.bi .abs (.cons false (.nm 2) .nil)) (.nm 2) (.seq (.nm 0)) .nil [2]) .nil)) (.cons false (.lstr (PySem.Str.ofString "left")) (.cons false (.lint 1) (.cons false (.lstr (PySem.Str.ofString "mixed")) (.cons false (.nm 1) (.cons false (.lstr (PySem.Str.ofString "turn")) (.cons false (.lint 0) .nil))))))))))) .nil)))
def bPick : Sms := (.cons (.whl (.bool true (.cmp .gt (.nm 1) (.lint 1)) (.cons false (.cmp .lt (.sub (.nm 0) (.lstr (PySem.Str.ofString "left"))) (.lint 2)) (.cons false (.cmp .gt (.bi .len (.cons false (.sub (.nm 0) (.lstr (PySem.Str.ofString "cells"))) .nil)) (.lint 0)) .nil))) (.cons (.asg (.sub (.nm 0) (.lstr (PySem.Str.ofString "left"))) (.mth .pop (.sub (.nm 0) (.lstr (PySem.Str.ofString "cells"))) .nil)) .nil)) (.cons (.asg (.nm 2) (.sub (.nm 0) (.lstr (PySem.Str.ofString "left")))) (.cons (.iff (.bool false (.cmp .lt (.nm 1) (.lint 2)) (.cons false (.cmp .gt (.nm 2) (.lint 1)) .nil)) (.cons (.asg (.sub (.nm 0) (.lstr (PySem.Str.ofString "left"))) (.bin .fdiv (.nm 2) (.bi .max2 (.cons false (.lint 1) (.cons false (.nm 1) .nil))))) (.cons (.ret (.bin .mod (.bi .int1 (.cons false (.nm 2) .nil)) (.bi .max2 (.cons false (.lint 1) (.cons false (.nm 1) .nil))))) .nil)) .nil) (.cons (.asg (.sub (.nm 0) (.lstr (PySem.Str.ofString "turn"))) (.bin .add (.sub (.nm 0) (.lstr (PySem.Str.ofString "turn"))) (.lint 1))) (.cons (.asg (.nm 3) (.bin .mod (.bi .int1 (.cons false (.bin .add (.sub (.nm 0) (.lstr (PySem.Str.ofString "mixed"))) (.bin .mul (.sub (.nm 0) (.lstr (PySem.Str.ofString "turn"))) (.lint 104729))) .nil)) (.lint 998244353))) (.cons (.asg (.nm 3) (.bin .mod (.bi .int1 (.cons false (.bin .add (.bin .mul (.nm 3) (.nm 3)) (.bin .mul (.sub (.nm 0) (.lstr (PySem.Str.ofString "turn"))) (.lint 17))) .nil)) (.lint 2147483647))) (.cons (.asg (.sub (.nm 0) (.lstr (PySem.Str.ofString "mixed"))) (.nm 3)) (.cons (.ret (.bin .mod (.bi .int1 (.cons false (.bin .fdiv (.nm 3) (.lint 16)) .nil)) (.nm 1))) .nil))))))))
section
variable {C : Cal} {L : Nat}
theorem small15 {n : Nat} (h : n ≤ 15) : n < sizeLine := by
  have := sizeLine_eq
  omega
theorem ev_get {e : Ev} {i : Nat} {s : Sc} {rest : Hs} {k : String} {d : D} (h0 : e[i]? = some (some (.ref 1))) (hd : look s.kv (kS k) = some d) : evE C (.sub (.nm i) (.lstr (Str.ofString k))) e (s.hs rest) = some (d, s.hs rest) := by
  simp only [evE, h0]
  have : subD (s.hs rest) (.ref 1) (.str (Str.ofString k)) = look s.kv (kS k) := rfl
  rw [this, hd]
  rfl
theorem set_src {s s' : Sc} {rest : Hs} {k : String} {v : D} (h : put s.kv (kS k) v = s'.kv) (hc : s'.cells = s.cells) : setD (s.hs rest) (.ref 1) (.str (Str.ofString k)) v = some (s'.hs rest) := by
  have e1 : setD (s.hs rest) (.ref 1) (.str (Str.ofString k)) v = chk (s.kv.length < sizeLine) ((s.hs rest).set 1 (.dk (put s.kv (kS k) v))) := rfl
  rw [e1, chk_pos (small15 (by show 4 ≤ 15; omega)), h]
  unfold Sc.hs
  rw [hc]
  rfl
theorem ev_put {e : Ev} {i : Nat} {s s' : Sc} {rest : Hs} {k : String} {v : D} (h0 : e[i]? = some (some (.ref 1))) (h : put s.kv (kS k) v = s'.kv) (hc : s'.cells = s.cells) : evT C (.sub (.nm i) (.lstr (Str.ofString k))) v e (s.hs rest) = some (e, s'.hs rest) := by
  simp only [evT, evE, h0, set_src h hc]
  rfl
theorem pop_src {l : List Int} {c left mixed turn : Int} {rest : Hs} : popD ((⟨l ++ [c], left, mixed, turn⟩ : Sc).hs rest) (.ref 0) [] = some (.int c, (⟨l, left, mixed, turn⟩ : Sc).hs rest) := by
  unfold popD Sc.hs
  simp only [List.getElem?_cons_zero, List.map_append, List.map_cons, List.map_nil, List.getLast?_append, List.getLast?_singleton, Option.some_or, List.set_cons_zero]
  simp [Sc.kv]
theorem pick_while {e : Ev} {many : Int} {rest : Hs} (h0 : e[0]? = some (some (.ref 1))) (h1 : e[1]? = some (some (.int many))) : ∀ (n : Nat) (s : Sc), s.cells.length < n →
    ∃ s' : Sc, loopW (fun e h => match evE C (.bool true (.cmp .gt (.nm 1) (.lint 1)) (.cons false (.cmp .lt (.sub (.nm 0) (.lstr (PySem.Str.ofString "left"))) (.lint 2)) (.cons false (.cmp .gt (.bi .len (.cons false (.sub (.nm 0) (.lstr (PySem.Str.ofString "cells"))) .nil)) (.lint 0)) .nil))) e h with
      | some (.bl b, h') => some (b, h')
      | _ => none) (evSs C L (.cons (.asg (.sub (.nm 0) (.lstr (PySem.Str.ofString "left"))) (.mth .pop (.sub (.nm 0) (.lstr (PySem.Str.ofString "cells"))) .nil)) .nil)) n e (s.hs rest) = some (.nx e (s'.hs rest)) ∧ s'.cells.length ≤ s.cells.length
  | 0, s, h => by omega
  | n + 1, s, h => by
    have g1 := ev_get (C := C) (rest := rest) h0 (look_left s)
    have g2 := ev_get (C := C) (rest := rest) h0 (look_cells s)
    have gl : getS (s.hs rest) (.ref 0) = some (s.cells.map .int) := rfl
    have hcond : evE C (.bool true (.cmp .gt (.nm 1) (.lint 1)) (.cons false (.cmp .lt (.sub (.nm 0) (.lstr (PySem.Str.ofString "left"))) (.lint 2)) (.cons false (.cmp .gt (.bi .len (.cons false (.sub (.nm 0) (.lstr (PySem.Str.ofString "cells"))) .nil)) (.lint 0)) .nil))) e (s.hs rest)
        = some (.bl (decide (1 < many) && (decide (s.left < 2) && decide (0 < (s.cells.length : Int)))), s.hs rest) := by
      have p1 : evE C (.cmp .gt (.nm 1) (.lint 1)) e (s.hs rest) = some (.bl (decide (1 < many)), s.hs rest) := by
        simp only [evE, h1, cmpD, Option.map_some]
      have p2 : evE C (.cmp .lt (.sub (.nm 0) (.lstr (PySem.Str.ofString "left"))) (.lint 2)) e (s.hs rest) = some (.bl (decide (s.left < 2)), s.hs rest) := by
        simp only [evE] at g1 ⊢
        rw [g1]
        simp only [cmpD, Option.map_some]
      have p3 : evE C (.cmp .gt (.bi .len (.cons false (.sub (.nm 0) (.lstr (PySem.Str.ofString "cells"))) .nil)) (.lint 0)) e (s.hs rest) = some (.bl (decide (0 < (s.cells.length : Int))), s.hs rest) := by
        simp only [evE, evA] at g2 ⊢
        rw [g2]
        simp only [Bool.false_eq_true, if_false, List.append_nil, biD, lenD, gl, Option.map_some, cmpD, List.length_map]
      rw [evE]
      rw [p1]
      simp only [evB, p2, p3]
      by_cases c1 : 1 < many
      · by_cases c2 : s.left < 2
        · simp [c1, c2]
        · simp [c1, c2]
      · simp [c1]
    simp only [loopW, hcond]
    by_cases hc : (decide (1 < many) && (decide (s.left < 2) && decide (0 < (s.cells.length : Int)))) = true
    · rw [hc]
      obtain ⟨cells, left, mixed, turn⟩ := s
      rcases List.eq_nil_or_concat cells with rfl | ⟨l, c, rfl⟩
      · simp at hc
      · rw [List.concat_eq_append] at *
        have hb : evSs C L (.cons (.asg (.sub (.nm 0) (.lstr (PySem.Str.ofString "left"))) (.mth .pop (.sub (.nm 0) (.lstr (PySem.Str.ofString "cells"))) .nil)) .nil) e ((⟨l ++ [c], left, mixed, turn⟩ : Sc).hs rest) = some (.nx e ((⟨l, c, mixed, turn⟩ : Sc).hs rest)) := by
          have m1 : evE C (.mth .pop (.sub (.nm 0) (.lstr (PySem.Str.ofString "cells"))) .nil) e ((⟨l ++ [c], left, mixed, turn⟩ : Sc).hs rest) = some (.int c, (⟨l, left, mixed, turn⟩ : Sc).hs rest) := by
            rw [evE, g2]
            have mk : mokD ((⟨l ++ [c], left, mixed, turn⟩ : Sc).hs rest) .pop (.ref 0) = true := rfl
            simp only [mk, if_true, evA, mthD, pop_src]
          simp only [evSs, evS, m1, ev_put (C := C) (e := e) (rest := rest) h0 (put_left ⟨l, left, mixed, turn⟩ c) rfl, Option.map_some]
        simp only [hb]
        have hlen : l.length < n := by
          have : (l ++ [c]).length < n + 1 := h
          rw [List.length_append] at this
          simp at this
          omega
        obtain ⟨s', q1, q2⟩ := pick_while h0 h1 n ⟨l, c, mixed, turn⟩ hlen
        exact ⟨s', q1, by
          show s'.cells.length ≤ (l ++ [c]).length
          rw [List.length_append]
          have : s'.cells.length ≤ l.length := q2
          omega⟩
    · rw [Bool.not_eq_true] at hc
      rw [hc]
      exact ⟨s, rfl, Nat.le_refl _⟩
theorem pick_ok (hL : 100 < L) (s : Sc) (hs : s.cells.length ≤ 64) (many : Int) (hm : many < 2 ^ 30) (rest : Hs) :
    ∃ (r : Int) (s' : Sc), evSs C L bPick [some (.ref 1), some (.int many), none, none] (s.hs rest) = some (.rt (.int r) (s'.hs rest)) ∧ 0 ≤ r ∧ (1 ≤ many → r < many) ∧ (many < 2 → r = 0) ∧ s'.cells.length ≤ 64 := by
  obtain ⟨s1, q1, hl1⟩ := pick_while (C := C) (L := L) (e := [some (.ref 1), some (.int many), none, none]) (many := many) (rest := rest) rfl rfl L s (by omega)
  have hl : s1.cells.length ≤ 64 := by omega
  have w : evS C L (.whl (.bool true (.cmp .gt (.nm 1) (.lint 1)) (.cons false (.cmp .lt (.sub (.nm 0) (.lstr (PySem.Str.ofString "left"))) (.lint 2)) (.cons false (.cmp .gt (.bi .len (.cons false (.sub (.nm 0) (.lstr (PySem.Str.ofString "cells"))) .nil)) (.lint 0)) .nil)))
      (.cons (.asg (.sub (.nm 0) (.lstr (PySem.Str.ofString "left"))) (.mth .pop (.sub (.nm 0) (.lstr (PySem.Str.ofString "cells"))) .nil)) .nil)) [some (.ref 1), some (.int many), none, none] (s.hs rest) = some (.nx [some (.ref 1), some (.int many), none, none] (s1.hs rest)) := by
    rw [evS]
    exact q1
  have hmax : (0 : Int) < max 1 many := by omega
  have g1 := ev_get (C := C) (e := [some (.ref 1), some (.int many), none, none]) (rest := rest) (i := 0) rfl (look_left s1)
  have c1 : evE C (.bool false (.cmp .lt (.nm 1) (.lint 2)) (.cons false (.cmp .gt (.nm 2) (.lint 1)) .nil)) [some (.ref 1), some (.int many), some (.int s1.left), none] (s1.hs rest) = some (.bl (decide (many < 2) || decide (1 < s1.left)), s1.hs rest) := by
    simp only [evE, evB, cmpD, Option.map_some, List.getElem?_cons_succ, List.getElem?_cons_zero]
    by_cases h : many < 2 <;> simp [h]
  by_cases hc : (decide (many < 2) || decide (1 < s1.left)) = true
  · rw [hc] at c1
    have e1 : evE C (.bin .fdiv (.nm 2) (.bi .max2 (.cons false (.lint 1) (.cons false (.nm 1) .nil)))) [some (.ref 1), some (.int many), some (.int s1.left), none] (s1.hs rest) = some (.int (s1.left / max 1 many), s1.hs rest) := by
      simp only [evE, evA, Bool.false_eq_true, if_false, biD, max2D, Option.map_some, List.getElem?_cons_succ, List.getElem?_cons_zero, List.cons_append, List.nil_append, binD]
      rw [chk_pos (show CDiv s1.left (max 1 many) from ⟨hmax, by omega⟩)]
      rfl
    have p1 := ev_put (C := C) (e := [some (.ref 1), some (.int many), some (.int s1.left), none]) (rest := rest) (i := 0) rfl (put_left s1 (s1.left / max 1 many)) rfl
    have e2 : ∀ h, evE C (.bin .mod (.bi .int1 (.cons false (.nm 2) .nil)) (.bi .max2 (.cons false (.lint 1) (.cons false (.nm 1) .nil)))) [some (.ref 1), some (.int many), some (.int s1.left), none] h = some (.int (s1.left % max 1 many), h) := fun h => by
      simp only [evE, evA, Bool.false_eq_true, if_false, biD, max2D, int1D, Option.map_some, List.getElem?_cons_succ, List.getElem?_cons_zero, List.cons_append, List.nil_append, binD]
      rw [chk_pos hmax]
      rfl
    refine ⟨s1.left % max 1 many, { s1 with left := s1.left / max 1 many }, sx_next w (sx_next (sx_set g1) (sx_stop (sx_t c1 (sx_next (sx_asg e1 p1) (sx_ret (e2 _)))))), Int.emod_nonneg _ (by omega), fun h => ?_, fun h => ?_, hl⟩
    · have := Int.emod_lt_of_pos s1.left hmax
      omega
    · have : max 1 many = 1 := by omega
      rw [this]
      exact Int.emod_one _
  · rw [Bool.not_eq_true] at hc
    rw [hc] at c1
    have hmany : 2 ≤ many := by
      simp only [Bool.or_eq_false_iff, decide_eq_false_iff_not] at hc
      omega
    have g2 := ev_get (C := C) (e := [some (.ref 1), some (.int many), some (.int s1.left), none]) (rest := rest) (i := 0) rfl (look_turn s1)
    have e1 : evE C (.bin .add (.sub (.nm 0) (.lstr (PySem.Str.ofString "turn"))) (.lint 1)) [some (.ref 1), some (.int many), some (.int s1.left), none] (s1.hs rest) = some (.int (s1.turn + 1), s1.hs rest) := by
      rw [evE, g2]
      simp only [evE, binD, Option.map_some]
    have p1 := ev_put (C := C) (e := [some (.ref 1), some (.int many), some (.int s1.left), none]) (rest := rest) (i := 0) rfl (put_turn s1 (s1.turn + 1)) rfl
    generalize hs2 : ({ s1 with turn := s1.turn + 1 } : Sc) = s2 at p1
    have hl2 : s2.cells.length ≤ 64 := by rw [← hs2]; exact hl
    have g3 := ev_get (C := C) (e := [some (.ref 1), some (.int many), some (.int s1.left), none]) (rest := rest) (i := 0) rfl (look_turn s2)
    have g4 := ev_get (C := C) (e := [some (.ref 1), some (.int many), some (.int s1.left), none]) (rest := rest) (i := 0) rfl (look_mixed s2)
    have e2 : evE C (.bin .mod (.bi .int1 (.cons false (.bin .add (.sub (.nm 0) (.lstr (PySem.Str.ofString "mixed"))) (.bin .mul (.sub (.nm 0) (.lstr (PySem.Str.ofString "turn"))) (.lint 104729))) .nil)) (.lint 998244353)) [some (.ref 1), some (.int many), some (.int s1.left), none] (s2.hs rest)
        = some (.int ((s2.mixed + s2.turn * 104729) % 998244353), s2.hs rest) := by
      have b1 : evE C (.bin .mul (.sub (.nm 0) (.lstr (PySem.Str.ofString "turn"))) (.lint 104729)) [some (.ref 1), some (.int many), some (.int s1.left), none] (s2.hs rest) = some (.int (s2.turn * 104729), s2.hs rest) := by
        rw [evE, g3]
        simp only [evE, binD]
        rw [chk_pos (show CMul s2.turn 104729 from .inr ⟨by decide, by decide⟩)]
        rfl
      have b2 : evE C (.bin .add (.sub (.nm 0) (.lstr (PySem.Str.ofString "mixed"))) (.bin .mul (.sub (.nm 0) (.lstr (PySem.Str.ofString "turn"))) (.lint 104729))) [some (.ref 1), some (.int many), some (.int s1.left), none] (s2.hs rest) = some (.int (s2.mixed + s2.turn * 104729), s2.hs rest) := by
        rw [evE, g4]
        simp only
        rw [b1]
        rfl
      rw [evE, evE, evA, b2]
      simp only [evA, Bool.false_eq_true, if_false, biD, int1D, List.append_nil, Option.map_some, evE, binD]
      rw [chk_pos (by decide)]
      rfl
    generalize hm1 : (s2.mixed + s2.turn * 104729) % 998244353 = m1 at e2
    have hm1a : 0 ≤ m1 := by rw [← hm1]; exact Int.emod_nonneg _ (by decide)
    have hm1b : m1 < 998244353 := by rw [← hm1]; exact Int.emod_lt_of_pos _ (by decide)
    have g5 := ev_get (C := C) (e := [some (.ref 1), some (.int many), some (.int s1.left), some (.int m1)]) (rest := rest) (i := 0) rfl (look_turn s2)
    have e3 : evE C (.bin .mod (.bi .int1 (.cons false (.bin .add (.bin .mul (.nm 3) (.nm 3)) (.bin .mul (.sub (.nm 0) (.lstr (PySem.Str.ofString "turn"))) (.lint 17))) .nil)) (.lint 2147483647)) [some (.ref 1), some (.int many), some (.int s1.left), some (.int m1)] (s2.hs rest)
        = some (.int ((m1 * m1 + s2.turn * 17) % 2147483647), s2.hs rest) := by
      have b1 : evE C (.bin .mul (.sub (.nm 0) (.lstr (PySem.Str.ofString "turn"))) (.lint 17)) [some (.ref 1), some (.int many), some (.int s1.left), some (.int m1)] (s2.hs rest) = some (.int (s2.turn * 17), s2.hs rest) := by
        rw [evE, g5]
        simp only [evE, binD]
        rw [chk_pos (show CMul s2.turn 17 from .inr ⟨by decide, by decide⟩)]
        rfl
      have b0 : evE C (.bin .mul (.nm 3) (.nm 3)) [some (.ref 1), some (.int many), some (.int s1.left), some (.int m1)] (s2.hs rest) = some (.int (m1 * m1), s2.hs rest) := by
        simp only [evE, List.getElem?_cons_succ, List.getElem?_cons_zero, binD]
        rw [chk_pos (show CMul m1 m1 from .inl ⟨by omega, by omega⟩)]
        rfl
      have b2 : evE C (.bin .add (.bin .mul (.nm 3) (.nm 3)) (.bin .mul (.sub (.nm 0) (.lstr (PySem.Str.ofString "turn"))) (.lint 17))) [some (.ref 1), some (.int many), some (.int s1.left), some (.int m1)] (s2.hs rest) = some (.int (m1 * m1 + s2.turn * 17), s2.hs rest) := by
        rw [evE, b0]
        simp only
        rw [b1]
        rfl
      rw [evE, evE, evA, b2]
      simp only [evA, Bool.false_eq_true, if_false, biD, int1D, List.append_nil, Option.map_some, evE, binD]
      rw [chk_pos (by decide)]
      rfl
    generalize hm2 : (m1 * m1 + s2.turn * 17) % 2147483647 = m2 at e3
    have p2 := ev_put (C := C) (e := [some (.ref 1), some (.int many), some (.int s1.left), some (.int m2)]) (rest := rest) (i := 0) rfl (put_mixed s2 m2) rfl
    have e4 : ∀ h, evE C (.nm 3) [some (.ref 1), some (.int many), some (.int s1.left), some (.int m2)] h = some (.int m2, h) := fun h => by
      simp only [evE, List.getElem?_cons_succ, List.getElem?_cons_zero]
    have e5 : ∀ h, evE C (.bin .mod (.bi .int1 (.cons false (.bin .fdiv (.nm 3) (.lint 16)) .nil)) (.nm 1)) [some (.ref 1), some (.int many), some (.int s1.left), some (.int m2)] h = some (.int (m2 / 16 % many), h) := fun h => by
      simp only [evE, evA, Bool.false_eq_true, if_false, List.getElem?_cons_succ, List.getElem?_cons_zero, binD]
      rw [chk_pos (show CDiv m2 16 from ⟨by decide, by decide⟩)]
      simp only [Option.map_some, biD, int1D, List.append_nil]
      rw [chk_pos (show (0 : Int) < many by omega)]
      rfl
    refine ⟨m2 / 16 % many, { s2 with mixed := m2 }, sx_next w (sx_next (sx_set g1) (sx_next (sx_f c1 sx_nil) (sx_next (sx_asg e1 p1) (sx_next (sx_set e2) (sx_next (sx_set e3) (sx_next (sx_asg (e4 _) p2) (sx_ret (e5 _)))))))),
      Int.emod_nonneg _ (by omega), fun h => Int.emod_lt_of_pos _ (by omega), fun h => by omega, hl2⟩
/-- the store behind the source is closed -/
def ClR (rest : Hs) : Prop := ∀ o ∈ rest, LowO (rest.length + 2) o
theorem cl_hs {s : Sc} {rest : Hs} (h : ClR rest) : Cl (s.hs rest) := by
  intro o ho
  have hlen : (s.hs rest).length = rest.length + 2 := rfl
  rw [hlen]
  rcases List.mem_cons.mp ho with rfl | ho
  · exact low_ofList (fun a => .int a) _
  · rcases List.mem_cons.mp ho with rfl | ho
    · intro p hp
      simp only [Sc.kv, List.mem_cons, List.not_mem_nil, or_false] at hp
      rcases hp with rfl | rfl | rfl | rfl
      · exact .ref (by omega)
      · exact .int _
      · exact .int _
      · exact .int _
    · exact h o ho
theorem call_pick (hL : 100 < L) (s : Sc) (hs : s.cells.length ≤ 64) (many : Int) (hm : many < 2 ^ 30) (rest : Hs) (hr : ClR rest) :
    ∃ (r : Int) (s' : Sc), callD C L ⟨2, 4, false, bPick⟩ [.ref 1, .int many] (s.hs rest) = some (.int r, s'.hs rest) ∧ 0 ≤ r ∧ (1 ≤ many → r < many) ∧ (many < 2 → r = 0) ∧ s'.cells.length ≤ 64 := by
  obtain ⟨r, s', q, h1, h2, h3, h4⟩ := pick_ok (C := C) hL s hs many hm rest
  refine ⟨r, s', ?_, h1, h2, h3, h4⟩
  rw [callD_eq (F := ⟨2, 4, false, bPick⟩) rfl q]
  have hlen : (s.hs rest).length = (s'.hs rest).length := rfl
  rw [hlen]
  exact fin_low0 (cl_hs hr) (.int _)
end
end Z

set_option Elab.async false
set_option linter.all false
set_option maxRecDepth 100000
set_option maxHeartbeats 8000000
/-! Y3: the source made -/
namespace Z
open PySem PySem.Spec PyProof.Rows L2
section
variable {C : Cal} {L : Nat}
theorem nat15 : (4 : Nat) ≤ 15 := by omega
theorem call_source (ls : List Int) (hl : ls.length ≤ 64) : ∃ s : Sc, callD C L ⟨1, 3, true, bSource⟩ [.scr ls] [] = some (.ref 1, s.hs []) ∧ s.cells.length ≤ 64 := by
  have hsz : ls.length ≤ sizeLine := by
    have := sizeLine_eq
    omega
  have hi : ∀ o o', evI C (.seq (.nm 0)) [some (.scr ls), o, o'] [] = some ((ls.map .int, []), []) := fun o o' => by
    simp only [evI, evE, List.getElem?_cons_zero]
  obtain ⟨e', h', q, _, rfl, m, o, rfl⟩ := sx_for (C := C) (L := L) (tg := .nm 2) (b := .cons (.asg (.nm 1) (.bin .mod (.bi .int1 (.cons false (.bin .add (.bin .add (.bin .mul (.nm 1) (.lint 69069)) (.bin .mul (.nm 2) (.lint 31))) (.lint 5)) .nil)) (.lint 2147483629))) .nil) (hi (some (.int 11)) none)
    (fun l e h => (∀ x ∈ l, ∃ i, x = D.int i) ∧ h = [] ∧ ∃ m o, e = [some (.scr ls), some (.int m), o]) (fun _ _ _ _ => ok_nil) ⟨fun x hx => by
      obtain ⟨i, _, rfl⟩ := List.mem_map.mp hx
      exact ⟨i, rfl⟩, rfl, 11, none, rfl⟩ fun x r e h ⟨hx, hh, m, o, he⟩ => by
    obtain ⟨i, rfl⟩ := hx x List.mem_cons_self
    subst hh he
    have e1 : evE C (.bin .mod (.bi .int1 (.cons false (.bin .add (.bin .add (.bin .mul (.nm 1) (.lint 69069)) (.bin .mul (.nm 2) (.lint 31))) (.lint 5)) .nil)) (.lint 2147483629)) [some (.scr ls), some (.int m), some (.int i)] [] = some (.int ((m * 69069 + i * 31 + 5) % 2147483629), []) := by
      have b1 : evE C (.bin .mul (.nm 1) (.lint 69069)) [some (.scr ls), some (.int m), some (.int i)] [] = some (.int (m * 69069), []) := by
        simp only [evE, List.getElem?_cons_succ, List.getElem?_cons_zero, binD]
        rw [chk_pos (show CMul m 69069 from .inr ⟨by decide, by decide⟩)]
        rfl
      have b2 : evE C (.bin .mul (.nm 2) (.lint 31)) [some (.scr ls), some (.int m), some (.int i)] [] = some (.int (i * 31), []) := by
        simp only [evE, List.getElem?_cons_succ, List.getElem?_cons_zero, binD]
        rw [chk_pos (show CMul i 31 from .inr ⟨by decide, by decide⟩)]
        rfl
      have b3 : evE C (.bin .add (.bin .add (.bin .mul (.nm 1) (.lint 69069)) (.bin .mul (.nm 2) (.lint 31))) (.lint 5)) [some (.scr ls), some (.int m), some (.int i)] [] = some (.int (m * 69069 + i * 31 + 5), []) := by
        rw [evE, evE, b1]
        simp only
        rw [b2]
        rfl
      rw [evE, evE, evA, b3]
      simp only [evA, Bool.false_eq_true, if_false, biD, int1D, List.append_nil, Option.map_some, evE, binD]
      rw [chk_pos (by decide)]
      rfl
    exact ⟨[some (.scr ls), some (.int m), some (.int i)], [], [some (.scr ls), some (.int ((m * 69069 + i * 31 + 5) % 2147483629)), some (.int i)], [], by simp only [evT]; rfl, sx_next (sx_set e1) sx_nil, fun y hy => hx y (List.mem_cons_of_mem _ hy), rfl, _, _, rfl⟩
  have hcomp : evE C (.comp (.bi .abs (.cons false (.nm 2) .nil)) (.nm 2) (.seq (.nm 0)) .nil [2]) [some (.scr ls), some (.int m), o] [] = some (.lst (ls.map fun i => D.int i.natAbs), []) :=
    ev_compA D.int (fun i => D.int i.natAbs) (hi _ _) (fun x _ => turn_all (e2 := [some (.scr ls), some (.int m), some (.int x)]) (by simp only [evT]; rfl) (by simp only [evE, evA, List.getElem?_cons_succ, List.getElem?_cons_zero, Bool.false_eq_true, if_false, List.append_nil, biD, absD, Option.map_some])) hsz
  have hrev : evE C (.al (.slc .rev (.comp (.bi .abs (.cons false (.nm 2) .nil)) (.nm 2) (.seq (.nm 0)) .nil [2]) .nil)) [some (.scr ls), some (.int m), o] [] = some (.ref 0, [.lst (((ls.map fun i => (i.natAbs : Int)).reverse).map .int)]) := by
    rw [evE, evE, hcomp]
    simp only [evA, slcD, revO, getL, Option.map_some, List.nil_append, List.length_nil]
    rw [List.map_reverse, List.map_map]
    rfl
  have hd : evE C (.al (.dct (.cons false (.lstr (PySem.Str.ofString "cells")) (.cons false (.al (.slc .rev (.comp (.bi .abs (.cons false (.nm 2) .nil)) (.nm 2) (.seq (.nm 0)) .nil [2]) .nil)) (.cons false (.lstr (PySem.Str.ofString "left")) (.cons false (.lint 1) (.cons false (.lstr (PySem.Str.ofString "mixed")) (.cons false (.nm 1) (.cons false (.lstr (PySem.Str.ofString "turn")) (.cons false (.lint 0) .nil)))))))))) [some (.scr ls), some (.int m), o] []
      = some (.ref 1, (⟨(ls.map fun i => (i.natAbs : Int)).reverse, 1, m, 0⟩ : Sc).hs []) := by
    have ha : evA C (.cons false (.lstr (PySem.Str.ofString "cells")) (.cons false (.al (.slc .rev (.comp (.bi .abs (.cons false (.nm 2) .nil)) (.nm 2) (.seq (.nm 0)) .nil [2]) .nil)) (.cons false (.lstr (PySem.Str.ofString "left")) (.cons false (.lint 1) (.cons false (.lstr (PySem.Str.ofString "mixed")) (.cons false (.nm 1) (.cons false (.lstr (PySem.Str.ofString "turn")) (.cons false (.lint 0) .nil)))))))) [some (.scr ls), some (.int m), o] []
        = some ([.str (PySem.Str.ofString "cells"), .ref 0, .str (PySem.Str.ofString "left"), .int 1, .str (PySem.Str.ofString "mixed"), .int m, .str (PySem.Str.ofString "turn"), .int 0], [.lst (((ls.map fun i => (i.natAbs : Int)).reverse).map .int)]) := by
      rw [evA, evE]
      simp only
      rw [evA, hrev]
      simp only [evA, evE, List.getElem?_cons_succ, List.getElem?_cons_zero, Bool.false_eq_true, if_false, List.append_nil, List.cons_append, List.nil_append]
    rw [evE, evE, ha]
    simp only [pairsD, keyOf]
    rw [chk_pos (show [((.inr (PySem.Str.ofString "cells") : Key), D.ref 0), (.inr (PySem.Str.ofString "left"), .int 1), (.inr (PySem.Str.ofString "mixed"), .int m), (.inr (PySem.Str.ofString "turn"), .int 0)].length ≤ 15 by simp)]
    rfl
  refine ⟨⟨(ls.map fun i => (i.natAbs : Int)).reverse, 1, m, 0⟩, ?_, by simpa using hl⟩
  rw [callD_eq (F := ⟨1, 3, true, bSource⟩) rfl (sx_next (sx_set (by simp only [evE])) (sx_next q (sx_ret hd)))]
  rfl
end
end Z

set_option Elab.async false
set_option linter.all false
set_option maxRecDepth 100000
set_option maxHeartbeats 8000000
/-! Y4: small reckonings -/
namespace Z
open PySem PySem.Spec PyProof.Rows L2
section
variable {C : Cal} {L : Nat} {e : Ev} {h h1 h2 h3 : Hs} {a b c : Ex} {x y d : D} {i j : Int}
theorem ix_nat (n k : Nat) : ix n (k : Int) = if k < n then some k else none := by
  unfold ix
  rw [if_pos (by omega)]
  by_cases hk : k < n
  · rw [if_pos (by omega), if_pos hk]; simp
  · rw [if_neg (by omega), if_neg hk]
theorem subD_tup (hs : Hs) (l : List D) (k : Nat) : subD hs (.tup l) (.int k) = l[k]? := by
  unfold subD
  simp only [getDk, getDt, getS, ix_nat]
  by_cases hk : k < l.length
  · rw [if_pos hk]; rfl
  · rw [if_neg hk, List.getElem?_eq_none (by omega)]; rfl
theorem subD_lst (hs : Hs) (l : List D) (k : Nat) : subD hs (.lst l) (.int k) = l[k]? := by
  unfold subD
  simp only [getDk, getDt, getS, getL, ix_nat]
  by_cases hk : k < l.length
  · rw [if_pos hk]; rfl
  · rw [if_neg hk, List.getElem?_eq_none (by omega)]; rfl
theorem ev_nm {k : Nat} (q : e[k]? = some (some d)) : evE C (.nm k) e h = some (d, h) := by simp only [evE, q]
theorem ev_bin {op : Bop} (q1 : evE C a e h = some (x, h1)) (q2 : evE C b e h1 = some (y, h2)) (q3 : binD h2 op x y = some d) : evE C (.bin op a b) e h = some (d, h2) := by simp only [evE, q1, q2, q3, Option.map_some]
theorem ev_add (q1 : evE C a e h = some (.int i, h1)) (q2 : evE C b e h1 = some (.int j, h2)) : evE C (.bin .add a b) e h = some (.int (i + j), h2) := ev_bin q1 q2 (by simp only [binD])
theorem ev_sb (q1 : evE C a e h = some (.int i, h1)) (q2 : evE C b e h1 = some (.int j, h2)) : evE C (.bin .sub a b) e h = some (.int (i - j), h2) := ev_bin q1 q2 (by simp only [binD])
theorem ev_sub (q1 : evE C a e h = some (x, h1)) (q2 : evE C b e h1 = some (y, h2)) (q3 : subD h2 x y = some d) : evE C (.sub a b) e h = some (d, h2) := by simp only [evE, q1, q2, q3, Option.map_some]
theorem ev_lint : evE C (.lint i) e h = some (.int i, h) := by simp only [evE]
theorem ev_neg (q : evE C a e h = some (.int i, h1)) : evE C (.neg a) e h = some (.int (-i), h1) := by simp only [evE, q]
theorem ev_bi1 {f : Bi} (q : evE C a e h = some (x, h1)) (q2 : biD h1 f [x] = some d) : evE C (.bi f (.cons false a .nil)) e h = some (d, h1) := by
  simp only [evE, evA, q, Bool.false_eq_true, if_false, List.append_nil, q2, Option.map_some]
theorem ev_bi2 {f : Bi} (q1 : evE C a e h = some (x, h1)) (q : evE C b e h1 = some (y, h2)) (q2 : biD h2 f [x, y] = some d) : evE C (.bi f (.cons false a (.cons false b .nil))) e h = some (d, h2) := by
  simp only [evE, evA, q1, q, Bool.false_eq_true, if_false, List.append_nil, List.cons_append, List.nil_append, q2, Option.map_some]
theorem ev_max2 (q1 : evE C a e h = some (.int i, h1)) (q : evE C b e h1 = some (.int j, h2)) : evE C (.bi .max2 (.cons false a (.cons false b .nil))) e h = some (.int (max i j), h2) := ev_bi2 q1 q (by simp only [biD, max2D])
theorem ev_cmp {op : Cop} {r : Bool} (q1 : evE C a e h = some (x, h1)) (q2 : evE C b e h1 = some (y, h2)) (q3 : cmpD h2 op x y = some r) : evE C (.cmp op a b) e h = some (.bl r, h2) := by simp only [evE, q1, q2, q3, Option.map_some]
theorem ev_call1 {f : Nat} {r : D × Hs} (q : evE C a e h = some (x, h1)) (q2 : C f [x] h1 = some r) : evE C (.call f (.cons false a .nil)) e h = some r := by
  simp only [evE, evA, q, Bool.false_eq_true, if_false, List.append_nil, q2]
theorem ev_call2 {f : Nat} {r : D × Hs} (q1 : evE C a e h = some (x, h1)) (q : evE C b e h1 = some (y, h2)) (q2 : C f [x, y] h2 = some r) : evE C (.call f (.cons false a (.cons false b .nil))) e h = some r := by
  simp only [evE, evA, q1, q, Bool.false_eq_true, if_false, List.append_nil, List.cons_append, List.nil_append, q2]
theorem ev_tup2 (q1 : evE C a e h = some (x, h1)) (q : evE C b e h1 = some (y, h2)) : evE C (.tup (.cons false a (.cons false b .nil))) e h = some (.tup [x, y], h2) := by
  simp only [evE, evA, q1, q, Bool.false_eq_true, if_false, List.append_nil, List.cons_append, List.nil_append]
  exact chk_pos (Nat.le_of_lt (small15 (by simp)))
theorem ev_tup3 (q1 : evE C a e h = some (x, h1)) (q : evE C b e h1 = some (y, h2)) (q3 : evE C c e h2 = some (d, h3)) : evE C (.tup (.cons false a (.cons false b (.cons false c .nil)))) e h = some (.tup [x, y, d], h3) := by
  simp only [evE, evA, q1, q, q3, Bool.false_eq_true, if_false, List.append_nil, List.cons_append, List.nil_append]
  exact chk_pos (Nat.le_of_lt (small15 (by simp)))
theorem ev_lst2 (q1 : evE C a e h = some (x, h1)) (q : evE C b e h1 = some (y, h2)) : evE C (.lst (.cons false a (.cons false b .nil))) e h = some (.lst [x, y], h2) := by
  simp only [evE, evA, q1, q, Bool.false_eq_true, if_false, List.append_nil, List.cons_append, List.nil_append]
  exact chk_pos (Nat.le_of_lt (small15 (by simp)))
theorem cmp_lt : cmpD h .lt (.int i) (.int j) = some (decide (i < j)) := by simp only [cmpD]
theorem cmp_ge : cmpD h .ge (.int i) (.int j) = some (decide (j ≤ i)) := by simp only [cmpD]
theorem bi_len_tup {l : List D} : biD h .len [.tup l] = some (.int l.length) := by simp only [biD, lenD, getS]
theorem bi_len_lst {l : List D} : biD h .len [.lst l] = some (.int l.length) := by simp only [biD, lenD, getS, getL]
theorem bi_tuple_lst {l : List D} : biD h .tuple [.lst l] = some (.tup l) := by simp only [biD, tupleD, one, getS, getL, Option.bind_some, Option.map_some]
end
end Z

set_option Elab.async false
set_option linter.all false
set_option maxRecDepth 100000
set_option maxHeartbeats 8000000
/-! Y5: drawn orders -/
namespace Z
open PySem PySem.Spec PyProof.Rows L2
def PickSpec (C : Cal) (p : Nat) : Prop := ∀ (s : Sc), s.cells.length ≤ 64 → ∀ many : Int, many < 2 ^ 30 → ∀ rest : Hs, ClR rest →
  ∃ (r : Int) (s' : Sc), C p [.ref 1, .int many] (s.hs rest) = some (.int r, s'.hs rest) ∧ 0 ≤ r ∧ (1 ≤ many → r < many) ∧ (many < 2 → r = 0) ∧ s'.cells.length ≤ 64
theorem loopC_inv {src : Src} {g : D → Hs → Option (Option D × Hs)} (I : List D → List D → Hs → Prop) (hok : ∀ l acc h, I l acc h → okSrc h src) (step : ∀ x r acc h, I (x :: r) acc h → ∃ o h', g x h = some (o, h') ∧ I r (acc ++ o.toList) h') :
    ∀ (l acc : List D) (h : Hs), I l acc h → ∃ l' h', loopC src g l h = some (l', h') ∧ I [] (acc ++ l') h'
  | [], acc, h, hi => ⟨[], h, by simp only [loopC]; exact chk_pos (hok _ _ _ hi), by rw [List.append_nil]; exact hi⟩
  | x :: r, acc, h, hi => by
    obtain ⟨o, h1, q1, i1⟩ := step x r acc h hi
    obtain ⟨l2, h2, q2, i2⟩ := loopC_inv I hok step r (acc ++ o.toList) h1 i1
    have hk : chk (okSrc h src) () = some () := chk_pos (hok _ _ _ hi)
    refine ⟨o.toList ++ l2, h2, by simp only [loopC, hk, q1, q2], ?_⟩
    rw [← List.append_assoc]
    exact i2
theorem perm_erase {l : List D} {j : Nat} {x : D} (h : l[j]? = some x) : (x :: l.eraseIdx j).Perm l := by
  induction l generalizing j with
  | nil => simp at h
  | cons y r ih =>
    cases j with
    | zero => simp at h; subst h; exact List.Perm.refl _
    | succ j =>
      simp at h
      rw [List.eraseIdx_cons_succ]
      exact (List.Perm.swap y x _).trans ((ih h).cons y)
def bMixed (p : Nat) : Sms := (.cons (.asg (.nm 2) (.al (.bi .list (.cons false (.nm 1) .nil)))) (.cons (.ret (.comp (.mth .popat (.nm 2) (.cons false (.call p (.cons false (.nm 0) (.cons false (.bi .len (.cons false (.nm 2) .nil)) .nil))) .nil)) (.nm 3) (.rng (.cons false (.bi .len (.cons false (.nm 2) .nil)) .nil)) .nil [3])) .nil))
section
variable {C : Cal} {L : Nat}
theorem rngL_length (n : Nat) (lo : Int) : (rngL lo n).length = n := rngL_len n lo
theorem hs_app (s : Sc) (rest : Hs) (o : O) : s.hs rest ++ [o] = s.hs (rest ++ [o]) := rfl
theorem hs_len (s : Sc) (rest : Hs) : (s.hs rest).length = rest.length + 2 := rfl
theorem hs_get (s : Sc) (rest : Hs) (k : Nat) : (s.hs rest)[k + 2]? = rest[k]? := rfl
theorem hs_last (s : Sc) (rest : Hs) (o : O) : (s.hs (rest ++ [o]))[rest.length + 2]? = some o := by
  rw [hs_get, List.getElem?_append_right (Nat.le_refl _), Nat.sub_self]
  rfl
theorem hs_set (s : Sc) (rest : Hs) (o o' : O) : (s.hs (rest ++ [o])).set (rest.length + 2) o' = s.hs (rest ++ [o']) := by
  show _ :: _ :: ((rest ++ [o]).set rest.length o') = _
  rw [List.set_append_right _ _ (Nat.le_refl _), Nat.sub_self]
  rfl
theorem Low.up {b b' : Nat} (hb : b ≤ b') {d : D} (h : Low b d) : Low b' d := by
  induction h with
  | non => exact .non
  | bl x => exact .bl x
  | int x => exact .int x
  | str x => exact .str x
  | scr x => exact .scr x
  | tup _ ih => exact .tup ih
  | lst _ ih => exact .lst ih
  | dk _ ih => exact .dk ih
  | dt _ ih => exact .dt ih
  | ref h => exact .ref (by omega)
theorem LowO.up {b b' : Nat} (hb : b ≤ b') {o : O} (h : LowO b o) : LowO b' o := by
  cases o with
  | lst xs => exact fun x hx => (h x hx).up hb
  | dk xs => exact fun x hx => (h x hx).up hb
  | dt xs => exact fun x hx => (h x hx).up hb
theorem ClR.add {rest : Hs} {o : O} (h : ClR rest) (ho : LowO (rest.length + 3) o) : ClR (rest ++ [o]) := by
  intro x hx
  rw [List.length_append]
  rcases List.mem_append.mp hx with hx | hx
  · exact (h x hx).up (by omega)
  · rw [List.mem_singleton.mp hx]
    exact ho.up (by simp)
theorem call_mixed {p : Nat} (hp : PickSpec C p) (s : Sc) (hs : s.cells.length ≤ 64) (l : List D) (hl : l.length ≤ 1000) (hd : ∀ b, ∀ x ∈ l, Low b x) (rest : Hs) (hr : ClR rest) :
    ∃ (l' : List D) (s' : Sc), callD C L ⟨2, 4, false, bMixed p⟩ [.ref 1, .lst l] (s.hs rest) = some (.lst l', s'.hs rest) ∧ l'.Perm l ∧ s'.cells.length ≤ 64 := by
  have hsz : (1000 : Nat) < sizeLine := by
    have := sizeLine_eq
    omega
  have e1 : evE C (.al (.bi .list (.cons false (.nm 1) .nil))) [some (.ref 1), some (.lst l), none, none] (s.hs rest) = some (.ref (rest.length + 2), s.hs (rest ++ [.lst l])) := by
    rw [evE, ev_bi1 (ev_nm rfl) (show biD _ .list [.lst l] = some (.lst l) by simp only [biD, listD, one, getS, getL, Option.bind_some, Option.map_some])]
    rfl
  have hi : evI C (.rng (.cons false (.bi .len (.cons false (.nm 2) .nil)) .nil)) [some (.ref 1), some (.lst l), some (.ref (rest.length + 2)), none] (s.hs (rest ++ [.lst l])) = some ((rngL 0 l.length, []), s.hs (rest ++ [.lst l])) := by
    have hlen : biD (s.hs (rest ++ [.lst l])) .len [.ref (rest.length + 2)] = some (.int l.length) := by
      simp only [biD, lenD, getS, getL, hs_last]
    simp only [evI]
    have : evA C (.cons false (.bi .len (.cons false (.nm 2) .nil)) .nil) [some (.ref 1), some (.lst l), some (.ref (rest.length + 2)), none] (s.hs (rest ++ [.lst l])) = some ([.int l.length], s.hs (rest ++ [.lst l])) := by
      rw [evA, ev_bi1 (ev_nm rfl) hlen]
      simp only [evA, Bool.false_eq_true, if_false, List.append_nil]
    rw [this]
    simp only [Int.toNat_natCast]
    exact chk_pos ⟨by omega, by omega⟩
  obtain ⟨l', h', q, ⟨s', cur, rfl, hcur, hperm, hc'⟩⟩ := loopC_inv (src := (rngL 0 l.length, [])) (g := turnC C (.mth .popat (.nm 2) (.cons false (.call p (.cons false (.nm 0) (.cons false (.bi .len (.cons false (.nm 2) .nil)) .nil))) .nil)) (.nm 3) .nil [3] [some (.ref 1), some (.lst l), some (.ref (rest.length + 2)), none])
    (fun rem acc h => ∃ (s' : Sc) (cur : List D), h = s'.hs (rest ++ [.lst cur]) ∧ cur.length = rem.length ∧ (acc ++ cur).Perm l ∧ s'.cells.length ≤ 64) (fun _ _ _ _ => ok_nil) (fun x r acc h hI => by
      obtain ⟨s', cur, rfl, hcur, hperm, hc'⟩ := hI
      have hcl : cur.length ≤ 1000 := by
        have := hperm.length_eq
        rw [List.length_append] at this
        omega
      have hpos : 1 ≤ cur.length := by rw [hcur]; simp
      have hlow : ∀ b, ∀ x ∈ cur, Low b x := fun b x hx => hd b x (hperm.mem_iff.mp (List.mem_append_right _ hx))
      obtain ⟨i, s2, qp, i0, i1, _, hc2⟩ := hp s' hc' (cur.length : Int) (by omega) (rest ++ [.lst cur]) (hr.add (o := .lst cur) (show ∀ x ∈ cur, Low (rest.length + 3) x from fun x hx => hlow _ x hx))
      have hi : i < cur.length := i1 (by omega)
      obtain ⟨j, rfl⟩ : ∃ j : Nat, i = j := ⟨i.toNat, by omega⟩
      have hj : j < cur.length := by omega
      have hlen : biD (s'.hs (rest ++ [.lst cur])) .len [.ref (rest.length + 2)] = some (.int cur.length) := by
        simp only [biD, lenD, getS, getL, hs_last]
      have c1 : evE C (.call p (.cons false (.nm 0) (.cons false (.bi .len (.cons false (.nm 2) .nil)) .nil))) [some (.ref 1), some (.lst l), some (.ref (rest.length + 2)), some x] (s'.hs (rest ++ [.lst cur])) = some (.int j, s2.hs (rest ++ [.lst cur])) :=
        ev_call2 (ev_nm rfl) (ev_bi1 (ev_nm rfl) hlen) qp
      have m1 : evE C (.mth .popat (.nm 2) (.cons false (.call p (.cons false (.nm 0) (.cons false (.bi .len (.cons false (.nm 2) .nil)) .nil))) .nil)) [some (.ref 1), some (.lst l), some (.ref (rest.length + 2)), some x] (s'.hs (rest ++ [.lst cur])) = some (cur[j], s2.hs (rest ++ [.lst (cur.eraseIdx j)])) := by
        rw [evE, ev_nm rfl]
        have mk : mokD (s'.hs (rest ++ [.lst cur])) .popat (.ref (rest.length + 2)) = true := by simp only [mokD, getL, hs_last, Option.isSome]
        simp only [mk, if_true]
        rw [evA, c1]
        simp only [evA, Bool.false_eq_true, if_false, List.append_nil, mthD, popatD, hs_last, ix_nat, hj, if_true, List.getElem?_eq_getElem, hs_set]
        exact chk_pos ⟨by omega, by omega⟩
      refine ⟨some cur[j], s2.hs (rest ++ [.lst (cur.eraseIdx j)]), turn_all (e2 := [some (.ref 1), some (.lst l), some (.ref (rest.length + 2)), some x]) (by simp only [evT]; rfl) m1, s2, _, rfl, ?_, ?_, hc2⟩
      · rw [List.length_eraseIdx, if_pos hj, hcur]
        simp
      · have hp2 := perm_erase (List.getElem?_eq_getElem hj)
        show ((acc ++ [cur[j]]) ++ cur.eraseIdx j).Perm l
        rw [List.append_assoc]
        exact (hp2.append_left acc).trans hperm) (rngL 0 l.length) [] (s.hs (rest ++ [.lst l])) ⟨s, l, rfl, by rw [rngL_length], List.Perm.refl _, hs⟩
  have hcur0 : cur = [] := List.length_eq_zero_iff.mp hcur
  subst hcur0
  rw [List.append_nil, List.nil_append] at hperm
  refine ⟨l', s', ?_, hperm, hc'⟩
  rw [callD_eq (F := ⟨2, 4, false, bMixed p⟩) rfl (sx_next (sx_set e1) (sx_ret (ev_comp hi q (by rw [rngL_length]; omega))))]
  have hlen : (s.hs rest).length = (s'.hs rest).length := rfl
  rw [hlen]
  exact fin_low (hs := s'.hs rest) (ext := [.lst []]) (cl_hs hr) (.lst fun x hx => hd _ x (hperm.mem_iff.mp hx))
end
end Z

/-! M1: Johnson's rule -/
namespace Z
abbrev Job := Int × Int × Int
def W : Int → Int → List Job → Int
  | _, l, [] => l
  | f, l, (a, b, c) :: r => W (f + a) (max l (f + a + b) + c) r
theorem W_mono : ∀ (r : List Job) (f l l' : Int), l ≤ l' → W f l r ≤ W f l' r
  | [], _, _, _, h => h
  | (a, b, c) :: r, f, l, l', h => W_mono r _ _ _ (by omega)
/-- x may stand ahead of y -/
def Ahd (x y : Job) : Prop := min (x.1 + x.2.1) (y.2.1 + y.2.2) ≤ min (y.1 + y.2.1) (x.2.1 + x.2.2)
theorem W_swap {x y : Job} (h : Ahd x y) (r : List Job) (f l : Int) : W f l (x :: y :: r) ≤ W f l (y :: x :: r) := by
  obtain ⟨a, b, c⟩ := x
  obtain ⟨a', b', c'⟩ := y
  unfold Ahd at h
  simp only at h
  simp only [W]
  rw [show f + a' + a = f + a + a' by omega]
  apply W_mono
  omega
theorem W_front {x : Job} : ∀ (l1 l2 : List Job) (f l : Int), (∀ y ∈ l1, Ahd x y) → W f l (x :: (l1 ++ l2)) ≤ W f l (l1 ++ x :: l2)
  | [], _, _, _, _ => Int.le_refl _
  | y :: l1, l2, f, l, h => by
    refine Int.le_trans (W_swap (h y List.mem_cons_self) (l1 ++ l2) f l) ?_
    obtain ⟨a, b, c⟩ := y
    show W _ _ (x :: (l1 ++ l2)) ≤ W _ _ (l1 ++ x :: l2)
    exact W_front l1 l2 _ _ fun y hy => h y (List.mem_cons_of_mem _ hy)
theorem W_least : ∀ (J P : List Job) (f l : Int), J.Pairwise Ahd → P.Perm J → W f l J ≤ W f l P
  | [], P, f, l, _, hp => by
    rw [hp.eq_nil]
    exact Int.le_refl _
  | x :: J, P, f, l, hs, hp => by
    have hx : x ∈ P := hp.mem_iff.mpr List.mem_cons_self
    obtain ⟨l1, l2, rfl⟩ := List.append_of_mem hx
    have hp2 : (l1 ++ l2).Perm J := List.Perm.cons_inv ((List.perm_middle.symm).trans hp)
    have hs' := List.pairwise_cons.mp hs
    refine Int.le_trans ?_ (W_front l1 l2 f l fun y hy => hs'.1 y (hp2.mem_iff.mp (List.mem_append_left _ hy)))
    obtain ⟨a, b, c⟩ := x
    exact W_least J (l1 ++ l2) _ _ hs'.2 hp2
/-- three rooms, one order -/
def S3 : Int → Int → Int → List Job → Int
  | _, _, h, [] => h
  | f, g, h, (a, b, c) :: r => S3 (f + a) (max g (f + a) + b) (max h (max g (f + a) + b) + c) r
theorem W_le_S3 : ∀ (r : List Job) (f g h l : Int), l ≤ h → W f l r ≤ S3 f g h r
  | [], _, _, _, _, q => q
  | (a, b, c) :: r, f, g, h, l, q => W_le_S3 r _ _ _ _ (by omega)
/-- the whole way of one job -/
theorem W_ge : ∀ (r : List Job) (f l : Int), (∀ j ∈ r, 0 ≤ j.2.2) → l ≤ W f l r
  | [], _, _, _ => Int.le_refl _
  | (a, b, c) :: r, f, l, h => by
    have h1 := h (a, b, c) List.mem_cons_self
    simp only at h1
    refine Int.le_trans ?_ (W_ge r (f + a) (max l (f + a + b) + c) fun j hj => h j (List.mem_cons_of_mem _ hj))
    omega
end Z

/-! M2: the wide span by its ways; the orders -/
namespace Z
def mxI : Int → List Int → Int
  | a, [] => a
  | a, b :: r => mxI (max a b) r
theorem mxI_max : ∀ (l : List Int) (a b : Int), mxI (max a b) l = max a (mxI b l)
  | [], _, _ => rfl
  | c :: r, a, b => by
    simp only [mxI]
    rw [show max (max a b) c = max a (max b c) by omega, mxI_max r]
theorem mxI_le : ∀ (l : List Int) (a : Int), a ≤ mxI a l
  | [], _ => Int.le_refl _
  | c :: r, a => by
    simp only [mxI]
    rw [mxI_max]
    omega
theorem mxI_add : ∀ (l : List Int) (a k : Int), mxI (a + k) (l.map (· + k)) = mxI a l + k
  | [], _, _ => rfl
  | c :: r, a, k => by
    simp only [mxI, List.map_cons]
    rw [show max (a + k) (c + k) = max a c + k by omega, mxI_add r]
def wayS : List Job → Nat → Int
  | [], _ => 0
  | (a, b, c) :: r, 0 => a + b + c + (r.map (·.2.2)).sum
  | (a, _, _) :: r, u + 1 => a + wayS r u
theorem W_ways : ∀ (s : List Job) (f l : Int), W f l s = mxI (l + (s.map (·.2.2)).sum) ((List.range s.length).map fun u => f + wayS s u)
  | [], f, l => by simp [W, mxI]
  | (a, b, c) :: r, f, l => by
    simp only [W]
    rw [W_ways r]
    rw [List.length_cons, List.range_succ_eq_map]
    simp only [mxI, wayS, List.map_cons, List.sum_cons, List.map_map]
    congr 1
    · omega
    · apply List.map_congr_left
      intro u _
      show f + a + wayS r u = f + (a + wayS r u)
      omega
theorem sum_nn : ∀ (l : List Int), (∀ x ∈ l, 0 ≤ x) → 0 ≤ l.sum
  | [], _ => by simp
  | x :: r, h => by
    have h1 := h x List.mem_cons_self
    have h2 := sum_nn r fun y hy => h y (List.mem_cons_of_mem _ hy)
    simp only [List.sum_cons]
    omega
theorem W_wide (s : List Job) (h : ∀ j ∈ s, 0 ≤ j.1 ∧ 0 ≤ j.2.1 ∧ 0 ≤ j.2.2) : mxI 0 ((List.range s.length).map fun u => wayS s u) = W 0 0 s := by
  rw [W_ways]
  have hz : 0 ≤ (s.map (·.2.2)).sum := sum_nn _ fun x hx => by
    obtain ⟨j, hj, rfl⟩ := List.mem_map.mp hx
    exact (h j hj).2.2
  cases s with
  | nil => simp [mxI]
  | cons j r =>
    obtain ⟨a, b, c⟩ := j
    have hj := h (a, b, c) List.mem_cons_self
    simp only at hj
    rw [List.length_cons, List.range_succ_eq_map, List.map_cons, List.map_cons]
    simp only [mxI, wayS, List.map_cons, List.sum_cons] at hz ⊢
    congr 1
    · omega
    · apply List.map_congr_left
      intro u _
      omega
/-! the orders -/
def ords (n : Nat) : Nat → List (List Nat)
  | 0 => [[]]
  | k + 1 => (ords n k).flatMap fun o => ((List.range n).filter fun x => decide (x ∉ o)).map fun x => o ++ [x]
theorem mem_ords {n : Nat} : ∀ {k : Nat} {o : List Nat}, o ∈ ords n k ↔ o.Nodup ∧ o.length = k ∧ ∀ x ∈ o, x < n
  | 0, o => by
    simp only [ords, List.mem_singleton]
    constructor
    · rintro rfl
      simp
    · rintro ⟨_, h, _⟩
      exact List.length_eq_zero_iff.mp h
  | k + 1, o => by
    simp only [ords, List.mem_flatMap, List.mem_map, List.mem_filter, List.mem_range, decide_eq_true_eq]
    constructor
    · rintro ⟨p, hp, x, ⟨hx, hn⟩, rfl⟩
      obtain ⟨h1, h2, h3⟩ := mem_ords.mp hp
      refine ⟨?_, by simp [h2], fun y hy => ?_⟩
      · rw [List.nodup_append]
        refine ⟨h1, by simp, fun a ha b hb => ?_⟩
        rw [List.mem_singleton.mp hb]
        intro e
        exact hn (e ▸ ha)
      · rcases List.mem_append.mp hy with hy | hy
        · exact h3 y hy
        · rw [List.mem_singleton.mp hy]
          exact hx
    · rintro ⟨h1, h2, h3⟩
      rcases List.eq_nil_or_concat o with rfl | ⟨p, x, rfl⟩
      · simp at h2
      · rw [List.concat_eq_append] at *
        rw [List.nodup_append] at h1
        obtain ⟨n1, _, n3⟩ := h1
        refine ⟨p, mem_ords.mpr ⟨n1, by simpa using h2, fun y hy => h3 y (List.mem_append_left _ hy)⟩, x, ⟨h3 x (by simp), fun hx => n3 x hx x (by simp) rfl⟩, rfl⟩
theorem ords_len (n : Nat) : ∀ k, (ords n k).length ≤ n ^ k
  | 0 => by simp [ords]
  | k + 1 => by
    simp only [ords, List.length_flatMap]
    have ih := ords_len n k
    have : ∀ (l : List (List Nat)), (l.map fun o => (((List.range n).filter fun x => decide (x ∉ o)).map fun x => o ++ [x]).length).sum ≤ l.length * n := fun l => by
      induction l with
      | nil => simp
      | cons o r ihr =>
        simp only [List.map_cons, List.sum_cons, List.length_cons, List.length_map]
        have h1 : ((List.range n).filter fun x => decide (x ∉ o)).length ≤ n := by
          have := List.length_filter_le (fun x => decide (x ∉ o)) (List.range n)
          rwa [List.length_range] at this
        simp only [List.length_map] at ihr
        rw [Nat.succ_mul]
        omega
    refine Nat.le_trans (this _) ?_
    rw [Nat.pow_succ]
    exact Nat.mul_le_mul_right _ ih
theorem nd_perm : ∀ (o l : List Nat), o.Nodup → (∀ x ∈ o, x ∈ l) → l.length ≤ o.length → o.Perm l
  | [], l, _, _, h => by
    have : l = [] := List.length_eq_zero_iff.mp (Nat.le_zero.mp h)
    rw [this]
  | x :: o, l, hn, hs, h => by
    have hx : x ∈ l := hs x List.mem_cons_self
    have hn' := List.nodup_cons.mp hn
    have hl : (l.erase x).length = l.length - 1 := List.length_erase_of_mem hx
    have ih := nd_perm o (l.erase x) hn'.2 (fun y hy => (List.mem_erase_of_ne (fun (e : y = x) => hn'.1 (by rw [← e]; exact hy))).mpr (hs y (List.mem_cons_of_mem _ hy))) (by rw [hl]; simp only [List.length_cons] at h; omega)
    exact (ih.cons x).trans (List.perm_cons_erase hx).symm
theorem perm_of_ord {n : Nat} {o : List Nat} (h : o.Nodup) (hl : o.length = n) (hx : ∀ x ∈ o, x < n) : o.Perm (List.range n) :=
  nd_perm o (List.range n) h (fun x hx' => List.mem_range.mpr (hx x hx')) (by rw [List.length_range, hl]; exact Nat.le_refl _)
end Z

set_option Elab.async false
set_option linter.all false
set_option maxRecDepth 100000
set_option maxHeartbeats 8000000
/-! Y6: drawn jobs of three rooms -/
namespace Z
open PySem PySem.Spec PyProof.Rows L2
def eJob (j : Job) : D := .tup [.int j.1, .int j.2.1, .int j.2.2]
def eJobs (js : List Job) : D := .tup (js.map eJob)
theorem low_job {b : Nat} (j : Job) : Low b (eJob j) := .tup fun x hx => by
  simp only [List.mem_cons, List.not_mem_nil, or_false] at hx
  rcases hx with rfl | rfl | rfl <;> exact .int _
theorem low_jobs {b : Nat} (js : List Job) : Low b (eJobs js) := .tup (low_ofList low_job js)
theorem py_int {hs : Hs} {n : Nat} {i : Int} : py hs n (.int i) = some (.int i) := by cases n <;> simp only [py]
theorem cmp_eq_int {h : Hs} {i j : Int} : cmpD h .eq (.int i) (.int j) = some (decide (i = j)) := by
  simp only [cmpD, strs2, py_int]
  rw [chk_pos ⟨rfl, rfl⟩]
  simp only [PyData.eqv]
  by_cases e : i = j <;> simp [e]
theorem cmp_ne_int {h : Hs} {i j : Int} : cmpD h .ne (.int i) (.int j) = some (!decide (i = j)) := by
  simp only [cmpD, strs2, py_int]
  rw [chk_pos ⟨rfl, rfl⟩]
  simp only [PyData.eqv]
  by_cases e : i = j <;> simp [e]
section
variable {C : Cal} {L : Nat} {e : Ev} {h h1 h2 h3 : Hs} {a b c : Ex} {x y d : D} {i j : Int}
theorem ev_append {k n : Nat} {l0 l : List D} (q0 : e[k]? = some (some (.ref n))) (q1 : h[n]? = some (.lst l0)) (q2 : evE C a e h = some (x, h1)) (q3 : h1[n]? = some (.lst l)) (hl : l.length < sizeLine) :
    evE C (.mth .append (.nm k) (.cons false a .nil)) e h = some (.non, h1.set n (.lst (l ++ [x]))) := by
  rw [evE, ev_nm q0]
  have mk : mokD h .append (.ref n) = true := by simp only [mokD, getL, q1, Option.isSome]
  simp only [mk, if_true]
  rw [evA, q2]
  simp only [evA, Bool.false_eq_true, if_false, List.append_nil, mthD, appendD, q3]
  exact chk_pos hl
theorem ev_ife {r : Bool} (q : evE C c e h = some (.bl r, h1)) (q1 : evE C a e h1 = some (x, h1)) (q2 : evE C b e h1 = some (y, h1)) : evE C (.ife c a b) e h = some (if r = true then x else y, h1) := by
  cases r <;> simp only [evE, q, q1, q2] <;> rfl
theorem evA_2 (q1 : evE C a e h = some (x, h1)) (q : evE C b e h1 = some (y, h2)) : evA C (.cons false a (.cons false b .nil)) e h = some ([x, y], h2) := by
  simp only [evA, q1, q, Bool.false_eq_true, if_false, List.append_nil, List.cons_append, List.nil_append]
theorem evA_3 (q1 : evE C a e h = some (x, h1)) (q : evE C b e h1 = some (y, h2)) (q3 : evE C c e h2 = some (d, h3)) : evA C (.cons false a (.cons false b (.cons false c .nil))) e h = some ([x, y, d], h3) := by
  simp only [evA, q1, q, q3, Bool.false_eq_true, if_false, List.append_nil, List.cons_append, List.nil_append]
def bJobs (p : Nat) : Sms := (.cons (.par [4, 5] (.cons false (.call p (.cons false (.nm 0) (.cons false (.lint 4) .nil))) (.cons false (.bin .add (.lint 1) (.call p (.cons false (.nm 0) (.cons false (.lint 12) .nil)))) .nil))) (.cons (.asg (.nm 2) (.al (.lst .nil))) (.cons (.forr (.nm 3) (.rng (.cons false (.nm 1) .nil)) (.cons (.par [6, 8, 7] (.cons false (.bin .add (.lint 1) (.call p (.cons false (.nm 0) (.cons false (.nm 5) .nil)))) (.cons false (.bin .add (.lint 1) (.call p (.cons false (.nm 0) (.cons false (.nm 5) .nil)))) (.cons false (.bin .add (.lint 1) (.call p (.cons false (.nm 0) (.cons false (.nm 5) .nil)))) .nil)))) (.cons (.asg (.nm 6) (.ife (.cmp .eq (.nm 4) (.lint 1)) (.bin .add (.nm 6) (.nm 5)) (.nm 6))) (.cons (.asg (.nm 7) (.ife (.cmp .eq (.nm 4) (.lint 2)) (.bin .add (.nm 7) (.nm 5)) (.nm 7))) (.cons (.expr (.mth .append (.nm 2) (.cons false (.tup (.cons false (.nm 6) (.cons false (.nm 8) (.cons false (.nm 7) .nil)))) .nil))) .nil))))) (.cons (.ret (.bi .tuple (.cons false (.nm 2) .nil))) .nil))))
def JobOk (j : Job) : Prop := (1 ≤ j.1 ∧ j.1 ≤ 24) ∧ (1 ≤ j.2.1 ∧ j.2.1 ≤ 24) ∧ (1 ≤ j.2.2 ∧ j.2.2 ≤ 24)
theorem rng_evI {k : Nat} {n : Nat} (q : e[k]? = some (some (.int n))) (hn : n ≤ 100000) : evI C (.rng (.cons false (.nm k) .nil)) e h = some ((rngL 0 n, []), h) := by
  have : evA C (.cons false (.nm k) .nil) e h = some ([.int n], h) := by
    rw [evA, ev_nm q]
    simp only [evA, Bool.false_eq_true, if_false, List.append_nil]
  simp only [evI, this, Int.toNat_natCast]
  exact chk_pos ⟨by omega, by omega⟩
theorem call_jobs {p : Nat} (hp : PickSpec C p) (s : Sc) (hs : s.cells.length ≤ 64) (n : Nat) (hn : n ≤ 1000) (rest : Hs) (hr : ClR rest) :
    ∃ (js : List Job) (s' : Sc), callD C L ⟨2, 9, false, bJobs p⟩ [.ref 1, .int n] (s.hs rest) = some (eJobs js, s'.hs rest) ∧ js.length = n ∧ (∀ j ∈ js, JobOk j) ∧ s'.cells.length ≤ 64 := by
  have hsz : (1000 : Nat) < sizeLine := by
    have := sizeLine_eq
    omega
  obtain ⟨way, s1, p1, w0, w1, _, c1⟩ := hp s hs 4 (by decide) rest hr
  obtain ⟨f0, s2, p2, f00, f01, _, c2⟩ := hp s1 c1 12 (by decide) rest hr
  have hf := f01 (by decide)
  generalize hfar : 1 + f0 = far
  have e1 : evA C (.cons false (.call p (.cons false (.nm 0) (.cons false (.lint 4) .nil))) (.cons false (.bin .add (.lint 1) (.call p (.cons false (.nm 0) (.cons false (.lint 12) .nil)))) .nil)) [some (.ref 1), some (.int n), none, none, none, none, none, none, none] (s.hs rest) = some ([.int way, .int far], s2.hs rest) := by
    rw [← hfar]
    exact evA_2 (ev_call2 (ev_nm rfl) ev_lint p1) (ev_add ev_lint (ev_call2 (ev_nm rfl) ev_lint p2))
  have e2 : evE C (.al (.lst .nil)) [some (.ref 1), some (.int n), none, none, some (.int way), some (.int far), none, none, none] (s2.hs rest) = some (.ref (rest.length + 2), s2.hs (rest ++ [.lst []])) := by
    simp only [evE, evA]
    rw [chk_pos (show ([] : List D).length ≤ sizeLine from Nat.zero_le _)]
    rfl
  obtain ⟨e', h', q, js, s', o3, o6, o7, o8, rfl, rfl, hlen, hok, hc⟩ := sx_for (C := C) (L := L) (tg := .nm 3) (it := .rng (.cons false (.nm 1) .nil)) (e := [some (.ref 1), some (.int n), some (.ref (rest.length + 2)), none, some (.int way), some (.int far), none, none, none]) (h := s2.hs (rest ++ [.lst []]))
    (b := .cons (.par [6, 8, 7] (.cons false (.bin .add (.lint 1) (.call p (.cons false (.nm 0) (.cons false (.nm 5) .nil)))) (.cons false (.bin .add (.lint 1) (.call p (.cons false (.nm 0) (.cons false (.nm 5) .nil)))) (.cons false (.bin .add (.lint 1) (.call p (.cons false (.nm 0) (.cons false (.nm 5) .nil)))) .nil)))) (.cons (.asg (.nm 6) (.ife (.cmp .eq (.nm 4) (.lint 1)) (.bin .add (.nm 6) (.nm 5)) (.nm 6))) (.cons (.asg (.nm 7) (.ife (.cmp .eq (.nm 4) (.lint 2)) (.bin .add (.nm 7) (.nm 5)) (.nm 7))) (.cons (.expr (.mth .append (.nm 2) (.cons false (.tup (.cons false (.nm 6) (.cons false (.nm 8) (.cons false (.nm 7) .nil)))) .nil))) .nil))))
    (rng_evI (n := n) rfl (by omega))
    (fun rem e h => ∃ (js : List Job) (s' : Sc) (o3 o6 o7 o8 : Option D), e = [some (.ref 1), some (.int n), some (.ref (rest.length + 2)), o3, some (.int way), some (.int far), o6, o7, o8] ∧ h = s'.hs (rest ++ [.lst (js.map eJob)]) ∧ js.length + rem.length = n ∧ (∀ j ∈ js, JobOk j) ∧ s'.cells.length ≤ 64)
    (fun _ _ _ _ => ok_nil) ⟨[], s2, none, none, none, none, rfl, rfl, by rw [rngL_length]; simp, fun j hj => by simp at hj, c2⟩ (fun x r e h hI => by
      obtain ⟨js, s', o3, o6, o7, o8, rfl, rfl, hlen, hok, hc⟩ := hI
      have hcl : ClR (rest ++ [.lst (js.map eJob)]) := hr.add (o := .lst (js.map eJob)) (low_ofList low_job js)
      obtain ⟨a, sa, qa, a0, a1, _, ca⟩ := hp s' hc far (by omega) _ hcl
      obtain ⟨b, sb, qb, b0, b1, _, cb⟩ := hp sa ca far (by omega) _ hcl
      obtain ⟨c, sc, qc, c0, c1, _, cc⟩ := hp sb cb far (by omega) _ hcl
      have ha := a1 (by omega)
      have hb := b1 (by omega)
      have hc1 := c1 (by omega)
      have t1 : evA C (.cons false (.bin .add (.lint 1) (.call p (.cons false (.nm 0) (.cons false (.nm 5) .nil)))) (.cons false (.bin .add (.lint 1) (.call p (.cons false (.nm 0) (.cons false (.nm 5) .nil)))) (.cons false (.bin .add (.lint 1) (.call p (.cons false (.nm 0) (.cons false (.nm 5) .nil)))) .nil))) [some (.ref 1), some (.int n), some (.ref (rest.length + 2)), some x, some (.int way), some (.int far), o6, o7, o8] (s'.hs (rest ++ [.lst (js.map eJob)])) = some ([.int (1 + a), .int (1 + b), .int (1 + c)], sc.hs (rest ++ [.lst (js.map eJob)])) :=
        evA_3 (ev_add ev_lint (ev_call2 (ev_nm rfl) (ev_nm rfl) qa)) (ev_add ev_lint (ev_call2 (ev_nm rfl) (ev_nm rfl) qb)) (ev_add ev_lint (ev_call2 (ev_nm rfl) (ev_nm rfl) qc))
      have t2 : evE C (.ife (.cmp .eq (.nm 4) (.lint 1)) (.bin .add (.nm 6) (.nm 5)) (.nm 6)) [some (.ref 1), some (.int n), some (.ref (rest.length + 2)), some x, some (.int way), some (.int far), some (.int (1 + a)), some (.int (1 + c)), some (.int (1 + b))] (sc.hs (rest ++ [.lst (js.map eJob)])) = some (.int (if way = 1 then 1 + a + far else 1 + a), sc.hs (rest ++ [.lst (js.map eJob)])) := by
        have := ev_ife (C := C) (ev_cmp (op := .eq) (ev_nm (e := [some (.ref 1), some (.int n), some (.ref (rest.length + 2)), some x, some (.int way), some (.int far), some (.int (1 + a)), some (.int (1 + c)), some (.int (1 + b))]) (h := sc.hs (rest ++ [.lst (js.map eJob)])) (k := 4) rfl) ev_lint (cmp_eq_int (j := 1))) (ev_add (ev_nm (k := 6) rfl) (ev_nm (k := 5) rfl)) (ev_nm (k := 6) rfl)
        rw [this]
        by_cases hw : way = 1 <;> simp [hw]
      generalize ha' : (if way = 1 then 1 + a + far else 1 + a) = a' at t2
      have t3 : evE C (.ife (.cmp .eq (.nm 4) (.lint 2)) (.bin .add (.nm 7) (.nm 5)) (.nm 7)) [some (.ref 1), some (.int n), some (.ref (rest.length + 2)), some x, some (.int way), some (.int far), some (.int a'), some (.int (1 + c)), some (.int (1 + b))] (sc.hs (rest ++ [.lst (js.map eJob)])) = some (.int (if way = 2 then 1 + c + far else 1 + c), sc.hs (rest ++ [.lst (js.map eJob)])) := by
        have := ev_ife (C := C) (ev_cmp (op := .eq) (ev_nm (e := [some (.ref 1), some (.int n), some (.ref (rest.length + 2)), some x, some (.int way), some (.int far), some (.int a'), some (.int (1 + c)), some (.int (1 + b))]) (h := sc.hs (rest ++ [.lst (js.map eJob)])) (k := 4) rfl) ev_lint (cmp_eq_int (j := 2))) (ev_add (ev_nm (k := 7) rfl) (ev_nm (k := 5) rfl)) (ev_nm (k := 7) rfl)
        rw [this]
        by_cases hw : way = 2 <;> simp [hw]
      generalize hc' : (if way = 2 then 1 + c + far else 1 + c) = c' at t3
      have t4 := ev_append (C := C) (e := [some (.ref 1), some (.int n), some (.ref (rest.length + 2)), some x, some (.int way), some (.int far), some (.int a'), some (.int c'), some (.int (1 + b))]) (h := sc.hs (rest ++ [.lst (js.map eJob)])) (k := 2) rfl (hs_last _ _ _) (ev_tup3 (ev_nm (k := 6) rfl) (ev_nm (k := 8) rfl) (ev_nm (k := 7) rfl)) (hs_last _ _ _) (by rw [List.length_map]; simp only [List.length_cons] at hlen; omega)
      rw [hs_set] at t4
      refine ⟨_, _, _, _, by simp only [evT]; rfl, sx_next (sx_par t1 rfl) (sx_next (sx_set t2) (sx_next (sx_set t3) (sx_next (sx_expr t4) sx_nil))), js ++ [(a', 1 + b, c')], sc, some x, _, _, _, rfl, by rw [List.map_append]; rfl, by rw [List.length_append]; simp only [List.length_cons, List.length_nil] at hlen ⊢; omega, fun j hj => ?_, cc⟩
      rcases List.mem_append.mp hj with hj | hj
      · exact hok j hj
      · rw [List.mem_singleton.mp hj]
        refine ⟨?_, (show 1 ≤ 1 + b ∧ 1 + b ≤ 24 from ⟨by omega, by omega⟩), ?_⟩
        · show 1 ≤ a' ∧ a' ≤ 24
          rw [← ha']
          split <;> omega
        · show 1 ≤ c' ∧ c' ≤ 24
          rw [← hc']
          split <;> omega)
  refine ⟨js, s', ?_, by simpa using hlen, hok, hc⟩
  have ht : biD (s'.hs (rest ++ [.lst (js.map eJob)])) .tuple [.ref (rest.length + 2)] = some (eJobs js) := by
    simp only [biD, tupleD, one, getS, getL, Option.bind_some, hs_last, Option.map_some]
    rfl
  rw [callD_eq (F := ⟨2, 9, false, bJobs p⟩) rfl (sx_next (sx_par e1 rfl) (sx_next (sx_set e2) (sx_next q (sx_ret (ev_bi1 (ev_nm rfl) ht)))))]
  have hlen : (s.hs rest).length = (s'.hs rest).length := rfl
  rw [hlen]
  exact fin_low (hs := s'.hs rest) (ext := [.lst (js.map eJob)]) (cl_hs hr) (low_jobs js)
end
end Z

set_option Elab.async false
set_option linter.all false
set_option maxRecDepth 100000
set_option maxHeartbeats 8000000
/-! Y7: the wide span, the told order -/
namespace Z
open PySem PySem.Spec PyProof.Rows L2
abbrev eN (k : Nat) : D := .int k
def eOrd (o : List Nat) : D := .tup (o.map eN)
theorem low_ord {b : Nat} (o : List Nat) : Low b (eOrd o) := .tup (low_ofList (fun a => .int _) o)
def jAt (js : List Job) (k : Nat) : Job := js.getD k (0, 0, 0)
def sel (js : List Job) (o : List Nat) : List Job := o.map (jAt js)
section
variable {C : Cal} {L : Nat} {e : Ev} {h h1 h2 h3 : Hs} {a b c : Ex} {x y d : D} {i j : Int}
theorem jAt_get {js : List Job} {k : Nat} (hk : k < js.length) : js[k]? = some (jAt js k) := by
  unfold jAt
  rw [List.getD_eq_getElem?_getD, List.getElem?_eq_getElem hk]
  rfl
theorem ev_job {i k : Nat} {js : List Job} {m : Nat} (q1 : e[i]? = some (some (eJobs js))) (q2 : e[k]? = some (some (eN m))) (hm : m < js.length) : evE C (.sub (.nm i) (.nm k)) e h = some (eJob (jAt js m), h) :=
  ev_sub (ev_nm q1) (ev_nm q2) (by
    show subD h (.tup (js.map eJob)) (.int (m : Nat)) = _
    rw [subD_tup, List.getElem?_map, jAt_get hm]
    rfl)
theorem ev_job0 {i k : Nat} {js : List Job} {m : Nat} (q1 : e[i]? = some (some (eJobs js))) (q2 : e[k]? = some (some (eN m))) (hm : m < js.length) : evE C (.sub (.sub (.nm i) (.nm k)) (.lint 0)) e h = some (.int (jAt js m).1, h) :=
  ev_sub (ev_job q1 q2 hm) ev_lint (subD_tup h _ 0)
theorem ev_job1 {i k : Nat} {js : List Job} {m : Nat} (q1 : e[i]? = some (some (eJobs js))) (q2 : e[k]? = some (some (eN m))) (hm : m < js.length) : evE C (.sub (.sub (.nm i) (.nm k)) (.lint 1)) e h = some (.int (jAt js m).2.1, h) :=
  ev_sub (ev_job q1 q2 hm) ev_lint (subD_tup h _ 1)
theorem ev_job2 {i k : Nat} {js : List Job} {m : Nat} (q1 : e[i]? = some (some (eJobs js))) (q2 : e[k]? = some (some (eN m))) (hm : m < js.length) : evE C (.sub (.sub (.nm i) (.nm k)) (.lint 2)) e h = some (.int (jAt js m).2.2, h) :=
  ev_sub (ev_job q1 q2 hm) ev_lint (subD_tup h _ 2)
theorem seq_tup {k : Nat} {l : List D} (q : e[k]? = some (some (.tup l))) : evI C (.seq (.nm k)) e h = some ((l, []), h) := by
  simp only [evI, evE, q]
theorem seq_lst {k : Nat} {l : List D} (q : e[k]? = some (some (.lst l))) : evI C (.seq (.nm k)) e h = some ((l, []), h) := by
  simp only [evI, evE, q]
def bWide : Sms := (.cons (.asg (.tup (.cons (.nm 3) (.cons (.nm 4) .nil))) (.tup (.cons false (.lint 0) (.cons false (.lint 0) .nil)))) (.cons (.forr (.nm 2) (.seq (.nm 1)) (.cons (.asg (.nm 3) (.bin .add (.nm 3) (.sub (.sub (.nm 0) (.nm 2)) (.lint 0)))) (.cons (.asg (.nm 4) (.bin .add (.bi .max2 (.cons false (.nm 4) (.cons false (.bin .add (.nm 3) (.sub (.sub (.nm 0) (.nm 2)) (.lint 1))) .nil))) (.sub (.sub (.nm 0) (.nm 2)) (.lint 2)))) .nil))) (.cons (.ret (.nm 4)) .nil)))
theorem call_wide (js : List Job) (o : List Nat) (ho : ∀ k ∈ o, k < js.length) (hc : Cl h) : callD C L ⟨2, 5, false, bWide⟩ [eJobs js, eOrd o] h = some (.int (W 0 0 (sel js o)), h) := by
  have e1 : evS C L (.asg (.tup (.cons (.nm 3) (.cons (.nm 4) .nil))) (.tup (.cons false (.lint 0) (.cons false (.lint 0) .nil)))) [some (eJobs js), some (eOrd o), none, none, none] h = some (.nx [some (eJobs js), some (eOrd o), none, some (.int 0), some (.int 0)] h) :=
    sx_asg (ev_tup2 ev_lint ev_lint) (by simp only [evT, getS, evTs]; rfl)
  obtain ⟨e', h', q, r, f, l, x, hr, rfl, rfl, hW, _⟩ := sx_for (C := C) (L := L) (tg := .nm 2) (it := .seq (.nm 1)) (e := [some (eJobs js), some (eOrd o), none, some (.int 0), some (.int 0)]) (h := h)
    (b := .cons (.asg (.nm 3) (.bin .add (.nm 3) (.sub (.sub (.nm 0) (.nm 2)) (.lint 0)))) (.cons (.asg (.nm 4) (.bin .add (.bi .max2 (.cons false (.nm 4) (.cons false (.bin .add (.nm 3) (.sub (.sub (.nm 0) (.nm 2)) (.lint 1))) .nil))) (.sub (.sub (.nm 0) (.nm 2)) (.lint 2)))) .nil))
    (seq_tup (l := o.map eN) rfl)
    (fun rem e h' => ∃ (r : List Nat) (f l : Int) (x : Option D), rem = r.map eN ∧ h' = h ∧ e = [some (eJobs js), some (eOrd o), x, some (.int f), some (.int l)] ∧ W f l (sel js r) = W 0 0 (sel js o) ∧ ∀ k ∈ r, k < js.length)
    (fun _ _ _ _ => ok_nil) ⟨o, 0, 0, none, rfl, rfl, rfl, rfl, ho⟩ (fun x rem e h' hI => by
      obtain ⟨r, f, l, x0, hr, rfl, rfl, hW, hk⟩ := hI
      cases r with
      | nil => cases hr
      | cons k r =>
        simp only [List.map_cons, List.cons.injEq] at hr
        obtain ⟨rfl, rfl⟩ := hr
        have hkl := hk k List.mem_cons_self
        have s1 := sx_set (L := L) (i := 3) (ev_add (C := C) (h := h') (ev_nm (e := [some (eJobs js), some (eOrd o), some (eN k), some (.int f), some (.int l)]) (k := 3) rfl) (ev_job0 (i := 0) (k := 2) (js := js) (m := k) rfl rfl hkl))
        have s2 := sx_set (L := L) (i := 4) (ev_add (C := C) (h := h') (ev_max2 (ev_nm (e := [some (eJobs js), some (eOrd o), some (eN k), some (.int (f + (jAt js k).1)), some (.int l)]) (k := 4) rfl) (ev_add (ev_nm (k := 3) rfl) (ev_job1 (i := 0) (k := 2) (js := js) (m := k) rfl rfl hkl))) (ev_job2 (i := 0) (k := 2) (js := js) (m := k) rfl rfl hkl))
        exact ⟨_, _, _, _, by simp only [evT]; rfl, sx_next s1 (sx_next s2 sx_nil), r, _, _, some (eN k), rfl, rfl, rfl, hW, fun m hm => hk m (List.mem_cons_of_mem _ hm)⟩)
  have hr0 : r = [] := by
    cases r with
    | nil => rfl
    | cons _ _ => cases hr
  subst hr0
  have hW' : l = W 0 0 (sel js o) := hW
  rw [callD_eq (F := ⟨2, 5, false, bWide⟩) rfl (sx_next e1 (sx_next q (sx_ret (ev_nm rfl)))), hW']
  exact fin_low0 hc (.int _)
end
end Z

set_option Elab.async false
set_option linter.all false
set_option maxRecDepth 100000
set_option maxHeartbeats 8000000
/-! X2: operations at known kinds -/
namespace Z
open PySem PySem.Spec PyProof.Rows L2
section
variable {h : Hs} {i j : Int} {α : Type} {hs : Hs}
theorem b_add : binD h .add (.int i) (.int j) = some (.int (i + j)) := by simp only [binD]
theorem b_sub : binD h .sub (.int i) (.int j) = some (.int (i - j)) := by simp only [binD]
theorem b_mul : binD h .mul (.int i) (.int j) = chk (CMul i j) (.int (i * j)) := by simp only [binD]
theorem b_fdiv : binD h .fdiv (.int i) (.int j) = chk (CDiv i j) (.int (i / j)) := by simp only [binD]
theorem b_mod : binD h .mod (.int i) (.int j) = chk (0 < j) (.int (i % j)) := by simp only [binD]
theorem b_addT {xs ys : List D} : binD h .add (.tup xs) (.tup ys) = chk (xs.length + ys.length ≤ sizeLine) (.tup (xs ++ ys)) := by simp only [binD]
theorem b_addL {xs ys : List D} : binD h .add (.lst xs) (.lst ys) = chk (xs.length + ys.length ≤ sizeLine) (.lst (xs ++ ys)) := by simp only [binD, getL]
theorem b_addLR {xs : List D} {n : Nat} {Q : D → Prop} : wO (binD h .add (.lst xs) (.ref n)) Q = wO (getL h (.ref n)) fun ys => xs.length + ys.length ≤ sizeLine ∧ Q (.lst (xs ++ ys)) := by
  simp only [binD]
  rw [show getL h (.lst xs) = some xs from rfl]
  cases getL h (.ref n) with
  | none => simp only [wO_none]
  | some ys => simp only [wO_some, wO_chk]
theorem b_addRL {ys : List D} {n : Nat} {Q : D → Prop} : wO (binD h .add (.ref n) (.lst ys)) Q = wO (getL h (.ref n)) fun xs => xs.length + ys.length ≤ sizeLine ∧ Q (.lst (xs ++ ys)) := by
  simp only [binD]
  rw [show getL h (.lst ys) = some ys from rfl]
  cases getL h (.ref n) with
  | none => simp only [wO_none]
  | some xs => simp only [wO_some, wO_chk]
theorem b_mulL {x : D} {k : Nat} : binD h .mul (.lst [x]) (.int (k : Nat)) = chk (k ≤ sizeLine) (.lst (List.replicate k x)) := by
  simp only [binD, getL, List.length_singleton, Nat.one_mul, Int.toNat_natCast]
  have hf : (List.replicate k [x]).flatten = List.replicate k x := by
    induction k with
    | zero => rfl
    | succ k ih => rw [List.replicate_succ, List.replicate_succ, List.flatten_cons, ih]; rfl
  rw [hf]
  have hs := sizeLine_eq
  by_cases hk : k ≤ sizeLine
  · rw [chk_pos hk, chk_pos ⟨by omega, by omega, hk⟩]
  · have e1 : chk (k ≤ sizeLine) (D.lst (List.replicate k x)) = none := by unfold chk; rw [if_neg hk]
    rw [e1]
    unfold chk
    rw [if_neg fun z => hk z.2.2]
theorem c_lt : cmpD h .lt (.int i) (.int j) = some (decide (i < j)) := by simp only [cmpD]
theorem c_le : cmpD h .le (.int i) (.int j) = some (decide (i ≤ j)) := by simp only [cmpD]
theorem c_gt : cmpD h .gt (.int i) (.int j) = some (decide (j < i)) := by simp only [cmpD]
theorem c_ge : cmpD h .ge (.int i) (.int j) = some (decide (j ≤ i)) := by simp only [cmpD]
theorem py_i : py h 60 (.int i) = some (.int i) := by simp only [py]
theorem eqv_int : PyData.eqv (.int i) (.int j) = decide (i = j) := by
  simp only [PyData.eqv]
  by_cases e : i = j <;> simp [e]
theorem strs2_int {y : D} : strs2 (.int i) y = none := by simp only [strs2]
theorem c_eq : cmpD h .eq (.int i) (.int j) = some (decide (i = j)) := by
  simp only [cmpD, strs2_int, py_i]
  rw [chk_pos ⟨rfl, rfl⟩, eqv_int]
theorem c_ne : cmpD h .ne (.int i) (.int j) = some (!decide (i = j)) := by
  simp only [cmpD, strs2_int, py_i]
  rw [chk_pos ⟨rfl, rfl⟩, eqv_int]
theorem c_eqS {s t : Str} : cmpD h .eq (.str s) (.str t) = some (decide (s = t)) := by simp only [cmpD, strs2]
theorem c_neS {s t : Str} : cmpD h .ne (.str s) (.str t) = some (!decide (s = t)) := by simp only [cmpD, strs2]
theorem c_is_int : cmpD h .is (.int i) .non = some false := by simp only [cmpD]
theorem c_is_non : cmpD h .is .non .non = some true := by simp only [cmpD]
theorem c_is_tup {l : List D} : cmpD h .is (.tup l) .non = some false := by simp only [cmpD]
theorem c_isnt_int : cmpD h .isnt (.int i) .non = some true := by simp only [cmpD]
theorem c_isnt_non : cmpD h .isnt .non .non = some false := by simp only [cmpD]
theorem c_isnt_tup {l : List D} : cmpD h .isnt (.tup l) .non = some true := by simp only [cmpD]
/-! builtins -/
theorem u_lenL {l : List D} : biD h .len [.lst l] = some (.int l.length) := by simp only [biD, lenD, getS, getL]
theorem u_lenT {l : List D} : biD h .len [.tup l] = some (.int l.length) := by simp only [biD, lenD, getS]
theorem u_lenR {n : Nat} {l : List D} (e : h[n]? = some (.lst l)) : biD h .len [.ref n] = some (.int l.length) := by simp only [biD, lenD, getS, getL, e]
theorem u_abs : biD h .abs [.int i] = some (.int i.natAbs) := by simp only [biD, absD]
theorem u_int : biD h .int1 [.int i] = some (.int i) := by simp only [biD, int1D]
theorem u_intB {b : Bool} : biD h .int1 [.bl b] = some (.int (if b then 1 else 0)) := by simp only [biD, int1D]
theorem u_max2 : biD h .max2 [.int i, .int j] = some (.int (max i j)) := by simp only [biD, max2D]
theorem u_min2 : biD h .min2 [.int i, .int j] = some (.int (min i j)) := by simp only [biD, min2D]
theorem is_map (f : α → Int) : ∀ xs : List α, intsD (xs.map fun x => .int (f x)) = some (xs.map f)
  | [] => rfl
  | x :: r => by
    rw [List.map_cons, intsD, is_map f r]
    rfl
theorem is_int (xs : List Int) : intsD (xs.map .int) = some xs := by
  have := is_map (fun x : Int => x) xs
  rwa [List.map_id'] at this
theorem is_nil : intsD [] = some [] := rfl
theorem is_cons {r : List D} : intsD (.int i :: r) = (intsD r).map (i :: ·) := rfl
theorem is_app : ∀ {xs ys : List D}, intsD (xs ++ ys) = (intsD xs).bind fun a => (intsD ys).map fun b => a ++ b
  | [], ys => by
    simp only [List.nil_append, intsD, Option.bind_some]
    cases intsD ys <;> rfl
  | x :: xs, ys => by
    cases x with
    | int i =>
      rw [List.cons_append, intsD, intsD, is_app]
      cases intsD xs with
      | none => rfl
      | some a =>
        simp only [Option.bind_some, Option.map_some]
        cases intsD ys <;> rfl
    | _ => simp only [List.cons_append, intsD, Option.bind_none]
theorem bs_map (f : α → Bool) : ∀ xs : List α, boolsD (xs.map fun x => .bl (f x)) = some (xs.map f)
  | [] => rfl
  | x :: r => by
    rw [List.map_cons, boolsD, bs_map f r]
    rfl
theorem u_sum {l : List D} : biD h .sum [.lst l] = (intsD l).map fun l => .int l.sum := by simp only [biD, sumD, one, Option.bind_some, getL]
theorem u_all {l : List D} : biD h .all [.lst l] = (boolsD l).map fun l => .bl (l.all id) := by simp only [biD, allD, one, Option.bind_some, getL]
theorem u_any {l : List D} : biD h .any [.lst l] = (boolsD l).map fun l => .bl (l.any id) := by simp only [biD, anyD, one, Option.bind_some, getL]
def maxO : List Int → Option D
  | i :: r => some (.int (maxI i r))
  | [] => none
def minO : List Int → Option D
  | i :: r => some (.int (minI i r))
  | [] => none
theorem u_max1 {l : List D} : biD h .max1 [.lst l] = (intsD l).bind maxO := by
  simp only [biD, max1D, one, Option.bind_some, getL]
  rcases intsD l with _ | _ | ⟨i, r⟩ <;> rfl
theorem u_min1 {l : List D} : biD h .min1 [.lst l] = (intsD l).bind minO := by
  simp only [biD, min1D, one, Option.bind_some, getL]
  rcases intsD l with _ | _ | ⟨i, r⟩ <;> rfl
theorem u_listT {l : List D} : biD h .list [.tup l] = some (.lst l) := by simp only [biD, listD, one, getS, Option.bind_some, Option.map_some]
theorem u_listL {l : List D} : biD h .list [.lst l] = some (.lst l) := by simp only [biD, listD, one, getS, getL, Option.bind_some, Option.map_some]
theorem u_listR {n : Nat} : biD h .list [.ref n] = (getL h (.ref n)).map .lst := by simp only [biD, listD, one, getS, Option.bind_some]
theorem u_tupL {l : List D} : biD h .tuple [.lst l] = some (.tup l) := by simp only [biD, tupleD, one, getS, getL, Option.bind_some, Option.map_some]
theorem u_tupT {l : List D} : biD h .tuple [.tup l] = some (.tup l) := by simp only [biD, tupleD, one, getS, Option.bind_some, Option.map_some]
theorem u_tupR {n : Nat} : biD h .tuple [.ref n] = (getL h (.ref n)).map .tup := by simp only [biD, tupleD, one, getS, Option.bind_some]
theorem u_vals {kvs : List (Key × D)} : biD h .vals [.dk kvs] = some (.lst (kvs.map (·.2))) := by simp only [biD, valsD, one, getDk, Option.bind_some, Option.map_some]
theorem rngL_add : ∀ (n : Nat) (k : Int), rngL k n = (List.range n).map fun i => D.int (k + (i : Nat))
  | 0, _ => rfl
  | n + 1, k => by
    rw [rngL, rngL_add n (k + 1), List.range_succ_eq_map, List.map_cons, List.map_map]
    congr 1
    · simp
    · apply List.map_congr_left
      intro i _
      show D.int (k + 1 + (i : Nat)) = D.int (k + ((i + 1 : Nat) : Int))
      congr 1
      omega

theorem rng0 (n : Nat) : rngL 0 n = (List.range n).map eN := by
  rw [rngL_add]
  apply List.map_congr_left
  intro i _
  show D.int (0 + (i : Nat)) = .int (i : Nat)
  rw [Int.zero_add]
theorem u_rng1 {j : Int} : biD h .lrng [.int j] = chk (RgOk 0 j) (.lst (rngL 0 j.toNat)) := by simp only [biD, lrngD]
/-! subscripts, slices -/
theorem x_tup {l : List D} {k : Nat} : subD h (.tup l) (.int (k : Nat)) = l[k]? := subD_tup _ _ _
theorem x_lst {l : List D} {k : Nat} : subD h (.lst l) (.int (k : Nat)) = l[k]? := subD_lst _ _ _
theorem x_tupL {l : List D} {k : Nat} : subD h (.tup l) (.int (OfNat.ofNat k)) = l[k]? := subD_tup _ _ _
theorem x_lstL {l : List D} {k : Nat} : subD h (.lst l) (.int (OfNat.ofNat k)) = l[k]? := subD_lst _ _ _
theorem x_tupN {l : List D} {k : Nat} : subD h (.tup l) (eN k) = l[k]? := subD_tup _ _ _
theorem x_lstN {l : List D} {k : Nat} : subD h (.lst l) (eN k) = l[k]? := subD_lst _ _ _
theorem ix_last {n : Nat} : ix n (-1) = if n = 0 then none else some (n - 1) := by
  unfold ix
  rw [if_neg (by omega)]
  by_cases hn : n = 0
  · rw [if_pos hn, if_neg (by omega)]
  · rw [if_neg hn, if_pos (by omega)]
    congr 1
    omega
theorem x_lstE {l : List D} : subD h (.lst l) (.int (-1)) = l.getLast? := by
  unfold subD
  simp only [getDk, getDt, getS, getL, ix_last]
  by_cases hl : l = []
  · subst hl; rfl
  · have : l.length ≠ 0 := fun z => hl (List.length_eq_zero_iff.mp z)
    rw [if_neg this, Option.bind_some, List.getLast?_eq_getElem?]
theorem x_tupE {l : List D} : subD h (.tup l) (.int (-1)) = l.getLast? := by
  unfold subD
  simp only [getDk, getDt, getS, getL, ix_last]
  by_cases hl : l = []
  · subst hl; rfl
  · have : l.length ≠ 0 := fun z => hl (List.length_eq_zero_iff.mp z)
    rw [if_neg this, Option.bind_some, List.getLast?_eq_getElem?]
theorem x_dkI {kvs : List (Key × D)} : subD h (.dk kvs) (.int i) = look kvs (.inl i) := rfl
theorem x_dkS {kvs : List (Key × D)} {s : Str} : subD h (.dk kvs) (.str s) = look kvs (.inr s) := rfl
theorem x_refL {n : Nat} {k : Nat} {Q : D → Prop} {l : List D} (e : h[n]? = some (.lst l)) : subD h (.ref n) (.int (k : Nat)) = l[k]? := by
  have e1 : getDk h (.ref n) = none := by simp only [getDk, e]
  have e2 : getDt h (.ref n) = none := by simp only [getDt, e]
  have e3 : getS h (.ref n) = some l := by simp only [getS, getL, e]
  unfold subD
  simp only [e1, e2, e3, ix_nat]
  by_cases hk : k < l.length
  · rw [if_pos hk]; rfl
  · rw [if_neg hk, List.getElem?_eq_none (by omega)]; rfl
theorem sx_n {n d k : Nat} : sx n d (some (k : Int)) = min k n := by
  unfold sx
  simp only
  rw [if_neg (by omega)]
  simp
theorem cut_lo {α : Type} (l : List α) (k : Nat) : cut l (min k l.length) l.length = l.drop k := by
  unfold cut
  rw [List.take_length]
  by_cases hk : k ≤ l.length
  · rw [Nat.min_eq_left hk]
  · rw [Nat.min_eq_right (by omega), List.drop_length, List.drop_eq_nil_of_le (by omega)]
theorem cut_hi {α : Type} (l : List α) (k : Nat) : cut l 0 (min k l.length) = l.take k := by
  unfold cut
  rw [List.drop_zero]
  by_cases hk : k ≤ l.length
  · rw [Nat.min_eq_left hk]
  · rw [Nat.min_eq_right (by omega), List.take_length, List.take_of_length_le (by omega)]
theorem cut_lohi {α : Type} (l : List α) (i j : Nat) : cut l (min i l.length) (min j l.length) = (l.take j).drop i := by
  unfold cut
  have h1 : l.take (min j l.length) = l.take j := by
    by_cases hk : j ≤ l.length
    · rw [Nat.min_eq_left hk]
    · rw [Nat.min_eq_right (by omega), List.take_length, List.take_of_length_le (by omega)]
  rw [h1]
  by_cases hk : i ≤ l.length
  · rw [Nat.min_eq_left hk]
  · rw [Nat.min_eq_right (by omega), List.drop_eq_nil_of_le (by rw [List.length_take]; omega), List.drop_eq_nil_of_le (by rw [List.length_take]; omega)]
theorem s_loT {l : List D} {k : Nat} : slcD h .lo (.tup l) [.int (k : Nat)] = some (.tup (l.drop k)) := by
  simp only [slcD, bnd, cutO, sx_n, cut_lo]
  rw [show sx l.length l.length none = l.length from rfl, cut_lo]
theorem s_loL {l : List D} {k : Nat} : slcD h .lo (.lst l) [.int (k : Nat)] = some (.lst (l.drop k)) := by
  simp only [slcD, bnd, cutO, sx_n, cut_lo, getL]
  rw [show sx l.length l.length none = l.length from rfl, cut_lo]
theorem s_hiT {l : List D} {k : Nat} : slcD h .hi (.tup l) [.int (k : Nat)] = some (.tup (l.take k)) := by
  simp only [slcD, bnd, cutO, sx_n]
  rw [show sx l.length 0 none = 0 from rfl, cut_hi]
theorem s_hiL {l : List D} {k : Nat} : slcD h .hi (.lst l) [.int (k : Nat)] = some (.lst (l.take k)) := by
  simp only [slcD, bnd, cutO, sx_n, getL]
  rw [show sx l.length 0 none = 0 from rfl, cut_hi]
theorem s_lohiT {l : List D} {i j : Nat} : slcD h .lohi (.tup l) [.int (i : Nat), .int (j : Nat)] = some (.tup ((l.take j).drop i)) := by simp only [slcD, bnd, cutO, sx_n, cut_lohi]
theorem s_lohiL {l : List D} {i j : Nat} : slcD h .lohi (.lst l) [.int (i : Nat), .int (j : Nat)] = some (.lst ((l.take j).drop i)) := by simp only [slcD, bnd, cutO, sx_n, cut_lohi, getL]
theorem s_revT {l : List D} : slcD h .rev (.tup l) [] = some (.tup l.reverse) := by simp only [slcD, revO]
theorem s_revL {l : List D} : slcD h .rev (.lst l) [] = some (.lst l.reverse) := by simp only [slcD, revO, getL]
/-! the store -/
def isL : O → Option (List D)
  | .lst l => some l
  | _ => none
def isDk : O → Option (List (Key × D))
  | .dk l => some l
  | _ => none
theorem getL_ref {n : Nat} : getL h (.ref n) = (h[n]?).bind isL := by
  simp only [getL]
  rcases h[n]? with _ | x
  · rfl
  · cases x <;> rfl
theorem getDk_ref {n : Nat} : getDk h (.ref n) = (h[n]?).bind isDk := by
  simp only [getDk]
  rcases h[n]? with _ | x
  · rfl
  · cases x <;> rfl
theorem isL_l {l : List D} : isL (.lst l) = some l := rfl
theorem isDk_d {l : List (Key × D)} : isDk (.dk l) = some l := rfl
theorem ap_0 {l : Hs} : (h ++ l)[h.length]? = l[0]? := by rw [List.getElem?_append_right (Nat.le_refl _), Nat.sub_self]
theorem ap_k {l : Hs} {k : Nat} : (h ++ l)[h.length + k]? = l[k]? := by rw [List.getElem?_append_right (by omega), Nat.add_sub_cancel_left]
theorem aps_0 {l : Hs} {x : O} : (h ++ l).set h.length x = h ++ l.set 0 x := by rw [List.set_append_right _ _ (Nat.le_refl _), Nat.sub_self]
theorem aps_k {l : Hs} {k : Nat} {x : O} : (h ++ l).set (h.length + k) x = h ++ l.set k x := by rw [List.set_append_right _ _ (by omega), Nat.add_sub_cancel_left]
theorem mok_append {n : Nat} : (mokD h .append (.ref n) = true) = ((getL h (.ref n)).isSome = true) := by simp only [mokD]
theorem mok_extend {n : Nat} : (mokD h .extend (.ref n) = true) = ((getL h (.ref n)).isSome = true) := by simp only [mokD]
theorem mok_pop {n : Nat} : (mokD h .pop (.ref n) = true) = ((getL h (.ref n)).isSome = true) := by simp only [mokD]
theorem mok_popat {n : Nat} : (mokD h .popat (.ref n) = true) = ((getL h (.ref n)).isSome = true) := by simp only [mokD]
theorem m_append {n : Nat} {x : D} {Q : D × Hs → Prop} : wO (mthD h .append (.ref n) [x]) Q = wO (getL h (.ref n)) fun l => l.length < sizeLine ∧ Q (.non, h.set n (.lst (l ++ [x]))) := by
  simp only [mthD, appendD, getL]
  rcases h[n]? with _ | y
  · simp only [wO_none]
  · cases y <;> simp only [wO_none, wO_some, wO_chk]
theorem m_extend {n : Nat} {l' : List D} {Q : D × Hs → Prop} : wO (mthD h .extend (.ref n) [.lst l']) Q = wO (getL h (.ref n)) fun l => l.length + l'.length ≤ sizeLine ∧ Q (.non, h.set n (.lst (l ++ l'))) := by
  simp only [mthD, extendD, getL]
  rcases h[n]? with _ | y
  · simp only [wO_none]
  · cases y <;> simp only [wO_none, wO_some, wO_chk]
theorem m_pop {n : Nat} {Q : D × Hs → Prop} : wO (mthD h .pop (.ref n) []) Q = wO (getL h (.ref n)) fun l => wO l.getLast? fun x => Q (x, h.set n (.lst l.dropLast)) := by
  simp only [mthD, popD, getL]
  rcases h[n]? with _ | y
  · simp only [wO_none]
  · cases y with
    | lst l =>
      simp only [wO_some]
      cases l.getLast? with
      | none => simp only [wO_none]
      | some x => simp only [wO_some]
    | _ => simp only [wO_none]
/-- a list in the store is written -/
theorem st_lst {n : Nat} {k : Nat} {v : D} {l : List D} {Q : Hs → Prop} (e : h[n]? = some (.lst l)) (hk : k < l.length) : wO (setD h (.ref n) (.int (k : Nat)) v) Q = Q (h.set n (.lst (l.set k v))) := by
  unfold setD
  simp only [e, ix_nat, if_pos hk, Option.map_some, wO_some]
theorem st_dkI {n : Nat} {i : Int} {v : D} {kvs : List (Key × D)} {Q : Hs → Prop} (e : h[n]? = some (.dk kvs)) : wO (setD h (.ref n) (.int i) v) Q = (kvs.length < sizeLine ∧ Q (h.set n (.dk (put kvs (.inl i) v)))) := by
  unfold setD
  simp only [e, keyOf, wO_chk]
theorem Sc_get {s : Sc} {rest : Hs} {k : Nat} : (s.hs rest)[k + 2]? = rest[k]? := rfl
theorem Sc_set {s : Sc} {rest : Hs} {k : Nat} {x : O} : (s.hs rest).set (k + 2) x = s.hs (rest.set k x) := rfl
theorem Sc_len {s : Sc} {rest : Hs} : (s.hs rest).length = rest.length + 2 := rfl
theorem Sc_app {s : Sc} {rest l : Hs} : s.hs rest ++ l = s.hs (rest ++ l) := rfl
end
end Z

set_option Elab.async false
set_option linter.all false
set_option maxRecDepth 100000
set_option maxHeartbeats 8000000
/-! Y8: sorted pairs; the told order -/
namespace Z
open PySem PySem.Spec PyProof.Rows L2
def eP (q : Int × Nat) : D := .tup [.int q.1, .int (q.2 : Int)]
def pP (q : Int × Nat) : PyData := .tuple [.int q.1, .int (q.2 : Int)]
def leII (p q : Int × Nat) : Bool := decide (p.1 < q.1 ∨ (p.1 = q.1 ∧ (p.2 : Int) ≤ (q.2 : Int)))
theorem py_eP {hs : Hs} {n : Nat} {q : Int × Nat} : py hs (n + 1) (eP q) = some (pP q) := by
  unfold eP pP
  simp only [py, List.mapM_cons, List.mapM_nil, py_int]
  rfl
theorem mapM_map {α β γ : Type} {f : β → Option γ} (g : α → β) (k : α → γ) : ∀ {l : List α}, (∀ a ∈ l, f (g a) = some (k a)) → (l.map g).mapM f = some (l.map k)
  | [], _ => rfl
  | a :: l, h => by
    rw [List.map_cons, List.mapM_cons, h a List.mem_cons_self, mapM_map g k fun b hb => h b (List.mem_cons_of_mem _ hb)]
    rfl
theorem zip_maps {α β γ : Type} (f : α → β) (g : α → γ) : ∀ l : List α, (l.map f).zip (l.map g) = l.map fun a => (f a, g a)
  | [] => rfl
  | a :: l => by rw [List.map_cons, List.map_cons, List.zip_cons_cons, zip_maps f g l]; rfl
theorem leII_data (p q : Int × Nat) : PySem.W.dataLe false (fun z : D × PyData => z.2) (eP p, pP p) (eP q, pP q) = leII p q := by
  have e : PySem.W.dataLe false (fun z : D × PyData => z.2) (eP p, pP p) (eP q, pP q) = PySem.W.dataLe false (fun b : Int × Nat => .tuple [.int ((fun z : Int × Nat => z.1) b), .int ((fun z : Int × Nat => (z.2 : Int)) b)]) p q := rfl
  rw [e, PySem.W.dataLe_ii]
  rfl
theorem sortedD_ii {hs : Hs} (l : List (Int × Nat)) : sortedD hs [.lst (l.map eP)] = some (.lst ((l.mergeSort leII).map eP)) := by
  have hm : (l.map eP).mapM (py hs 50) = some (l.map pP) := mapM_map eP pP fun a _ => py_eP
  have hal : PySem.W.AllAlike (l.map pP) := fun d hd d' hd' => by
    obtain ⟨a, _, rfl⟩ := List.mem_map.mp hd
    obtain ⟨b, _, rfl⟩ := List.mem_map.mp hd'
    rfl
  have hso : PySem.W.Sortable (l.map pP) := .inl fun d hd => by
    obtain ⟨a, _, rfl⟩ := List.mem_map.mp hd
    exact ⟨_, _, rfl⟩
  simp only [sortedD, one, Option.bind_some, getS, getL, hm]
  rw [chk_pos ⟨hal, hso⟩, zip_maps, ← List.map_mergeSort (r := leII) (fun a _ b _ => (leII_data a b).symm), List.map_map]
  rfl
theorem leII_trans (a b c : Int × Nat) (h1 : leII a b = true) (h2 : leII b c = true) : leII a c = true := by
  unfold leII at *
  simp only [decide_eq_true_eq] at *
  omega
theorem leII_total (a b : Int × Nat) : (leII a b || leII b a) = true := by
  unfold leII
  simp only [Bool.or_eq_true, decide_eq_true_eq]
  omega
theorem enumL_map {α : Type} (f : α → D) : ∀ (l : List α) (k : Nat), enumL (k : Int) (l.map f) = (l.zipIdx k).map fun p => D.tup [.int (p.2 : Int), f p.1]
  | [], _ => rfl
  | x :: r, k => by
    simp only [List.map_cons, enumL, List.zipIdx_cons]
    have := enumL_map f r (k + 1)
    rw [← this]
    rfl
def joA (ps : List (Int × Int)) : List (Int × Nat) := ps.zipIdx.filterMap fun p => if p.1.1 < p.1.2 then some (p.1.1, p.2) else none
def joB (ps : List (Int × Int)) : List (Int × Nat) := ps.zipIdx.filterMap fun p => if p.1.2 ≤ p.1.1 then some (-p.1.2, p.2) else none
def jo (ps : List (Int × Int)) : List Nat := ((joA ps).mergeSort leII ++ (joB ps).mergeSort leII).map (·.2)
def prs (js : List Job) : List (Int × Int) := js.map fun j => (j.1 + j.2.1, j.2.1 + j.2.2)
def told (js : List Job) : List Nat := jo (prs js)
def eI2 (p : Int × Int) : D := .tup [.int p.1, .int p.2]
section
variable {C : Cal} {L : Nat} {e : Ev} {h h1 h2 h3 : Hs} {a b c : Ex} {x y d : D} {i j : Int}
theorem enum_evI {α : Type} {f : α → D} {k : Nat} {l : List α} (q : e[k]? = some (some (.tup (l.map f)))) : evI C (.enum (.nm k)) e h = some ((l.zipIdx.map fun p => D.tup [.int (p.2 : Int), f p.1], []), h) := by
  have := enumL_map f l 0
  simp only [evI, evE, q]
  rw [← this]
  rfl
theorem fm_map2 {α β γ : Type} (f : α → Option β) (g : β → γ) (l : List α) : l.filterMap (fun x => (f x).map g) = (l.filterMap f).map g := by
  rw [List.map_filterMap]
theorem ev_cat {l1 l2 : List D} (q1 : evE C a e h = some (.lst l1, h1)) (q2 : evE C b e h1 = some (.lst l2, h2)) (hl : l1.length + l2.length ≤ sizeLine) : evE C (.bin .add a b) e h = some (.lst (l1 ++ l2), h2) :=
  ev_bin q1 q2 (by
    simp only [binD, getL]
    exact chk_pos hl)
def bTail : Sm := (.ret (.bi .tuple (.cons false (.comp (.nm 3) (.tup (.cons (.nm 4) (.cons (.nm 3) .nil))) (.seq (.bin .add (.nm 1) (.nm 2))) .nil [4, 3]) .nil)))
theorem tail_ok {e : Ev} {l1 l2 : List (Int × Nat)} (q1 : e[1]? = some (some (.lst (l1.map eP)))) (q2 : e[2]? = some (some (.lst (l2.map eP)))) (he : 5 ≤ e.length) (hl : l1.length + l2.length ≤ 1000) : evSs C L (.cons bTail .nil) e h = some (.rt (eOrd ((l1 ++ l2).map (·.2))) h) := by
  have hsz : (1000 : Nat) < sizeLine := by
    have := sizeLine_eq
    omega
  have hi : evI C (.seq (.bin .add (.nm 1) (.nm 2))) e h = some (((l1 ++ l2).map eP, []), h) := by
    have := ev_cat (C := C) (h := h) (ev_nm q1) (ev_nm q2) (by rw [List.length_map, List.length_map]; omega)
    rw [← List.map_append] at this
    simp only [evI, this]
  have hc := ev_compA (C := C) (elt := .nm 3) (tg := .tup (.cons (.nm 4) (.cons (.nm 3) .nil))) (ifs := .nil) (own := [4, 3]) eP (fun q => eN q.2) hi (fun q _ => by
    refine turn_all (e2 := ((wipeD e [4, 3]).set 4 (some (.int q.1))).set 3 (some (eN q.2))) (h1 := h) ?_ (ev_nm ?_)
    · simp only [evT, eP, getS, evTs] <;> rfl
    · rw [List.getElem?_set_self]
      simp only [wipeD, List.length_set]
      omega) (by rw [List.length_append]; omega)
  refine sx_ret (ev_bi1 hc ?_)
  rw [bi_tuple_lst]
  unfold eOrd
  rw [List.map_map]
  rfl
def bJohnson : Sms := (.cons (.asg (.nm 1) (.bi .sorted (.cons false (.comp (.tup (.cons false (.nm 5) (.cons false (.nm 3) .nil))) (.tup (.cons (.nm 3) (.cons (.tup (.cons (.nm 5) (.cons (.nm 6) .nil))) .nil))) (.enum (.nm 0)) (.cons false (.cmp .lt (.nm 5) (.nm 6)) .nil) [3, 5, 6]) .nil))) (.cons (.asg (.nm 2) (.bi .sorted (.cons false (.comp (.tup (.cons false (.neg (.nm 6)) (.cons false (.nm 3) .nil))) (.tup (.cons (.nm 3) (.cons (.tup (.cons (.nm 5) (.cons (.nm 6) .nil))) .nil))) (.enum (.nm 0)) (.cons false (.cmp .ge (.nm 5) (.nm 6)) .nil) [3, 5, 6]) .nil))) (.cons bTail .nil)))
def bTold : Sms := (.cons (.asg (.nm 1) (.bi .sorted (.cons false (.comp (.tup (.cons false (.bin .add (.nm 5) (.nm 6)) (.cons false (.nm 3) .nil))) (.tup (.cons (.nm 3) (.cons (.tup (.cons (.nm 5) (.cons (.nm 6) (.cons (.nm 7) .nil)))) .nil))) (.enum (.nm 0)) (.cons false (.cmp .lt (.nm 5) (.nm 7)) .nil) [3, 5, 6, 7]) .nil))) (.cons (.asg (.nm 2) (.bi .sorted (.cons false (.comp (.tup (.cons false (.bin .sub (.bin .sub (.lint 0) (.nm 6)) (.nm 7)) (.cons false (.nm 3) .nil))) (.tup (.cons (.nm 3) (.cons (.tup (.cons (.nm 5) (.cons (.nm 6) (.cons (.nm 7) .nil)))) .nil))) (.enum (.nm 0)) (.cons false (.cmp .ge (.nm 5) (.nm 7)) .nil) [3, 5, 6, 7]) .nil))) (.cons bTail .nil)))
theorem fm_len {α β : Type} (f : α → Option β) (l : List α) : (l.filterMap f).length ≤ l.length := List.length_filterMap_le f l
theorem jo_call (ps : List (Int × Int)) (hl : ps.length ≤ 400) (hc : Cl h) : callD C L ⟨1, 7, false, bJohnson⟩ [.tup (ps.map eI2)] h = some (eOrd (jo ps), h) := by
  have hsz : (1000 : Nat) < sizeLine := by
    have := sizeLine_eq
    omega
  have hz : ps.zipIdx.length = ps.length := List.length_zipIdx
  have c1 := ev_compF (C := C) (elt := .tup (.cons false (.nm 5) (.cons false (.nm 3) .nil))) (tg := .tup (.cons (.nm 3) (.cons (.tup (.cons (.nm 5) (.cons (.nm 6) .nil))) .nil))) (ifs := .cons false (.cmp .lt (.nm 5) (.nm 6)) .nil) (own := [3, 5, 6])
    (fun p : (Int × Int) × Nat => D.tup [.int (p.2 : Int), eI2 p.1]) (fun p => (if p.1.1 < p.1.2 then some (p.1.1, p.2) else none : Option (Int × Nat)).map eP) (e := [some (.tup (ps.map eI2)), none, none, none, none, none, none]) (h := h) (enum_evI (k := 0) rfl) (fun p _ => by
      have t := turn_if (C := C) (c := .cmp .lt (.nm 5) (.nm 6)) (elt := .tup (.cons false (.nm 5) (.cons false (.nm 3) .nil))) (tg := .tup (.cons (.nm 3) (.cons (.tup (.cons (.nm 5) (.cons (.nm 6) .nil))) .nil))) (own := [3, 5, 6]) (x := D.tup [.int (p.2 : Int), eI2 p.1]) (e := [some (.tup (ps.map eI2)), none, none, none, none, none, none]) (h := h)
        (e2 := [some (.tup (ps.map eI2)), none, none, some (.int p.2), none, some (.int p.1.1), some (.int p.1.2)]) (by simp only [evT, eI2, getS, evTs]; rfl) (ev_cmp (ev_nm rfl) (ev_nm rfl) cmp_lt) (fun _ => ev_tup2 (ev_nm rfl) (ev_nm rfl))
      rw [t]
      by_cases hq : p.1.1 < p.1.2 <;> simp [hq, eP]) (by rw [hz]; omega)
  rw [fm_map2] at c1
  have s1 := ev_bi1 (C := C) (f := .sorted) c1 (show biD h .sorted _ = _ from sortedD_ii (joA ps))
  have c2 := ev_compF (C := C) (elt := .tup (.cons false (.neg (.nm 6)) (.cons false (.nm 3) .nil))) (tg := .tup (.cons (.nm 3) (.cons (.tup (.cons (.nm 5) (.cons (.nm 6) .nil))) .nil))) (ifs := .cons false (.cmp .ge (.nm 5) (.nm 6)) .nil) (own := [3, 5, 6])
    (fun p : (Int × Int) × Nat => D.tup [.int (p.2 : Int), eI2 p.1]) (fun p => (if p.1.2 ≤ p.1.1 then some (-p.1.2, p.2) else none : Option (Int × Nat)).map eP) (e := [some (.tup (ps.map eI2)), some (.lst (((joA ps).mergeSort leII).map eP)), none, none, none, none, none]) (h := h) (enum_evI (k := 0) rfl) (fun p _ => by
      have t := turn_if (C := C) (c := .cmp .ge (.nm 5) (.nm 6)) (elt := .tup (.cons false (.neg (.nm 6)) (.cons false (.nm 3) .nil))) (tg := .tup (.cons (.nm 3) (.cons (.tup (.cons (.nm 5) (.cons (.nm 6) .nil))) .nil))) (own := [3, 5, 6]) (x := D.tup [.int (p.2 : Int), eI2 p.1]) (e := [some (.tup (ps.map eI2)), some (.lst (((joA ps).mergeSort leII).map eP)), none, none, none, none, none]) (h := h)
        (e2 := [some (.tup (ps.map eI2)), some (.lst (((joA ps).mergeSort leII).map eP)), none, some (.int p.2), none, some (.int p.1.1), some (.int p.1.2)]) (by simp only [evT, eI2, getS, evTs]; rfl) (ev_cmp (ev_nm rfl) (ev_nm rfl) cmp_ge) (fun _ => ev_tup2 (ev_neg (ev_nm rfl)) (ev_nm rfl))
      rw [t]
      by_cases hq : p.1.2 ≤ p.1.1 <;> simp [hq, eP]) (by rw [hz]; omega)
  rw [fm_map2] at c2
  have s2 := ev_bi1 (C := C) (f := .sorted) c2 (show biD h .sorted _ = _ from sortedD_ii (joB ps))
  have l1 : ((joA ps).mergeSort leII).length ≤ 400 := by
    rw [List.length_mergeSort]
    exact Nat.le_trans (fm_len _ _) (by rw [hz]; exact hl)
  have l2 : ((joB ps).mergeSort leII).length ≤ 400 := by
    rw [List.length_mergeSort]
    exact Nat.le_trans (fm_len _ _) (by rw [hz]; exact hl)
  have t := tail_ok (C := C) (L := L) (h := h) (e := [some (.tup (ps.map eI2)), some (.lst (((joA ps).mergeSort leII).map eP)), some (.lst (((joB ps).mergeSort leII).map eP)), none, none, none, none]) rfl rfl (by simp) (by omega)
  rw [callD_eq (F := ⟨1, 7, false, bJohnson⟩) rfl (sx_next (sx_set s1) (sx_next (sx_set s2) t))]
  exact fin_low0 hc (low_ord _)
theorem fm_congr {α β : Type} {f g : α → Option β} (h : ∀ a, f a = g a) (l : List α) : l.filterMap f = l.filterMap g := by rw [funext h]
theorem zip_map {α β : Type} (f : α → β) (l : List α) : (l.map f).zipIdx = l.zipIdx.map fun p => (f p.1, p.2) := by
  rw [List.zipIdx_map]
  rfl
theorem joA_prs (js : List Job) : joA (prs js) = js.zipIdx.filterMap fun p => if p.1.1 < p.1.2.2 then some (p.1.1 + p.1.2.1, p.2) else none := by
  unfold joA prs
  rw [zip_map, List.filterMap_map]
  apply fm_congr
  intro p
  simp only [Function.comp]
  by_cases hq : p.1.1 < p.1.2.2
  · rw [if_pos hq, if_pos (by omega)]
  · rw [if_neg hq, if_neg (by omega)]
theorem joB_prs (js : List Job) : joB (prs js) = js.zipIdx.filterMap fun p => if p.1.2.2 ≤ p.1.1 then some (0 - p.1.2.1 - p.1.2.2, p.2) else none := by
  unfold joB prs
  rw [zip_map, List.filterMap_map]
  apply fm_congr
  intro p
  simp only [Function.comp]
  by_cases hq : p.1.2.2 ≤ p.1.1
  · rw [if_pos hq, if_pos (by omega)]
    congr 2
    omega
  · rw [if_neg hq, if_neg (by omega)]
theorem told_call (js : List Job) (hl : js.length ≤ 400) (hc : Cl h) : callD C L ⟨1, 8, false, bTold⟩ [eJobs js] h = some (eOrd (told js), h) := by
  have hsz : (1000 : Nat) < sizeLine := by
    have := sizeLine_eq
    omega
  have hz : js.zipIdx.length = js.length := List.length_zipIdx
  have c1 := ev_compF (C := C) (elt := .tup (.cons false (.bin .add (.nm 5) (.nm 6)) (.cons false (.nm 3) .nil))) (tg := .tup (.cons (.nm 3) (.cons (.tup (.cons (.nm 5) (.cons (.nm 6) (.cons (.nm 7) .nil)))) .nil))) (ifs := .cons false (.cmp .lt (.nm 5) (.nm 7)) .nil) (own := [3, 5, 6, 7])
    (fun p : Job × Nat => D.tup [.int (p.2 : Int), eJob p.1]) (fun p => (if p.1.1 < p.1.2.2 then some (p.1.1 + p.1.2.1, p.2) else none : Option (Int × Nat)).map eP) (e := [some (eJobs js), none, none, none, none, none, none, none]) (h := h) (enum_evI (k := 0) rfl) (fun p _ => by
      have t := turn_if (C := C) (c := .cmp .lt (.nm 5) (.nm 7)) (elt := .tup (.cons false (.bin .add (.nm 5) (.nm 6)) (.cons false (.nm 3) .nil))) (tg := .tup (.cons (.nm 3) (.cons (.tup (.cons (.nm 5) (.cons (.nm 6) (.cons (.nm 7) .nil)))) .nil))) (own := [3, 5, 6, 7]) (x := D.tup [.int (p.2 : Int), eJob p.1]) (e := [some (eJobs js), none, none, none, none, none, none, none]) (h := h)
        (e2 := [some (eJobs js), none, none, some (.int p.2), none, some (.int p.1.1), some (.int p.1.2.1), some (.int p.1.2.2)]) (by simp only [evT, eJob, getS, evTs]; rfl) (ev_cmp (ev_nm rfl) (ev_nm rfl) cmp_lt) (fun _ => ev_tup2 (ev_add (ev_nm rfl) (ev_nm rfl)) (ev_nm rfl))
      rw [t]
      by_cases hq : p.1.1 < p.1.2.2 <;> simp [hq, eP]) (by rw [hz]; omega)
  rw [fm_map2, ← joA_prs] at c1
  have s1 := ev_bi1 (C := C) (f := .sorted) c1 (show biD h .sorted _ = _ from sortedD_ii (joA (prs js)))
  have c2 := ev_compF (C := C) (elt := .tup (.cons false (.bin .sub (.bin .sub (.lint 0) (.nm 6)) (.nm 7)) (.cons false (.nm 3) .nil))) (tg := .tup (.cons (.nm 3) (.cons (.tup (.cons (.nm 5) (.cons (.nm 6) (.cons (.nm 7) .nil)))) .nil))) (ifs := .cons false (.cmp .ge (.nm 5) (.nm 7)) .nil) (own := [3, 5, 6, 7])
    (fun p : Job × Nat => D.tup [.int (p.2 : Int), eJob p.1]) (fun p => (if p.1.2.2 ≤ p.1.1 then some (0 - p.1.2.1 - p.1.2.2, p.2) else none : Option (Int × Nat)).map eP) (e := [some (eJobs js), some (.lst (((joA (prs js)).mergeSort leII).map eP)), none, none, none, none, none, none]) (h := h) (enum_evI (k := 0) rfl) (fun p _ => by
      have t := turn_if (C := C) (c := .cmp .ge (.nm 5) (.nm 7)) (elt := .tup (.cons false (.bin .sub (.bin .sub (.lint 0) (.nm 6)) (.nm 7)) (.cons false (.nm 3) .nil))) (tg := .tup (.cons (.nm 3) (.cons (.tup (.cons (.nm 5) (.cons (.nm 6) (.cons (.nm 7) .nil)))) .nil))) (own := [3, 5, 6, 7]) (x := D.tup [.int (p.2 : Int), eJob p.1]) (e := [some (eJobs js), some (.lst (((joA (prs js)).mergeSort leII).map eP)), none, none, none, none, none, none]) (h := h)
        (e2 := [some (eJobs js), some (.lst (((joA (prs js)).mergeSort leII).map eP)), none, some (.int p.2), none, some (.int p.1.1), some (.int p.1.2.1), some (.int p.1.2.2)]) (by simp only [evT, eJob, getS, evTs]; rfl) (ev_cmp (ev_nm rfl) (ev_nm rfl) cmp_ge) (fun _ => ev_tup2 (ev_sb (ev_sb ev_lint (ev_nm rfl)) (ev_nm rfl)) (ev_nm rfl))
      rw [t]
      by_cases hq : p.1.2.2 ≤ p.1.1 <;> simp [hq, eP]) (by rw [hz]; omega)
  rw [fm_map2, ← joB_prs] at c2
  have s2 := ev_bi1 (C := C) (f := .sorted) c2 (show biD h .sorted _ = _ from sortedD_ii (joB (prs js)))
  have lp : (prs js).length ≤ 400 := by unfold prs; rw [List.length_map]; exact hl
  have l1 : ((joA (prs js)).mergeSort leII).length ≤ 400 := by
    rw [List.length_mergeSort]
    exact Nat.le_trans (fm_len _ _) (by rw [List.length_zipIdx]; exact lp)
  have l2 : ((joB (prs js)).mergeSort leII).length ≤ 400 := by
    rw [List.length_mergeSort]
    exact Nat.le_trans (fm_len _ _) (by rw [List.length_zipIdx]; exact lp)
  have t := tail_ok (C := C) (L := L) (h := h) (e := [some (eJobs js), some (.lst (((joA (prs js)).mergeSort leII).map eP)), some (.lst (((joB (prs js)).mergeSort leII).map eP)), none, none, none, none, none]) rfl rfl (by simp) (by omega)
  rw [callD_eq (F := ⟨1, 8, false, bTold⟩) rfl (sx_next (sx_set s1) (sx_next (sx_set s2) t))]
  exact fin_low0 hc (low_ord _)
def bPairs : Sms := (.cons (.ret (.bi .tuple (.cons false (.comp (.tup (.cons false (.bin .add (.nm 1) (.nm 2)) (.cons false (.bin .add (.nm 2) (.nm 3)) .nil))) (.tup (.cons (.nm 1) (.cons (.nm 2) (.cons (.nm 3) .nil)))) (.seq (.nm 0)) .nil [1, 2, 3]) .nil))) .nil)
theorem pairs_call (js : List Job) (hl : js.length ≤ 400) (hc : Cl h) : callD C L ⟨1, 4, false, bPairs⟩ [eJobs js] h = some (.tup ((prs js).map eI2), h) := by
  have hsz : (1000 : Nat) < sizeLine := by
    have := sizeLine_eq
    omega
  have c1 := ev_compA (C := C) (elt := .tup (.cons false (.bin .add (.nm 1) (.nm 2)) (.cons false (.bin .add (.nm 2) (.nm 3)) .nil))) (tg := .tup (.cons (.nm 1) (.cons (.nm 2) (.cons (.nm 3) .nil)))) (ifs := .nil) (own := [1, 2, 3])
    eJob (fun j => eI2 (j.1 + j.2.1, j.2.1 + j.2.2)) (xs := js) (e := [some (eJobs js), none, none, none]) (h := h) (seq_tup (k := 0) rfl) (fun p _ => turn_all (e2 := [some (eJobs js), some (.int p.1), some (.int p.2.1), some (.int p.2.2)]) (by simp only [evT, eJob, getS, evTs]; rfl) (ev_tup2 (ev_add (ev_nm rfl) (ev_nm rfl)) (ev_add (ev_nm rfl) (ev_nm rfl)))) (by omega)
  rw [callD_eq (F := ⟨1, 4, false, bPairs⟩) rfl (sx_ret (ev_bi1 c1 bi_tuple_lst))]
  have : js.map (fun j => eI2 (j.1 + j.2.1, j.2.1 + j.2.2)) = (prs js).map eI2 := by
    unfold prs
    rw [List.map_map]
    rfl
  rw [this]
  exact fin_low0 hc (.tup (low_ofList (fun p => .tup fun x hx => by
    simp only [List.mem_cons, List.not_mem_nil, or_false] at hx
    rcases hx with rfl | rfl <;> exact .int _) _))
end
end Z

set_option Elab.async false
set_option linter.all false
set_option maxRecDepth 100000
set_option maxHeartbeats 8000000
/-! Y9: the told order is an order, and the best -/
namespace Z
open PySem PySem.Spec PyProof.Rows L2
theorem fm_snd {α β γ : Type} (P : α → Prop) [DecidablePred P] (g : α → β) (s : α → γ) : ∀ l : List α, (l.filterMap fun x => if P x then some (g x, s x) else none).map (·.2) = (l.filter fun x => decide (P x)).map s
  | [] => rfl
  | x :: r => by
    have ih := fm_snd P g s r
    by_cases h : P x
    · simp [List.filterMap_cons, List.filter_cons, h, ih]
    · simp [List.filterMap_cons, List.filter_cons, h, ih]
theorem told_perm (js : List Job) : (told js).Perm (List.range js.length) := by
  unfold told jo
  have p1 : ((joA (prs js)).mergeSort leII).Perm (joA (prs js)) := List.mergeSort_perm _ _
  have p2 : ((joB (prs js)).mergeSort leII).Perm (joB (prs js)) := List.mergeSort_perm _ _
  refine ((p1.append p2).map (·.2)).trans ?_
  rw [List.map_append]
  unfold joA joB
  rw [fm_snd (fun p : (Int × Int) × Nat => p.1.1 < p.1.2) (fun p => p.1.1) (fun p => p.2), fm_snd (fun p : (Int × Int) × Nat => p.1.2 ≤ p.1.1) (fun p => -p.1.2) (fun p => p.2), ← List.map_append]
  have e : ((prs js).zipIdx.filter fun p => decide (p.1.2 ≤ p.1.1)) = (prs js).zipIdx.filter fun p => !decide (p.1.1 < p.1.2) := by
    apply List.filter_congr
    intro p _
    by_cases h : p.1.1 < p.1.2
    · simp [h, show ¬ p.1.2 ≤ p.1.1 by omega]
    · simp [h, show p.1.2 ≤ p.1.1 by omega]
  rw [e]
  refine ((List.filter_append_perm _ _).map _).trans ?_
  rw [List.zipIdx_map_snd]
  unfold prs
  rw [List.length_map, List.range_eq_range']
theorem told_lt (js : List Job) : ∀ k ∈ told js, k < js.length := fun k hk => List.mem_range.mp ((told_perm js).mem_iff.mp hk)
theorem mem_joA {js : List Job} {q : Int × Nat} (h : q ∈ joA (prs js)) : q.1 = (jAt js q.2).1 + (jAt js q.2).2.1 ∧ (jAt js q.2).1 < (jAt js q.2).2.2 := by
  rw [joA_prs] at h
  obtain ⟨p, hp, e⟩ := List.mem_filterMap.mp h
  obtain ⟨j, k⟩ := p
  have hg : js[k]? = some j := List.mem_zipIdx_iff_getElem?.mp hp
  have hj : jAt js k = j := by
    unfold jAt
    rw [List.getD_eq_getElem?_getD, hg]
    rfl
  split at e
  · rename_i hlt
    cases e
    rw [hj]
    exact ⟨rfl, hlt⟩
  · cases e
theorem mem_joB {js : List Job} {q : Int × Nat} (h : q ∈ joB (prs js)) : q.1 = 0 - (jAt js q.2).2.1 - (jAt js q.2).2.2 ∧ (jAt js q.2).2.2 ≤ (jAt js q.2).1 := by
  rw [joB_prs] at h
  obtain ⟨p, hp, e⟩ := List.mem_filterMap.mp h
  obtain ⟨j, k⟩ := p
  have hg : js[k]? = some j := List.mem_zipIdx_iff_getElem?.mp hp
  have hj : jAt js k = j := by
    unfold jAt
    rw [List.getD_eq_getElem?_getD, hg]
    rfl
  split at e
  · rename_i hlt
    cases e
    rw [hj]
    exact ⟨rfl, hlt⟩
  · cases e
theorem told_ahd (js : List Job) : (sel js (told js)).Pairwise Ahd := by
  unfold sel told jo
  rw [List.map_map]
  rw [List.pairwise_map, List.pairwise_append]
  have s1 : ((joA (prs js)).mergeSort leII).Pairwise (fun a b => leII a b = true) := List.pairwise_mergeSort leII_trans leII_total _
  have s2 : ((joB (prs js)).mergeSort leII).Pairwise (fun a b => leII a b = true) := List.pairwise_mergeSort leII_trans leII_total _
  have p1 : ∀ q ∈ (joA (prs js)).mergeSort leII, q ∈ joA (prs js) := fun q hq => (List.mergeSort_perm _ _).mem_iff.mp hq
  have p2 : ∀ q ∈ (joB (prs js)).mergeSort leII, q ∈ joB (prs js) := fun q hq => (List.mergeSort_perm _ _).mem_iff.mp hq
  refine ⟨s1.imp_of_mem fun {x y} hx hy hl => ?_, s2.imp_of_mem fun {x y} hx hy hl => ?_, fun x hx y hy => ?_⟩
  · obtain ⟨a1, a2⟩ := mem_joA (p1 x hx)
    obtain ⟨b1, b2⟩ := mem_joA (p1 y hy)
    unfold leII at hl
    simp only [decide_eq_true_eq] at hl
    show Ahd (jAt js x.2) (jAt js y.2)
    unfold Ahd
    omega
  · obtain ⟨a1, a2⟩ := mem_joB (p2 x hx)
    obtain ⟨b1, b2⟩ := mem_joB (p2 y hy)
    unfold leII at hl
    simp only [decide_eq_true_eq] at hl
    show Ahd (jAt js x.2) (jAt js y.2)
    unfold Ahd
    omega
  · obtain ⟨a1, a2⟩ := mem_joA (p1 x hx)
    obtain ⟨b1, b2⟩ := mem_joB (p2 y hy)
    show Ahd (jAt js x.2) (jAt js y.2)
    unfold Ahd
    omega
/-- Johnson -/
theorem told_least (js : List Job) {o : List Nat} (h : o.Perm (List.range js.length)) : W 0 0 (sel js (told js)) ≤ W 0 0 (sel js o) :=
  W_least _ _ 0 0 (told_ahd js) ((h.trans (told_perm js).symm).map (jAt js))
end Z

set_option Elab.async false
set_option linter.all false
set_option maxRecDepth 100000
set_option maxHeartbeats 8000000
/-! Y10: ways, the wide span by them -/
namespace Z
open PySem PySem.Spec PyProof.Rows L2
theorem intsD_map : ∀ l : List Int, intsD (l.map D.int) = some l
  | [] => rfl
  | x :: r => by simp only [List.map_cons, intsD, intsD_map r, Option.map_some]
theorem maxI_mx : ∀ (l : List Int) (a : Int), maxI a l = mxI a l
  | [], _ => rfl
  | b :: r, a => by simp only [maxI, mxI, maxI_mx r]
theorem cut_map {α β : Type} (f : α → β) (l : List α) (a b : Nat) : cut (l.map f) a b = (cut l a b).map f := by
  unfold cut
  rw [← List.map_take, ← List.map_drop]
theorem sx_nat (n d k : Nat) : sx n d (some (k : Int)) = min k n := by
  show (if (k : Int) < 0 then ((k : Int) + n).toNat else min (k : Int).toNat n) = _
  rw [if_neg (by omega)]
  simp
theorem sx_none (n d : Nat) : sx n d none = d := rfl
def wayV (js : List Job) (o : List Nat) (u v : Nat) : Int := ((o.take (u + 1)).map fun k => (jAt js k).1).sum + (((o.take (v + 1)).drop u).map fun k => (jAt js k).2.1).sum + ((o.drop v).map fun k => (jAt js k).2.2).sum
theorem wayS_eq : ∀ (s : List Job) (u : Nat), u < s.length → wayS s u = ((s.take (u + 1)).map (·.1)).sum + (((s.take (u + 1)).drop u).map (·.2.1)).sum + ((s.drop u).map (·.2.2)).sum
  | [], u, h => by simp at h
  | (a, b, c) :: r, 0, _ => by simp [wayS]; omega
  | (a, b, c) :: r, u + 1, h => by
    have ih := wayS_eq r u (by simpa using h)
    simp only [wayS, ih, List.take_succ_cons, List.map_cons, List.sum_cons, List.drop_succ_cons]
    omega
theorem wayV_S (js : List Job) (o : List Nat) {u : Nat} (h : u < o.length) : wayV js o u u = wayS (sel js o) u := by
  rw [wayS_eq _ _ (by unfold sel; rw [List.length_map]; exact h)]
  unfold wayV sel
  simp only [← List.map_take, ← List.map_drop, List.map_map]
  rfl
section
variable {C : Cal} {L : Nat} {e : Ev} {h h1 h2 h3 : Hs} {a b c : Ex} {x y d : D} {i j : Int}
theorem bi_sum {l : List Int} : biD h .sum [.lst (l.map .int)] = some (.int l.sum) := by
  simp only [biD, sumD, one, getL, Option.bind_some, intsD_map, Option.map_some]
theorem ev_slc {sk : Sk} {es : Exs} {ds : List D} (q1 : evE C a e h = some (x, h1)) (q2 : evA C es e h1 = some (ds, h2)) (q3 : slcD h2 sk x ds = some d) : evE C (.slc sk a es) e h = some (d, h2) := by
  simp only [evE, q1, q2, q3, Option.map_some]
theorem evA_1 (q1 : evE C a e h = some (x, h1)) : evA C (.cons false a .nil) e h = some ([x], h1) := by
  simp only [evA, q1, Bool.false_eq_true, if_false, List.append_nil]
theorem ev_sumJ {t : Int} {f : Job → Int} {sl : Ex} {js : List Job} {o : List Nat} (q0 : e[0]? = some (some (eJobs js))) (hlen : 6 < e.length) (q : evE C sl e h = some (.tup (o.map eN), h)) (ho : ∀ k ∈ o, k < js.length) (hl : o.length ≤ 1000)
    (hf : ∀ j, subD h (eJob j) (.int t) = some (.int (f j))) :
    evE C (.bi .sum (.cons false (.comp (.sub (.sub (.nm 0) (.nm 6)) (.lint t)) (.nm 6) (.seq sl) .nil [6]) .nil)) e h = some (.int (o.map fun k => f (jAt js k)).sum, h) := by
  have hsz : (1000 : Nat) < sizeLine := by
    have := sizeLine_eq
    omega
  have hi : evI C (.seq sl) e h = some ((o.map eN, []), h) := by simp only [evI, q]
  have c1 := ev_compA (C := C) (elt := .sub (.sub (.nm 0) (.nm 6)) (.lint t)) (tg := .nm 6) (ifs := .nil) (own := [6]) eN (fun k => D.int (f (jAt js k))) hi (fun k hk => by
    have z0 : ((wipeD e [6]).set 6 (some (eN k)))[0]? = some (some (eJobs js)) := by
      simp only [wipeD]
      rw [List.getElem?_set_ne (by omega), List.getElem?_set_ne (by omega), q0]
    have z6 : ((wipeD e [6]).set 6 (some (eN k)))[6]? = some (some (eN k)) := by
      rw [List.getElem?_set_self]
      simp only [wipeD, List.length_set]
      exact hlen
    exact turn_all (e2 := (wipeD e [6]).set 6 (some (eN k))) (by simp only [evT]) (ev_sub (ev_job z0 z6 (ho k hk)) ev_lint (hf _))) (by omega)
  refine ev_bi1 c1 ?_
  have : o.map (fun k => D.int (f (jAt js k))) = (o.map fun k => f (jAt js k)).map D.int := by
    rw [List.map_map]
    rfl
  rw [this]
  exact bi_sum
def bWay : Sms := (.cons (.asg (.nm 4) (.bi .sum (.cons false (.comp (.sub (.sub (.nm 0) (.nm 6)) (.lint 0)) (.nm 6) (.seq (.slc .hi (.nm 1) (.cons false (.bin .add (.nm 2) (.lint 1)) .nil))) .nil [6]) .nil))) (.cons (.asg (.nm 5) (.bi .sum (.cons false (.comp (.sub (.sub (.nm 0) (.nm 6)) (.lint 1)) (.nm 6) (.seq (.slc .lohi (.nm 1) (.cons false (.nm 2) (.cons false (.bin .add (.nm 3) (.lint 1)) .nil)))) .nil [6]) .nil))) (.cons (.ret (.bin .add (.bin .add (.nm 4) (.nm 5)) (.bi .sum (.cons false (.comp (.sub (.sub (.nm 0) (.nm 6)) (.lint 2)) (.nm 6) (.seq (.slc .lo (.nm 1) (.cons false (.nm 3) .nil))) .nil [6]) .nil)))) .nil)))
theorem way_call (js : List Job) (o : List Nat) (u v : Nat) (ho : ∀ k ∈ o, k < js.length) (hl : o.length ≤ 1000) (hc : Cl h) : callD C L ⟨4, 7, false, bWay⟩ [eJobs js, eOrd o, .int u, .int v] h = some (.int (wayV js o u v), h) := by
  have n1 : ((u : Int) + 1) = ((u + 1 : Nat) : Int) := by omega
  have n2 : ((v : Int) + 1) = ((v + 1 : Nat) : Int) := by omega
  have sl1 : ∀ e : Ev, e[1]? = some (some (eOrd o)) → e[2]? = some (some (.int u)) → evE C (.slc .hi (.nm 1) (.cons false (.bin .add (.nm 2) (.lint 1)) .nil)) e h = some (.tup ((o.take (u + 1)).map eN), h) := fun e q1 q2 => by
    refine ev_slc (ev_nm q1) (evA_1 (ev_add (ev_nm q2) ev_lint)) ?_
    simp only [slcD, bnd, cutO, eOrd, n1, sx_nat, sx_none, cut_map, List.length_map]
    unfold cut
    rw [List.drop_zero, ← List.take_eq_take_min]
  have sl2 : ∀ e : Ev, e[1]? = some (some (eOrd o)) → e[2]? = some (some (.int u)) → e[3]? = some (some (.int v)) → evE C (.slc .lohi (.nm 1) (.cons false (.nm 2) (.cons false (.bin .add (.nm 3) (.lint 1)) .nil))) e h = some (.tup (((o.take (v + 1)).drop u).map eN), h) := fun e q1 q2 q3 => by
    refine ev_slc (ev_nm q1) (evA_2 (ev_nm q2) (ev_add (ev_nm q3) ev_lint)) ?_
    simp only [slcD, bnd, cutO, eOrd, n2, sx_nat, cut_map, List.length_map]
    unfold cut
    rw [← List.take_eq_take_min]
    by_cases hu : u ≤ o.length
    · rw [Nat.min_eq_left hu]
    · rw [Nat.min_eq_right (by omega), List.drop_eq_nil_of_le (by rw [List.length_take]; omega), List.drop_eq_nil_of_le (by rw [List.length_take]; omega)]
  have sl3 : ∀ e : Ev, e[1]? = some (some (eOrd o)) → e[3]? = some (some (.int v)) → evE C (.slc .lo (.nm 1) (.cons false (.nm 3) .nil)) e h = some (.tup ((o.drop v).map eN), h) := fun e q1 q2 => by
    refine ev_slc (ev_nm q1) (evA_1 (ev_nm q2)) ?_
    simp only [slcD, bnd, cutO, eOrd, sx_nat, sx_none, cut_map, List.length_map]
    unfold cut
    rw [List.take_length]
    by_cases hu : v ≤ o.length
    · rw [Nat.min_eq_left hu]
    · rw [Nat.min_eq_right (by omega), List.drop_eq_nil_of_le (Nat.le_refl _), List.drop_eq_nil_of_le (by omega)]
  have b1 : ∀ k ∈ o.take (u + 1), k < js.length := fun k hk => ho k (List.mem_of_mem_take hk)
  have b2 : ∀ k ∈ (o.take (v + 1)).drop u, k < js.length := fun k hk => ho k (List.mem_of_mem_take (List.mem_of_mem_drop hk))
  have b3 : ∀ k ∈ o.drop v, k < js.length := fun k hk => ho k (List.mem_of_mem_drop hk)
  have s1 := ev_sumJ (C := C) (h := h) (t := 0) (f := fun j => j.1) (js := js) (e := [some (eJobs js), some (eOrd o), some (.int u), some (.int v), none, none, none]) rfl (by simp) (sl1 _ rfl rfl) b1 (by rw [List.length_take]; omega) (fun j => subD_tup h _ 0)
  generalize h1' : ((o.take (u + 1)).map fun k => (jAt js k).1).sum = w1 at s1
  have s2 := ev_sumJ (C := C) (h := h) (t := 1) (f := fun j => j.2.1) (js := js) (e := [some (eJobs js), some (eOrd o), some (.int u), some (.int v), some (.int w1), none, none]) rfl (by simp) (sl2 _ rfl rfl rfl) b2 (by rw [List.length_drop, List.length_take]; omega) (fun j => subD_tup h _ 1)
  generalize h2' : (((o.take (v + 1)).drop u).map fun k => (jAt js k).2.1).sum = w2 at s2
  have s3 := ev_sumJ (C := C) (h := h) (t := 2) (f := fun j => j.2.2) (js := js) (e := [some (eJobs js), some (eOrd o), some (.int u), some (.int v), some (.int w1), some (.int w2), none]) rfl (by simp) (sl3 _ rfl rfl) b3 (by rw [List.length_drop]; omega) (fun j => subD_tup h _ 2)
  rw [callD_eq (F := ⟨4, 7, false, bWay⟩) rfl (sx_next (sx_set s1) (sx_next (sx_set s2) (sx_ret (ev_add (ev_add (ev_nm rfl) (ev_nm rfl)) s3))))]
  unfold wayV
  rw [h1', h2']
  exact fin_low0 hc (.int _)
theorem ev_call4 {f : Nat} {a' b' : Ex} {x' y' : D} {h4 : Hs} {r : D × Hs} (q1 : evE C a e h = some (x, h1)) (q2 : evE C b e h1 = some (y, h2)) (q3 : evE C a' e h2 = some (x', h3)) (q4 : evE C b' e h3 = some (y', h4)) (q : C f [x, y, x', y'] h4 = some r) :
    evE C (.call f (.cons false a (.cons false b (.cons false a' (.cons false b' .nil))))) e h = some r := by
  simp only [evE, evA, q1, q2, q3, q4, Bool.false_eq_true, if_false, List.append_nil, List.cons_append, List.nil_append, q]
theorem rng_evI' {k : Nat} {l : List D} (q : e[k]? = some (some (.tup l))) (hn : l.length ≤ 100000) : evI C (.rng (.cons false (.bi .len (.cons false (.nm k) .nil)) .nil)) e h = some ((rngL 0 l.length, []), h) := by
  have : evA C (.cons false (.bi .len (.cons false (.nm k) .nil)) .nil) e h = some ([.int l.length], h) := evA_1 (ev_bi1 (ev_nm q) bi_len_tup)
  simp only [evI, this, Int.toNat_natCast]
  exact chk_pos ⟨by omega, by omega⟩
theorem rngL_map : ∀ (n k : Nat), rngL (k : Int) n = (List.range' k n).map eN
  | 0, _ => rfl
  | n + 1, k => by
    simp only [rngL, List.range'_succ, List.map_cons]
    rw [← rngL_map n (k + 1)]
    rfl
theorem rngL_map0 (n : Nat) : rngL 0 n = (List.range n).map eN := by
  rw [List.range_eq_range']
  exact rngL_map n 0
theorem bi_max1 {a0 : Int} {l : List Int} : biD h .max1 [.lst (.int a0 :: l.map .int)] = some (.int (mxI a0 l)) := by
  have : intsD (D.int a0 :: l.map .int) = some (a0 :: l) := intsD_map (a0 :: l)
  simp only [biD, max1D, one, Option.bind_some, getL, this, maxI_mx]
def bWideSpan (p : Nat) : Sms := (.cons (.ret (.bi .max1 (.cons false (.lst (.cons false (.lint 0) (.cons true (.comp (.call p (.cons false (.nm 0) (.cons false (.nm 1) (.cons false (.nm 2) (.cons false (.nm 2) .nil))))) (.nm 2) (.rng (.cons false (.bi .len (.cons false (.nm 1) .nil)) .nil)) .nil [2]) .nil))) .nil))) .nil)
theorem wspan_call {p : Nat} (js : List Job) (o : List Nat) (hp : ∀ u, C p [eJobs js, eOrd o, .int (u : Nat), .int (u : Nat)] h = some (.int (wayV js o u u), h)) (ho : ∀ k ∈ o, k < js.length) (hl : o.length ≤ 1000) (hj : ∀ j ∈ js, JobOk j) (hc : Cl h) :
    callD C L ⟨2, 3, false, bWideSpan p⟩ [eJobs js, eOrd o] h = some (.int (W 0 0 (sel js o)), h) := by
  have hsz : (2000 : Nat) < sizeLine := by
    have := sizeLine_eq
    omega
  have hi : evI C (.rng (.cons false (.bi .len (.cons false (.nm 1) .nil)) .nil)) [some (eJobs js), some (eOrd o), none] h = some (((List.range o.length).map eN, []), h) := by
    have := rng_evI' (C := C) (h := h) (e := [some (eJobs js), some (eOrd o), none]) (k := 1) (l := o.map eN) rfl (by rw [List.length_map]; omega)
    rw [List.length_map, rngL_map0] at this
    exact this
  have c1 := ev_compA (C := C) (elt := .call p (.cons false (.nm 0) (.cons false (.nm 1) (.cons false (.nm 2) (.cons false (.nm 2) .nil))))) (tg := .nm 2) (ifs := .nil) (own := [2]) eN (fun u => D.int (wayV js o u u)) hi (fun u _ => turn_all (e2 := [some (eJobs js), some (eOrd o), some (eN u)]) (by simp only [evT]; rfl) (ev_call4 (ev_nm rfl) (ev_nm rfl) (ev_nm rfl) (ev_nm rfl) (hp u))) (by rw [List.length_range]; omega)
  have e1 : evE C (.lst (.cons false (.lint 0) (.cons true (.comp (.call p (.cons false (.nm 0) (.cons false (.nm 1) (.cons false (.nm 2) (.cons false (.nm 2) .nil))))) (.nm 2) (.rng (.cons false (.bi .len (.cons false (.nm 1) .nil)) .nil)) .nil [2]) .nil))) [some (eJobs js), some (eOrd o), none] h = some (.lst (.int 0 :: ((List.range o.length).map fun u => wayV js o u u).map .int), h) := by
    have hm : (List.range o.length).map (fun u => D.int (wayV js o u u)) = ((List.range o.length).map fun u => wayV js o u u).map .int := by
      rw [List.map_map]
      rfl
    rw [evE, evA, ev_lint]
    simp only
    rw [evA, c1]
    simp only [evA, Bool.false_eq_true, if_false, if_true, getS, getL, List.append_nil, List.cons_append, List.nil_append, hm]
    exact chk_pos (by simp; omega)
  have hw : mxI 0 ((List.range o.length).map fun u => wayV js o u u) = W 0 0 (sel js o) := by
    rw [← W_wide (sel js o) (fun j hj' => by
      unfold sel at hj'
      obtain ⟨k, hk, rfl⟩ := List.mem_map.mp hj'
      have hm : jAt js k ∈ js := List.mem_of_getElem? (jAt_get (ho k hk))
      obtain ⟨⟨a1, _⟩, ⟨a2, _⟩, ⟨a3, _⟩⟩ := hj _ hm
      omega)]
    have hsl : (sel js o).length = o.length := by unfold sel; rw [List.length_map]
    rw [hsl]
    congr 1
    apply List.map_congr_left
    intro u hu
    exact wayV_S js o (List.mem_range.mp hu)
  rw [callD_eq (F := ⟨2, 3, false, bWideSpan p⟩) rfl (sx_ret (ev_bi1 e1 bi_max1)), hw]
  exact fin_low0 hc (.int _)
end
end Z

set_option Elab.async false
set_option linter.all false
set_option maxRecDepth 100000
set_option maxHeartbeats 8000000
/-! Y11: all orders -/
namespace Z
open PySem PySem.Spec PyProof.Rows L2
def stepO (n : Nat) (l : List (List Nat)) : List (List Nat) := l.flatMap fun o => ((List.range n).filter fun x => decide (x ∉ o)).map fun x => o ++ [x]
theorem py_ord {hs : Hs} {n : Nat} (o : List Nat) : py hs (n + 1) (eOrd o) = some (.tuple (o.map fun k => .int (k : Nat))) := by
  have : (o.map eN).mapM (py hs n) = some (o.map fun (k : Nat) => PyData.int k) := mapM_map eN (fun (k : Nat) => PyData.int k) fun a _ => py_int
  unfold eOrd
  simp only [py, this, Option.map_some]
theorem lay_ints : ∀ o : List Nat, PyData.canLayAll0 (o.map fun (k : Nat) => PyData.int k) = true
  | [] => rfl
  | x :: r => by
    simp only [List.map_cons, PyData.canLayAll0, PyData.canLay0, lay_ints r, Bool.and_self]
theorem any_ints (k : Nat) : ∀ o : List Nat, ((o.map fun (x : Nat) => PyData.int x).any fun z => PyData.eqv z (.int (k : Nat))) = decide (k ∈ o)
  | [] => by simp
  | x :: r => by
    simp only [List.map_cons, List.any_cons, any_ints k r, PyData.eqv]
    by_cases e : x = k
    · subst e; simp
    · have e' : ¬ k = x := fun q => e q.symm
      have e2 : ((x : Int) == (k : Int)) = false := by
        rw [beq_eq_false_iff_ne]
        omega
      rw [e2]
      simp [e']
theorem cmp_notin {h : Hs} (k : Nat) (o : List Nat) : cmpD h .notin (eN k) (eOrd o) = some (decide (k ∉ o)) := by
  have e1 : getDk h (eOrd o) = none := rfl
  have e2 : getDt h (eOrd o) = none := rfl
  have e3 : getS h (eOrd o) = some (o.map eN) := rfl
  have e4 : py h 60 (eN k) = some (.int (k : Nat)) := py_int
  simp only [cmpD, e1, e2, e3, py_ord, e4]
  rw [chk_pos ⟨by simp only [PyData.canLay0, lay_ints], rfl⟩, any_ints]
  by_cases hk : k ∈ o <;> simp [hk]
section
variable {C : Cal} {L : Nat} {e : Ev} {h h1 h2 h3 : Hs} {a b c : Ex} {x y d : D} {i j : Int}
def newOs (n : Nat) (o : List Nat) : List (List Nat) := ((List.range n).filter fun x => decide (x ∉ o)).map fun x => o ++ [x]
theorem newOs_fm (n : Nat) (o : List Nat) : ((List.range n).filterMap fun k => if decide (k ∉ o) = true then some (eOrd (o ++ [k])) else none) = (newOs n o).map eOrd := by
  unfold newOs
  induction List.range n with
  | nil => rfl
  | cons k r ih =>
    by_cases hk : k ∈ o
    · simp [List.filterMap_cons, List.filter_cons, hk] at ih ⊢
      exact ih
    · simp [List.filterMap_cons, List.filter_cons, hk] at ih ⊢
      exact ih
theorem newOs_len (n : Nat) (o : List Nat) : (newOs n o).length ≤ n := by
  unfold newOs
  rw [List.length_map]
  have := List.length_filter_le (fun x => decide (x ∉ o)) (List.range n)
  rwa [List.length_range] at this
theorem stepO_cons (n : Nat) (o : List Nat) (r : List (List Nat)) : stepO n (o :: r) = newOs n o ++ stepO n r := rfl
theorem stepO_app (n : Nat) (a b : List (List Nat)) : stepO n (a ++ b) = stepO n a ++ stepO n b := by
  unfold stepO
  rw [List.flatMap_append]
theorem ords_step (n k : Nat) : ords n (k + 1) = stepO n (ords n k) := rfl
theorem pow6 {n k : Nat} (hn : n ≤ 6) (hk : k ≤ n) : n ^ k ≤ 46656 := by
  have h1 : n ^ k ≤ 6 ^ k := Nat.pow_le_pow_left hn k
  have h2 : 6 ^ k ≤ 6 ^ 6 := Nat.pow_le_pow_right (by omega) (by omega)
  have h3 : (6 : Nat) ^ 6 = 46656 := by decide
  omega
theorem ord_size {n k : Nat} (hn : n ≤ 6) {o : List Nat} (ho : o ∈ ords n k) (hk : k ≤ n) : o.length ≤ 6 := by
  obtain ⟨_, h2, _⟩ := mem_ords.mp ho
  omega
theorem ev_newOs {n : Nat} {i k : Nat} {o : List Nat} {mk : Ex} (q0 : e[0]? = some (some (.int (n : Nat)))) (hk : k < e.length) (hi : i < e.length) (hik : i ≠ k) (hk0 : k ≠ 0) (qi : e[i]? = some (some (eOrd o))) (hn : n ≤ 6)
    (hmk : ∀ e' : Ev, ∀ x : Nat, e'[i]? = some (some (eOrd o)) → e'[k]? = some (some (eN x)) → evE C mk e' h = some (eOrd (o ++ [x]), h)) :
    evE C (.comp mk (.nm k) (.rng (.cons false (.nm 0) .nil)) (.cons false (.cmp .notin (.nm k) (.nm i)) .nil) [k]) e h = some (.lst ((newOs n o).map eOrd), h) := by
  have hsz : (1000 : Nat) < sizeLine := by
    have := sizeLine_eq
    omega
  have hr : evI C (.rng (.cons false (.nm 0) .nil)) e h = some (((List.range n).map eN, []), h) := by
    have := rng_evI (C := C) (h := h) q0 (show n ≤ 100000 by omega)
    rwa [rngL_map0] at this
  have c1 := ev_compF (C := C) (elt := mk) (tg := .nm k) (ifs := .cons false (.cmp .notin (.nm k) (.nm i)) .nil) (own := [k]) eN (fun x => if decide (x ∉ o) = true then some (eOrd (o ++ [x])) else none) hr (fun x _ => by
    have zi : ((wipeD e [k]).set k (some (eN x)))[i]? = some (some (eOrd o)) := by
      simp only [wipeD]
      rw [List.getElem?_set_ne (Ne.symm hik), List.getElem?_set_ne (Ne.symm hik), qi]
    have zk : ((wipeD e [k]).set k (some (eN x)))[k]? = some (some (eN x)) := by
      rw [List.getElem?_set_self]
      simp only [wipeD, List.length_set]
      exact hk
    exact turn_if (C := C) (c := .cmp .notin (.nm k) (.nm i)) (e2 := (wipeD e [k]).set k (some (eN x))) (by simp only [evT]) (ev_cmp (ev_nm zk) (ev_nm zi) (cmp_notin x o)) (fun _ => hmk _ x zi zk)) (by rw [List.length_range]; omega)
  rw [newOs_fm] at c1
  exact c1
theorem low_ords {b : Nat} (l : List (List Nat)) : ∀ x ∈ l.map eOrd, Low b x := low_ofList low_ord l
theorem ord_add (o : List Nat) (x : Nat) (hl : o.length ≤ 100) : binD h .add (eOrd o) (.tup [eN x]) = some (eOrd (o ++ [x])) := by
  have : binD h .add (eOrd o) (.tup [eN x]) = chk ((o.map eN).length + 1 ≤ sizeLine) (.tup (o.map eN ++ [eN x])) := rfl
  rw [this, chk_pos (by rw [List.length_map]; have := sizeLine_eq; omega)]
  unfold eOrd
  rw [List.map_append]
  rfl
theorem ev_tup1 (q1 : evE C a e h = some (x, h1)) : evE C (.tup (.cons false a .nil)) e h = some (.tup [x], h1) := by
  simp only [evE, evA, q1, Bool.false_eq_true, if_false, List.append_nil]
  exact chk_pos (Nat.le_of_lt (small15 (by simp)))
def bLawOrders : Sms := (.cons (.asg (.nm 1) (.lst (.cons false (.tup .nil) .nil))) (.cons (.forr (.nm 2) (.rng (.cons false (.nm 0) .nil)) (.cons (.asg (.nm 3) (.lst .nil)) (.cons (.forr (.nm 4) (.seq (.nm 1)) (.cons (.asg (.nm 3) (.bin .add (.nm 3) (.comp (.bin .add (.nm 4) (.tup (.cons false (.nm 5) .nil))) (.nm 5) (.rng (.cons false (.nm 0) .nil)) (.cons false (.cmp .notin (.nm 5) (.nm 4)) .nil) [5]))) .nil)) (.cons (.asg (.nm 1) (.nm 3)) .nil)))) (.cons (.ret (.nm 1)) .nil)))
theorem lorders_call (n : Nat) (hn : n ≤ 6) (hc : Cl h) : callD C L ⟨1, 6, false, bLawOrders⟩ [.int n] h = some (.lst ((ords n n).map eOrd), h) := by
  have hsz : (100000 : Nat) < sizeLine := by
    have := sizeLine_eq
    omega
  have e1 : evE C (.lst (.cons false (.tup .nil) .nil)) [some (.int n), none, none, none, none, none] h = some (.lst ((ords n 0).map eOrd), h) := by
    simp only [evE, evA]
    rw [chk_pos (show ([] : List D).length ≤ sizeLine from Nat.zero_le _)]
    simp only [Bool.false_eq_true, if_false, List.append_nil]
    exact chk_pos (Nat.le_of_lt (small15 (by simp)))
  obtain ⟨e', h', q, k, o2, o3, o4, hk, rfl, rfl⟩ := sx_for (C := C) (L := L) (tg := .nm 2) (it := .rng (.cons false (.nm 0) .nil)) (e := [some (.int n), some (.lst ((ords n 0).map eOrd)), none, none, none, none]) (h := h)
    (b := .cons (.asg (.nm 3) (.lst .nil)) (.cons (.forr (.nm 4) (.seq (.nm 1)) (.cons (.asg (.nm 3) (.bin .add (.nm 3) (.comp (.bin .add (.nm 4) (.tup (.cons false (.nm 5) .nil))) (.nm 5) (.rng (.cons false (.nm 0) .nil)) (.cons false (.cmp .notin (.nm 5) (.nm 4)) .nil) [5]))) .nil)) (.cons (.asg (.nm 1) (.nm 3)) .nil)))
    (rng_evI (n := n) rfl (by omega))
    (fun rem e h' => ∃ (k : Nat) (o2 o3 o4 : Option D), k + rem.length = n ∧ e = [some (.int n), some (.lst ((ords n k).map eOrd)), o2, o3, o4, none] ∧ h' = h)
    (fun _ _ _ _ => ok_nil) ⟨0, none, none, none, by rw [rngL_length]; omega, rfl, rfl⟩ (fun x rem e h' hI => by
      obtain ⟨k, o2, o3, o4, hk, rfl, rfl⟩ := hI
      simp only [List.length_cons] at hk
      have t1 : evE C (.lst .nil) [some (.int n), some (.lst ((ords n k).map eOrd)), some x, o3, o4, none] h' = some (.lst [], h') := by
        simp only [evE, evA]
        exact chk_pos (Nat.zero_le _)
      obtain ⟨e2, h2, q2, done, r, o4', hr, hdr, rfl, rfl⟩ := sx_for (C := C) (L := L) (tg := .nm 4) (it := .seq (.nm 1)) (e := [some (.int n), some (.lst ((ords n k).map eOrd)), some x, some (.lst []), o4, none]) (h := h')
        (b := .cons (.asg (.nm 3) (.bin .add (.nm 3) (.comp (.bin .add (.nm 4) (.tup (.cons false (.nm 5) .nil))) (.nm 5) (.rng (.cons false (.nm 0) .nil)) (.cons false (.cmp .notin (.nm 5) (.nm 4)) .nil) [5]))) .nil)
        (seq_lst (l := (ords n k).map eOrd) rfl)
        (fun rem e h2 => ∃ (done r : List (List Nat)) (o4 : Option D), rem = r.map eOrd ∧ done ++ r = ords n k ∧ e = [some (.int n), some (.lst ((ords n k).map eOrd)), some x, some (.lst ((stepO n done).map eOrd)), o4, none] ∧ h2 = h')
        (fun _ _ _ _ => ok_nil) ⟨[], ords n k, o4, rfl, rfl, rfl, rfl⟩ (fun y rem e h2 hI => by
          obtain ⟨done, r, o4, hr, hdr, rfl, rfl⟩ := hI
          cases r with
          | nil => cases hr
          | cons o r =>
            simp only [List.map_cons, List.cons.injEq] at hr
            obtain ⟨rfl, rfl⟩ := hr
            have hmem : o ∈ ords n k := by rw [← hdr]; simp
            have hol := ord_size hn hmem (by omega)
            have c1 := ev_newOs (C := C) (h := h2) (n := n) (i := 4) (k := 5) (o := o) (mk := .bin .add (.nm 4) (.tup (.cons false (.nm 5) .nil))) (e := [some (.int n), some (.lst ((ords n k).map eOrd)), some x, some (.lst ((stepO n done).map eOrd)), some (eOrd o), none]) rfl (by simp) (by simp) (by omega) (by omega) rfl hn
              (fun e' z q1 q2 => ev_bin (ev_nm q1) (ev_tup1 (ev_nm q2)) (ord_add o z (by omega)))
            have hle : (stepO n done).length + (newOs n o).length ≤ 46656 := by
              have h1 : (stepO n (done ++ o :: r)).length ≤ n ^ (k + 1) := by
                rw [hdr, ← ords_step]
                exact ords_len n (k + 1)
              have h2 := pow6 hn (show k + 1 ≤ n by omega)
              rw [stepO_app, stepO_cons, List.length_append, List.length_append] at h1
              omega
            have s1 := ev_cat (C := C) (h := h2) (ev_nm (e := [some (.int n), some (.lst ((ords n k).map eOrd)), some x, some (.lst ((stepO n done).map eOrd)), some (eOrd o), none]) (k := 3) rfl) c1 (by rw [List.length_map, List.length_map]; omega)
            refine ⟨_, _, _, _, by simp only [evT]; rfl, sx_next (sx_set s1) sx_nil, done ++ [o], r, some (eOrd o), rfl, by rw [List.append_assoc]; exact hdr, ?_, rfl⟩
            rw [stepO_app, stepO_cons, ← List.map_append]
            have : stepO n [] = [] := rfl
            rw [this, List.append_nil]
            rfl)
      have hr0 : r = [] := by
        cases r with
        | nil => rfl
        | cons _ _ => cases hr
      subst hr0
      rw [List.append_nil] at hdr
      subst hdr
      exact ⟨_, _, _, _, by simp only [evT]; rfl, sx_next (sx_set t1) (sx_next q2 (sx_next (sx_set (ev_nm (k := 3) rfl)) sx_nil)), k + 1, _, _, _, by omega, rfl, rfl⟩)
  have hkn : k = n := by simpa using hk
  subst hkn
  rw [callD_eq (F := ⟨1, 6, false, bLawOrders⟩) rfl (sx_next (sx_set e1) (sx_next q (sx_ret (ev_nm rfl))))]
  exact fin_low0 hc (.lst (low_ords _))
end
end Z

set_option Elab.async false
set_option linter.all false
set_option maxRecDepth 100000
set_option maxHeartbeats 8000000
/-! Y12: all orders of the program, the least wide span -/
namespace Z
open PySem PySem.Spec PyProof.Rows L2
section
variable {C : Cal} {L : Nat} {e : Ev} {h h1 h2 h3 : Hs} {a b c : Ex} {x y d : D} {i j : Int}
theorem ap_get (H : Hs) (o : O) : (H ++ [o])[H.length]? = some o := by
  rw [List.getElem?_append_right (Nat.le_refl _), Nat.sub_self]
  rfl
theorem ap_set (H : Hs) (o o' : O) : (H ++ [o]).set H.length o' = H ++ [o'] := by
  rw [List.set_append_right _ _ (Nat.le_refl _), Nat.sub_self]
  rfl
theorem ev_extend {k n : Nat} {l0 l l' : List D} (q0 : e[k]? = some (some (.ref n))) (q1 : h[n]? = some (.lst l0)) (q2 : evE C a e h = some (.lst l', h1)) (q3 : h1[n]? = some (.lst l)) (hl : l.length + l'.length ≤ sizeLine) :
    evE C (.mth .extend (.nm k) (.cons false a .nil)) e h = some (.non, h1.set n (.lst (l ++ l'))) := by
  rw [evE, ev_nm q0]
  have mk : mokD h .extend (.ref n) = true := by simp only [mokD, getL, q1, Option.isSome]
  simp only [mk, if_true]
  rw [evA, q2]
  simp only [evA, Bool.false_eq_true, if_false, List.append_nil, mthD, extendD, q3]
  exact chk_pos hl
def bOrders : Sms := (.cons (.asg (.nm 1) (.lst (.cons false (.tup .nil) .nil))) (.cons (.forr (.nm 2) (.rng (.cons false (.nm 0) .nil)) (.cons (.asg (.nm 3) (.al (.lst .nil))) (.cons (.forr (.nm 4) (.seq (.nm 1)) (.cons (.expr (.mth .extend (.nm 3) (.cons false (.comp (.tup (.cons true (.nm 4) (.cons false (.nm 5) .nil))) (.nm 5) (.rng (.cons false (.nm 0) .nil)) (.cons false (.cmp .notin (.nm 5) (.nm 4)) .nil) [5]) .nil))) .nil)) (.cons (.asg (.nm 1) (.bi .list (.cons false (.nm 3) .nil))) .nil)))) (.cons (.ret (.nm 1)) .nil)))
theorem ev_starT {o : List Nat} {x : Nat} (q1 : evE C a e h = some (eOrd o, h)) (q2 : evE C b e h = some (eN x, h)) (hl : o.length ≤ 100) : evE C (.tup (.cons true a (.cons false b .nil))) e h = some (eOrd (o ++ [x]), h) := by
  have hg : getS h (eOrd o) = some (o.map eN) := rfl
  simp only [evE, evA, q1, q2, if_true, hg, Bool.false_eq_true, if_false, List.append_nil]
  rw [chk_pos (by rw [List.length_append, List.length_map]; simp only [List.length_cons, List.length_nil]; have := sizeLine_eq; omega)]
  unfold eOrd
  rw [List.map_append]
  rfl
theorem orders_call (n : Nat) (hn : n ≤ 6) (hc : Cl h) : callD C L ⟨1, 6, false, bOrders⟩ [.int n] h = some (.lst ((ords n n).map eOrd), h) := by
  have hsz : (100000 : Nat) < sizeLine := by
    have := sizeLine_eq
    omega
  have e1 : evE C (.lst (.cons false (.tup .nil) .nil)) [some (.int n), none, none, none, none, none] h = some (.lst ((ords n 0).map eOrd), h) := by
    simp only [evE, evA]
    rw [chk_pos (show ([] : List D).length ≤ sizeLine from Nat.zero_le _)]
    simp only [Bool.false_eq_true, if_false, List.append_nil]
    exact chk_pos (Nat.le_of_lt (small15 (by simp)))
  obtain ⟨e', h', q, k, o2, o3, o4, ext, hk, rfl, rfl⟩ := sx_for (C := C) (L := L) (tg := .nm 2) (it := .rng (.cons false (.nm 0) .nil)) (e := [some (.int n), some (.lst ((ords n 0).map eOrd)), none, none, none, none]) (h := h)
    (b := .cons (.asg (.nm 3) (.al (.lst .nil))) (.cons (.forr (.nm 4) (.seq (.nm 1)) (.cons (.expr (.mth .extend (.nm 3) (.cons false (.comp (.tup (.cons true (.nm 4) (.cons false (.nm 5) .nil))) (.nm 5) (.rng (.cons false (.nm 0) .nil)) (.cons false (.cmp .notin (.nm 5) (.nm 4)) .nil) [5]) .nil))) .nil)) (.cons (.asg (.nm 1) (.bi .list (.cons false (.nm 3) .nil))) .nil)))
    (rng_evI (n := n) rfl (by omega))
    (fun rem e h' => ∃ (k : Nat) (o2 o3 o4 : Option D) (ext : Hs), k + rem.length = n ∧ e = [some (.int n), some (.lst ((ords n k).map eOrd)), o2, o3, o4, none] ∧ h' = h ++ ext)
    (fun _ _ _ _ => ok_nil) ⟨0, none, none, none, [], by rw [rngL_length]; omega, rfl, by rw [List.append_nil]⟩ (fun x rem e h' hI => by
      obtain ⟨k, o2, o3, o4, ext, hk, rfl, rfl⟩ := hI
      simp only [List.length_cons] at hk
      generalize hH : h ++ ext = H
      have t1 : evE C (.al (.lst .nil)) [some (.int n), some (.lst ((ords n k).map eOrd)), some x, o3, o4, none] H = some (.ref H.length, H ++ [.lst []]) := by
        simp only [evE, evA]
        rw [chk_pos (show ([] : List D).length ≤ sizeLine from Nat.zero_le _)]
      obtain ⟨e2, h2, q2, done, r, o4', hr, hdr, rfl, rfl⟩ := sx_for (C := C) (L := L) (tg := .nm 4) (it := .seq (.nm 1)) (e := [some (.int n), some (.lst ((ords n k).map eOrd)), some x, some (.ref H.length), o4, none]) (h := H ++ [.lst []])
        (b := .cons (.expr (.mth .extend (.nm 3) (.cons false (.comp (.tup (.cons true (.nm 4) (.cons false (.nm 5) .nil))) (.nm 5) (.rng (.cons false (.nm 0) .nil)) (.cons false (.cmp .notin (.nm 5) (.nm 4)) .nil) [5]) .nil))) .nil)
        (seq_lst (l := (ords n k).map eOrd) rfl)
        (fun rem e h2 => ∃ (done r : List (List Nat)) (o4 : Option D), rem = r.map eOrd ∧ done ++ r = ords n k ∧ e = [some (.int n), some (.lst ((ords n k).map eOrd)), some x, some (.ref H.length), o4, none] ∧ h2 = H ++ [.lst ((stepO n done).map eOrd)])
        (fun _ _ _ _ => ok_nil) ⟨[], ords n k, o4, rfl, rfl, rfl, rfl⟩ (fun y rem e h2 hI => by
          obtain ⟨done, r, o4, hr, hdr, rfl, rfl⟩ := hI
          cases r with
          | nil => cases hr
          | cons o r =>
            simp only [List.map_cons, List.cons.injEq] at hr
            obtain ⟨rfl, rfl⟩ := hr
            have hmem : o ∈ ords n k := by rw [← hdr]; simp
            have hol := ord_size hn hmem (by omega)
            have c1 := ev_newOs (C := C) (h := H ++ [.lst ((stepO n done).map eOrd)]) (n := n) (i := 4) (k := 5) (o := o) (mk := .tup (.cons true (.nm 4) (.cons false (.nm 5) .nil))) (e := [some (.int n), some (.lst ((ords n k).map eOrd)), some x, some (.ref H.length), some (eOrd o), none]) rfl (by simp) (by simp) (by omega) (by omega) rfl hn
              (fun e' z q1 q2 => ev_starT (ev_nm q1) (ev_nm q2) (by omega))
            have hle : (stepO n done).length + (newOs n o).length ≤ 46656 := by
              have h1 : (stepO n (done ++ o :: r)).length ≤ n ^ (k + 1) := by
                rw [hdr, ← ords_step]
                exact ords_len n (k + 1)
              have h2 := pow6 hn (show k + 1 ≤ n by omega)
              rw [stepO_app, stepO_cons, List.length_append, List.length_append] at h1
              omega
            have s1 := ev_extend (C := C) (e := [some (.int n), some (.lst ((ords n k).map eOrd)), some x, some (.ref H.length), some (eOrd o), none]) (h := H ++ [.lst ((stepO n done).map eOrd)]) (k := 3) rfl (ap_get _ _) c1 (ap_get _ _) (by rw [List.length_map, List.length_map]; omega)
            rw [ap_set, ← List.map_append] at s1
            refine ⟨_, _, _, _, by simp only [evT]; rfl, sx_next (sx_expr s1) sx_nil, done ++ [o], r, some (eOrd o), rfl, by rw [List.append_assoc]; exact hdr, rfl, ?_⟩
            rw [stepO_app, stepO_cons]
            have : stepO n [] = [] := rfl
            rw [this, List.append_nil])
      have hr0 : r = [] := by
        cases r with
        | nil => rfl
        | cons _ _ => cases hr
      subst hr0
      rw [List.append_nil] at hdr
      subst hdr
      have t3 : biD (H ++ [.lst ((stepO n (ords n k)).map eOrd)]) .list [.ref H.length] = some (.lst ((ords n (k + 1)).map eOrd)) := by
        simp only [biD, listD, one, getS, getL, Option.bind_some, ap_get, Option.map_some]
        rfl
      refine ⟨_, _, _, _, by simp only [evT]; rfl, sx_next (sx_set t1) (sx_next q2 (sx_next (sx_set (ev_bi1 (ev_nm (k := 3) rfl) t3)) sx_nil)), k + 1, _, _, _, ext ++ [.lst ((stepO n (ords n k)).map eOrd)], by omega, rfl, ?_⟩
      rw [← hH, List.append_assoc])
  have hkn : k = n := by simpa using hk
  subst hkn
  rw [callD_eq (F := ⟨1, 6, false, bOrders⟩) rfl (sx_next (sx_set e1) (sx_next q (sx_ret (ev_nm rfl))))]
  exact fin_low hc (.lst (low_ords _))
/-! ### the least -/
theorem bi_min1 {l : List Int} {m : Int} (hm : m ∈ l) (hle : ∀ x ∈ l, m ≤ x) : biD h .min1 [.lst (l.map .int)] = some (.int m) := by
  cases l with
  | nil => simp at hm
  | cons a r =>
    have e1 : intsD ((a :: r).map D.int) = some (a :: r) := intsD_map (a :: r)
    obtain ⟨p1, p2⟩ := minI_spec r a
    have e2 : minI a r = m := by
      have h1 := p2 m hm
      have h2 := hle _ p1
      omega
    simp only [biD, min1D, one, Option.bind_some, getL, e1, e2]
theorem ords_ok {n : Nat} {o : List Nat} (h : o ∈ ords n n) : o.Perm (List.range n) := by
  obtain ⟨h1, h2, h3⟩ := mem_ords.mp h
  exact perm_of_ord h1 h2 h3
theorem told_mem (js : List Job) : told js ∈ ords js.length js.length := by
  have hp := told_perm js
  refine mem_ords.mpr ⟨hp.nodup_iff.mpr List.nodup_range, by rw [hp.length_eq, List.length_range], fun x hx => told_lt js x hx⟩
/-- the least of the wide spans of all orders -/
theorem min_wides (js : List Job) : biD h .min1 [.lst (((ords js.length js.length).map fun o => W 0 0 (sel js o)).map .int)] = some (.int (W 0 0 (sel js (told js)))) := by
  refine bi_min1 (List.mem_map.mpr ⟨_, told_mem js, rfl⟩) fun x hx => ?_
  obtain ⟨o, ho, rfl⟩ := List.mem_map.mp hx
  exact told_least js (ords_ok ho)
def bLeastWide (w o : Nat) : Sms := (.cons (.ret (.bi .min1 (.cons false (.comp (.call w (.cons false (.nm 0) (.cons false (.nm 1) .nil))) (.nm 1) (.seq (.call o (.cons false (.bi .len (.cons false (.nm 0) .nil)) .nil))) .nil [1]) .nil))) .nil)
theorem bi_len_jobs (js : List Job) : biD h .len [eJobs js] = some (.int js.length) := by
  have : biD h .len [eJobs js] = some (.int ((js.map eJob).length : Nat)) := bi_len_tup
  rw [this, List.length_map]
theorem least_call {w o : Nat} (js : List Job) (hl : js.length ≤ 6) (ho : C o [.int js.length] h = some (.lst ((ords js.length js.length).map eOrd), h)) (hw : ∀ o ∈ ords js.length js.length, C w [eJobs js, eOrd o] h = some (.int (W 0 0 (sel js o)), h)) (hc : Cl h) :
    callD C L ⟨1, 2, false, bLeastWide w o⟩ [eJobs js] h = some (.int (W 0 0 (sel js (told js))), h) := by
  have hsz : (100000 : Nat) < sizeLine := by
    have := sizeLine_eq
    omega
  have hn : (ords js.length js.length).length ≤ 46656 := Nat.le_trans (ords_len _ _) (pow6 hl (Nat.le_refl _))
  have hi : evI C (.seq (.call o (.cons false (.bi .len (.cons false (.nm 0) .nil)) .nil))) [some (eJobs js), none] h = some (((ords js.length js.length).map eOrd, []), h) := by
    have := ev_call1 (C := C) (f := o) (ev_bi1 (f := .len) (ev_nm (e := [some (eJobs js), none]) (h := h) (k := 0) rfl) (bi_len_jobs js)) ho
    simp only [evI, this]
  have c1 := ev_compA (C := C) (elt := .call w (.cons false (.nm 0) (.cons false (.nm 1) .nil))) (tg := .nm 1) (ifs := .nil) (own := [1]) eOrd (fun p => D.int (W 0 0 (sel js p))) hi (fun p hp => turn_all (e2 := [some (eJobs js), some (eOrd p)]) (by simp only [evT]; rfl) (ev_call2 (ev_nm rfl) (ev_nm rfl) (hw p hp))) (by omega)
  have hm : (ords js.length js.length).map (fun p => D.int (W 0 0 (sel js p))) = ((ords js.length js.length).map fun o => W 0 0 (sel js o)).map .int := by
    rw [List.map_map]
    rfl
  rw [hm] at c1
  rw [callD_eq (F := ⟨1, 2, false, bLeastWide w o⟩) rfl (sx_ret (ev_bi1 c1 (min_wides js)))]
  exact fin_low0 hc (.int _)
def bTro (j p : Nat) : Sms := (.cons (.ret (.call j (.cons false (.call p (.cons false (.nm 0) .nil)) .nil))) .nil)
theorem tro_call {j p : Nat} (js : List Job) (hp : C p [eJobs js] h = some (.tup ((prs js).map eI2), h)) (hj : C j [.tup ((prs js).map eI2)] h = some (eOrd (told js), h)) (hc : Cl h) : callD C L ⟨1, 1, false, bTro j p⟩ [eJobs js] h = some (eOrd (told js), h) := by
  rw [callD_eq (F := ⟨1, 1, false, bTro j p⟩) rfl (sx_ret (ev_call1 (ev_call1 (ev_nm rfl) hp) hj))]
  exact fin_low0 hc (low_ord _)
def bWb (w t : Nat) : Sms := (.cons (.ret (.call w (.cons false (.nm 0) (.cons false (.call t (.cons false (.nm 0) .nil)) .nil)))) .nil)
theorem wb_call {w t : Nat} (js : List Job) (ht : C t [eJobs js] h = some (eOrd (told js), h)) (hw : C w [eJobs js, eOrd (told js)] h = some (.int (W 0 0 (sel js (told js))), h)) (hc : Cl h) : callD C L ⟨1, 1, false, bWb w t⟩ [eJobs js] h = some (.int (W 0 0 (sel js (told js))), h) := by
  rw [callD_eq (F := ⟨1, 1, false, bWb w t⟩) rfl (sx_ret (ev_call2 (ev_nm rfl) (ev_call1 (ev_nm rfl) ht) hw))]
  exact fin_low0 hc (.int _)
end
end Z

set_option Elab.async false
set_option linter.all false
set_option maxRecDepth 100000
set_option maxHeartbeats 8000000
/-! Y13: the ends in a room -/
namespace Z
open PySem PySem.Spec PyProof.Rows L2
/-- ends of jobs with what they wait for -/
def zE (len : Nat → Int) : Int → List (Nat × Int) → List Int
  | _, [] => []
  | g, (k, c) :: r => (max g c + len k) :: zE len (max g c + len k) r
theorem zE_len (len : Nat → Int) : ∀ (l : List (Nat × Int)) (g : Int), (zE len g l).length = l.length
  | [], _ => rfl
  | (k, c) :: r, g => by simp only [zE, List.length_cons, zE_len len r]
def zeros (o : List Nat) : List Int := o.map fun _ => 0
theorem S3_zE (js : List Job) : ∀ (r : List Nat) (f g h : Int), 0 ≤ f → (∀ k ∈ r, 0 ≤ (jAt js k).1 ∧ 0 ≤ (jAt js k).2.2) →
    mxI h (zE (fun k => (jAt js k).2.2) h (r.zip (zE (fun k => (jAt js k).2.1) g (r.zip (zE (fun k => (jAt js k).1) f (r.zip (zeros r))))))) = S3 f g h (sel js r)
  | [], _, _, _, _, _ => rfl
  | k :: r, f, g, h, hf, hk => by
    have h1 := hk k List.mem_cons_self
    have hz : zeros (k :: r) = 0 :: zeros r := rfl
    rw [hz]
    simp only [List.zip_cons_cons, zE, mxI]
    have e1 : max f 0 = f := by omega
    rw [e1]
    have e2 : max h (max h (max g (f + (jAt js k).1) + (jAt js k).2.1) + (jAt js k).2.2) = max h (max g (f + (jAt js k).1) + (jAt js k).2.1) + (jAt js k).2.2 := by omega
    rw [e2]
    have ih := S3_zE js r (f + (jAt js k).1) (max g (f + (jAt js k).1) + (jAt js k).2.1) (max h (max g (f + (jAt js k).1) + (jAt js k).2.1) + (jAt js k).2.2) (by omega) fun x hx => hk x (List.mem_cons_of_mem _ hx)
    rw [ih]
    rfl
def kv (l : List (Nat × Int)) : List (Key × D) := l.map fun p => (.inl (p.1 : Int), .int p.2)
theorem look_kv : ∀ {l : List (Nat × Int)} {k : Nat} {v : Int}, (l.map (·.1)).Nodup → (k, v) ∈ l → look (kv l) (.inl (k : Int)) = some (.int v)
  | [], _, _, _, h => by simp at h
  | (k', v') :: r, k, v, hn, h => by
    have hn' := List.nodup_cons.mp hn
    have he : look (kv ((k', v') :: r)) (.inl (k : Int)) = if k' = k then some (.int v') else look (kv r) (.inl (k : Int)) := by
      unfold look kv
      simp only [List.map_cons, List.find?_cons]
      by_cases e : k' = k
      · subst e; simp
      · have : ¬ ((Sum.inl (k' : Int) : Key) = Sum.inl (k : Int)) := fun z => e (by
          have := Sum.inl.inj z
          omega)
        simp [this, e]
    rw [he]
    by_cases e : k' = k
    · subst e
      rw [if_pos rfl]
      rcases List.mem_cons.mp h with h | h
      · cases h
        rfl
      · exact absurd (List.mem_map.mpr ⟨_, h, rfl⟩) hn'.1
    · rw [if_neg e]
      rcases List.mem_cons.mp h with h | h
      · cases h
        exact absurd rfl e
      · exact look_kv hn'.2 h
theorem put_kv {l : List (Nat × Int)} {k : Nat} {v : Int} (h : k ∉ l.map (·.1)) : put (kv l) (.inl (k : Int)) (.int v) = kv (l ++ [(k, v)]) := by
  unfold put
  have : ((kv l).any fun p => decide (p.1 = (.inl (k : Int) : Key))) = false := by
    rw [List.any_eq_false]
    intro p hp
    unfold kv at hp
    obtain ⟨q, hq, rfl⟩ := List.mem_map.mp hp
    simp only [decide_eq_true_eq]
    intro e
    apply h
    have e2 := Sum.inl.inj e
    have : q.1 = k := by omega
    exact List.mem_map.mpr ⟨q, hq, this⟩
  rw [this, if_neg Bool.false_ne_true]
  unfold kv
  rw [List.map_append]
  rfl
theorem low_kv {b : Nat} (l : List (Nat × Int)) : ∀ p ∈ kv l, Low b p.2 := fun p hp => by
  unfold kv at hp
  obtain ⟨q, _, rfl⟩ := List.mem_map.mp hp
  exact .int _
section
variable {C : Cal} {L : Nat} {e : Ev} {h h1 h2 h3 : Hs} {a b c : Ex} {x y d : D} {i j : Int}
def bEir : Sms := (.cons (.par [4, 5] (.cons false (.al (.dct .nil)) (.cons false (.lint 0) .nil))) (.cons (.forr (.nm 3) (.seq (.nm 1)) (.cons (.asg (.nm 5) (.bin .add (.bi .max2 (.cons false (.nm 5) (.cons false (.sub (.nm 2) (.nm 3)) .nil))) (.sub (.nm 0) (.nm 3)))) (.cons (.asg (.sub (.nm 4) (.nm 3)) (.nm 5)) .nil))) (.cons (.ret (.nm 4)) .nil)))
/-- what a dict of waits tells along an order -/
def Waits (kvs : List (Key × D)) (l : List (Nat × Int)) : Prop := ∀ p ∈ l, look kvs (.inl (p.1 : Int)) = some (.int p.2)
theorem eir_call (lens : List Int) (len : Nat → Int) (l : List (Nat × Int)) (come : List (Key × D)) (hcome : Waits come l) (hlow : ∀ p ∈ come, Low h.length p.2) (hnd : (l.map (·.1)).Nodup) (hlen : ∀ p ∈ l, lens[p.1]? = some (len p.1)) (hl : l.length ≤ 1000) (hc : Cl h) :
    callD C L ⟨3, 6, false, bEir⟩ [.lst (lens.map .int), eOrd (l.map (·.1)), .dk come] h = some (.dk (kv ((l.map (·.1)).zip (zE len 0 l))), h) := by
  have hsz : (2000 : Nat) < sizeLine := by
    have := sizeLine_eq
    omega
  have e1 : evA C (.cons false (.al (.dct .nil)) (.cons false (.lint 0) .nil)) [some (.lst (lens.map .int)), some (eOrd (l.map (·.1))), some (.dk come), none, none, none] h = some ([.ref h.length, .int 0], h ++ [.dk []]) := by
    have t : evE C (.al (.dct .nil)) [some (.lst (lens.map .int)), some (eOrd (l.map (·.1))), some (.dk come), none, none, none] h = some (.ref h.length, h ++ [.dk []]) := by
      simp only [evE, evA, pairsD]
      rw [chk_pos (show ([] : List (Key × D)).length ≤ 15 from Nat.zero_le _)]
      rfl
    exact evA_2 t ev_lint
  obtain ⟨e', h', q, done, r, g, o3, hr, hdr, rfl, rfl, hz⟩ := sx_for (C := C) (L := L) (tg := .nm 3) (it := .seq (.nm 1)) (e := [some (.lst (lens.map .int)), some (eOrd (l.map (·.1))), some (.dk come), none, some (.ref h.length), some (.int 0)]) (h := h ++ [.dk []])
    (b := .cons (.asg (.nm 5) (.bin .add (.bi .max2 (.cons false (.nm 5) (.cons false (.sub (.nm 2) (.nm 3)) .nil))) (.sub (.nm 0) (.nm 3)))) (.cons (.asg (.sub (.nm 4) (.nm 3)) (.nm 5)) .nil))
    (seq_tup (l := (l.map (·.1)).map eN) rfl)
    (fun rem e h' => ∃ (done r : List (Nat × Int)) (g : Int) (o3 : Option D), rem = (r.map (·.1)).map eN ∧ done.map (·.1) ++ r.map (·.1) = l.map (·.1) ∧ e = [some (.lst (lens.map .int)), some (eOrd (l.map (·.1))), some (.dk come), o3, some (.ref h.length), some (.int g)] ∧ h' = h ++ [.dk (kv done)] ∧
      ((∀ p ∈ r, p ∈ l) ∧ done.map (·.2) ++ zE len g r = zE len 0 l))
    (fun _ _ _ _ => ok_nil) ⟨[], l, 0, none, rfl, rfl, rfl, rfl, fun p hp => hp, rfl⟩ (fun x rem e h' hI => by
      obtain ⟨done, r, g, o3, hr, hdr, rfl, rfl, hmem, hz⟩ := hI
      cases r with
      | nil => cases hr
      | cons p r =>
        obtain ⟨k, w⟩ := p
        simp only [List.map_cons, List.cons.injEq] at hr
        obtain ⟨rfl, rfl⟩ := hr
        have hp := hmem (k, w) List.mem_cons_self
        have hkd : k ∉ done.map (·.1) := by
          rw [← hdr] at hnd
          rw [List.nodup_append] at hnd
          intro hk
          exact hnd.2.2 k hk k (by simp) rfl
        have hcm : subD (h ++ [.dk (kv done)]) (.dk come) (eN k) = some (.int w) := by
          have : subD (h ++ [.dk (kv done)]) (.dk come) (eN k) = look come (.inl (k : Int)) := rfl
          rw [this]
          exact hcome _ hp
        have hln : subD (h ++ [.dk (kv done)]) (.lst (lens.map .int)) (eN k) = some (.int (len k)) := by
          have : subD (h ++ [.dk (kv done)]) (.lst (lens.map .int)) (.int (k : Nat)) = _ := subD_lst _ _ k
          rw [show eN k = .int (k : Nat) from rfl, this, List.getElem?_map, hlen _ hp]
          rfl
        have s1 := sx_set (L := L) (i := 5) (ev_add (C := C) (h := h ++ [.dk (kv done)]) (ev_max2 (ev_nm (e := [some (.lst (lens.map .int)), some (eOrd (l.map (·.1))), some (.dk come), some (eN k), some (.ref h.length), some (.int g)]) (k := 5) rfl) (ev_sub (ev_nm (k := 2) rfl) (ev_nm (k := 3) rfl) hcm)) (ev_sub (ev_nm (k := 0) rfl) (ev_nm (k := 3) rfl) hln))
        have hset : evT C (.sub (.nm 4) (.nm 3)) (.int (max g w + len k)) [some (.lst (lens.map .int)), some (eOrd (l.map (·.1))), some (.dk come), some (eN k), some (.ref h.length), some (.int (max g w + len k))] (h ++ [.dk (kv done)]) = some ([some (.lst (lens.map .int)), some (eOrd (l.map (·.1))), some (.dk come), some (eN k), some (.ref h.length), some (.int (max g w + len k))], h ++ [.dk (kv (done ++ [(k, max g w + len k)]))]) := by
          have hsd : setD (h ++ [.dk (kv done)]) (.ref h.length) (eN k) (.int (max g w + len k)) = some (h ++ [.dk (kv (done ++ [(k, max g w + len k)]))]) := by
            unfold setD
            simp only [ap_get, eN, keyOf]
            have hdl : (kv done).length ≤ 1000 := by
              unfold kv
              rw [List.length_map]
              have := congrArg List.length hdr
              simp only [List.length_append, List.length_map] at this
              omega
            rw [chk_pos (by omega), ap_set, put_kv hkd]
          simp only [evT, evE, List.getElem?_cons_succ, List.getElem?_cons_zero, hsd, Option.map_some]
        refine ⟨_, _, _, _, by simp only [evT]; rfl, sx_next s1 (sx_next (sx_asg (ev_nm (k := 5) rfl) hset) sx_nil), done ++ [(k, max g w + len k)], r, _, some (eN k), rfl, by rw [List.map_append, List.append_assoc]; exact hdr, rfl, rfl, fun p hp' => hmem p (List.mem_cons_of_mem _ hp'), ?_⟩
        rw [List.map_append, List.append_assoc]
        exact hz)
  have hr0 : r = [] := by
    cases r with
    | nil => rfl
    | cons _ _ => cases hr
  subst hr0
  obtain ⟨_, hz⟩ := hz
  simp only [zE, List.append_nil, List.map_nil] at hz hdr
  have hk : kv done = kv ((l.map (·.1)).zip (zE len 0 l)) := by
    rw [← hz, ← hdr, zip_self]
  rw [callD_eq (F := ⟨3, 6, false, bEir⟩) rfl (sx_next (sx_par e1 rfl) (sx_next q (sx_ret (ev_nm rfl)))), hk]
  exact fin_ret hc (frz_refD (Nat.le_refl _) (ap_get _ _) (low_kv _))
end
end Z

set_option Elab.async false
set_option linter.all false
set_option maxRecDepth 100000
set_option maxHeartbeats 8000000
/-! Y14: the rooms one after another, one order -/
namespace Z
open PySem PySem.Spec PyProof.Rows L2
def EirSpec (C : Cal) (p : Nat) : Prop := ∀ (h : Hs) (lens : List Int) (len : Nat → Int) (l : List (Nat × Int)) (come : List (Key × D)), Waits come l → (∀ p ∈ come, Low h.length p.2) → (l.map (·.1)).Nodup → (∀ p ∈ l, lens[p.1]? = some (len p.1)) → l.length ≤ 1000 → Cl h →
  C p [.lst (lens.map .int), eOrd (l.map (·.1)), .dk come] h = some (.dk (kv ((l.map (·.1)).zip (zE len 0 l))), h)
theorem Cl.add {h : Hs} {o : O} (hc : Cl h) (ho : LowO (h.length + 1) o) : Cl (h ++ [o]) := by
  intro x hx
  rw [List.length_append]
  rcases List.mem_append.mp hx with hx | hx
  · exact (hc x hx).up (by omega)
  · rw [List.mem_singleton.mp hx]
    exact ho
theorem merge_kv : ∀ (l a : List (Nat × Int)), ((a ++ l).map (·.1)).Nodup → mergeD (kv a) (kv l) = kv (a ++ l)
  | [], a, _ => by rw [List.append_nil]; rfl
  | (k, v) :: r, a, hn => by
    have hk : k ∉ a.map (·.1) := by
      rw [List.map_append, List.nodup_append] at hn
      intro z
      exact hn.2.2 k z k (by simp) rfl
    have e : mergeD (kv a) (kv ((k, v) :: r)) = mergeD (put (kv a) (.inl (k : Int)) (.int v)) (kv r) := rfl
    rw [e, put_kv hk, merge_kv r (a ++ [(k, v)]) (by rw [List.append_assoc]; exact hn), List.append_assoc]
    rfl
section
variable {C : Cal} {L : Nat} {e e2 : Ev} {h h1 h2 h3 : Hs} {a b c : Ex} {x y d : D} {i j : Int}
theorem ev_dcomp {ke ve : Ex} {tg : Tg} {it : Iter} {ifs : Exs} {own : List Nat} {src : Src} {l : List D} (hi : evI C it e h = some (src, h1)) (hl : loopC src (turnD C ke ve tg ifs own e) src.1 h1 = some (l, h2)) (hz : src.1.length ≤ sizeLine) :
    evE C (.dcomp ke ve tg it ifs own) e h = some (.dk (mergeD [] (l.filterMap pairK)), h2) := by
  rw [evE, hi]
  show (match loopC src (turnD C ke ve tg ifs own e) src.1 h1 with
    | some (l, h2) => chk (src.1.length ≤ sizeLine) (D.dk (mergeD [] (l.filterMap pairK)), h2)
    | none => none) = _
  rw [hl]
  exact chk_pos hz
theorem turnD_all {ke ve : Ex} {tg : Tg} {own : List Nat} {k v : D} {ky : Key} (q1 : evT C tg x (wipeD e own) h = some (e2, h)) (q2 : evE C ke e2 h = some (k, h)) (q3 : keyOf k = some ky) (q4 : evE C ve e2 h = some (v, h)) : turnD C ke ve tg .nil own e x h = some (some (.tup [k, v]), h) := by
  unfold turnD
  simp only [q1, evC, q2, q3, q4]
def zer (n : Nat) : List (Nat × Int) := (List.range n).map fun k => (k, 0)
theorem zer_fst (n : Nat) : (zer n).map (·.1) = List.range n := by
  unfold zer
  rw [List.map_map]
  exact List.map_id _
theorem ev_zer {js : List Job} (q : e[0]? = some (some (eJobs js))) (hl : 6 < e.length) (hn : js.length ≤ 1000) : evE C (.dcomp (.nm 6) (.lint 0) (.nm 6) (.rng (.cons false (.bi .len (.cons false (.nm 0) .nil)) .nil)) .nil [6]) e h = some (.dk (kv (zer js.length)), h) := by
  have hsz : (2000 : Nat) < sizeLine := by
    have := sizeLine_eq
    omega
  have hi : evI C (.rng (.cons false (.bi .len (.cons false (.nm 0) .nil)) .nil)) e h = some (((List.range js.length).map eN, []), h) := by
    have := rng_evI' (C := C) (h := h) (k := 0) (l := js.map eJob) q (by rw [List.length_map]; omega)
    rw [List.length_map, rngL_map0] at this
    exact this
  have hl' := loopC_ghost (src := (List.range js.length).map eN) (g := turnD C (.nm 6) (.lint 0) (.nm 6) .nil [6] e) (h := h) eN (fun k => some (D.tup [eN k, .int 0])) (l := List.range js.length) (fun k _ => by
    have z6 : ((wipeD e [6]).set 6 (some (eN k)))[6]? = some (some (eN k)) := by
      rw [List.getElem?_set_self]
      simp only [wipeD, List.length_set]
      exact hl
    exact turnD_all (e2 := (wipeD e [6]).set 6 (some (eN k))) (by simp only [evT]) (ev_nm z6) rfl ev_lint)
  have hd := ev_dcomp (C := C) hi hl' (by rw [List.length_map, List.length_range]; omega)
  rw [hd]
  have e1 : ((List.range js.length).filterMap fun k => some (D.tup [eN k, .int 0])).filterMap pairK = kv (zer js.length) := by
    rw [fm_map]
    unfold kv zer
    rw [List.filterMap_map, List.map_map]
    exact fm_map _ _
  rw [e1]
  have := merge_kv (zer js.length) [] (by rw [List.nil_append, zer_fst]; exact List.nodup_range)
  rw [List.nil_append] at this
  have hk : (kv [] : List (Key × D)) = [] := rfl
  rw [hk] at this
  rw [this]
def fldJ : Nat → Job → Int
  | 0, j => j.1
  | 1, j => j.2.1
  | _, j => j.2.2
theorem sub_fld {t : Nat} (ht : t < 3) (j : Job) : subD h (eJob j) (.int (t : Nat)) = some (.int (fldJ t j)) := by
  match t, ht with
  | 0, _ => exact subD_tup h _ 0
  | 1, _ => exact subD_tup h _ 1
  | 2, _ => exact subD_tup h _ 2
def Er (js : List Job) (o : List Nat) : Nat → List Int
  | 0 => zeros o
  | t + 1 => zE (fun k => fldJ t (jAt js k)) 0 (o.zip (Er js o t))
theorem Er_len (js : List Job) (o : List Nat) : ∀ t, (Er js o t).length = o.length
  | 0 => by simp [Er, zeros]
  | t + 1 => by
    simp only [Er, zE_len, List.length_zip, Er_len js o t]
    omega
theorem zip_fst {o : List Nat} {l : List Int} (h : l.length = o.length) : (o.zip l).map (·.1) = o := List.map_fst_zip (by omega)
theorem Er_S3 (js : List Job) (o : List Nat) (hk : ∀ k ∈ o, 0 ≤ (jAt js k).1 ∧ 0 ≤ (jAt js k).2.2) : mxI 0 (Er js o 3) = S3 0 0 0 (sel js o) := S3_zE js o 0 0 0 (Int.le_refl _) hk
def comeR (js : List Job) (o : List Nat) : Nat → List (Key × D)
  | 0 => kv (zer js.length)
  | t + 1 => kv (o.zip (Er js o (t + 1)))
theorem comeR_low {b : Nat} (js : List Job) (o : List Nat) : ∀ t, ∀ p ∈ comeR js o t, Low b p.2
  | 0 => low_kv _
  | t + 1 => low_kv _
theorem comeR_waits (js : List Job) (o : List Nat) (ho : o.Nodup) (hlt : ∀ k ∈ o, k < js.length) : ∀ t, Waits (comeR js o t) (o.zip (Er js o t))
  | 0 => fun p hp => by
    have h1 : p.1 ∈ o := (List.of_mem_zip (a := p.1) (b := p.2) hp).1
    have h2 : p.2 ∈ zeros o := (List.of_mem_zip (a := p.1) (b := p.2) hp).2
    obtain ⟨_, _, h3⟩ := List.mem_map.mp h2
    have : (p.1, p.2) ∈ zer js.length := List.mem_map.mpr ⟨p.1, List.mem_range.mpr (hlt _ h1), by rw [← h3]⟩
    exact look_kv (by rw [zer_fst]; exact List.nodup_range) this
  | t + 1 => fun p hp => look_kv (by rw [zip_fst (Er_len js o (t + 1))]; exact ho) hp
def foundR (js : List Job) (o : List Nat) (t : Nat) : List D := (List.range t).map fun i => D.dk (kv (o.zip (Er js o (i + 1))))
def bEbr (p : Nat) : Sms := (.cons (.par [2, 3] (.cons false (.al (.lst .nil)) (.cons false (.dcomp (.nm 6) (.lint 0) (.nm 6) (.rng (.cons false (.bi .len (.cons false (.nm 0) .nil)) .nil)) .nil [6]) .nil))) (.cons (.forr (.tup (.cons (.nm 4) (.cons (.nm 5) .nil))) (.enum (.nm 1)) (.cons (.asg (.nm 3) (.call p (.cons false (.comp (.sub (.nm 6) (.nm 4)) (.nm 6) (.seq (.nm 0)) .nil [6]) (.cons false (.nm 5) (.cons false (.nm 3) .nil))))) (.cons (.expr (.mth .append (.nm 2) (.cons false (.nm 3) .nil))) .nil))) (.cons (.ret (.nm 2)) .nil)))
def eOrd3 (o : List Nat) : D := .tup [eOrd o, eOrd o, eOrd o]
theorem ev_call3 {f : Nat} {r : D × Hs} (q1 : evE C a e h = some (x, h1)) (q2 : evE C b e h1 = some (y, h2)) (q3 : evE C c e h2 = some (d, h3)) (q : C f [x, y, d] h3 = some r) : evE C (.call f (.cons false a (.cons false b (.cons false c .nil)))) e h = some r := by
  simp only [evE, evA, q1, q2, q3, Bool.false_eq_true, if_false, List.append_nil, List.cons_append, List.nil_append, q]
theorem low_found {b : Nat} (js : List Job) (o : List Nat) (t : Nat) : ∀ x ∈ foundR js o t, Low b x := low_ofList (fun i => .dk (low_kv _)) _
theorem ebr_call {p : Nat} (hp : EirSpec C p) (js : List Job) (o : List Nat) (ho : o.Nodup) (hlt : ∀ k ∈ o, k < js.length) (hl : o.length ≤ 1000) (hjl : js.length ≤ 1000) (hc : Cl h) :
    callD C L ⟨2, 7, false, bEbr p⟩ [eJobs js, eOrd3 o] h = some (.lst (foundR js o 3), h) := by
  have hsz : (2000 : Nat) < sizeLine := by
    have := sizeLine_eq
    omega
  have e1 : evA C (.cons false (.al (.lst .nil)) (.cons false (.dcomp (.nm 6) (.lint 0) (.nm 6) (.rng (.cons false (.bi .len (.cons false (.nm 0) .nil)) .nil)) .nil [6]) .nil)) [some (eJobs js), some (eOrd3 o), none, none, none, none, none] h = some ([.ref h.length, .dk (comeR js o 0)], h ++ [.lst []]) := by
    have t : evE C (.al (.lst .nil)) [some (eJobs js), some (eOrd3 o), none, none, none, none, none] h = some (.ref h.length, h ++ [.lst []]) := by
      simp only [evE, evA]
      rw [chk_pos (show ([] : List D).length ≤ sizeLine from Nat.zero_le _)]
    exact evA_2 t (ev_zer rfl (by simp) hjl)
  have hi : evI C (.enum (.nm 1)) [some (eJobs js), some (eOrd3 o), some (.ref h.length), some (.dk (comeR js o 0)), none, none, none] (h ++ [.lst []]) = some ((enumL ((0 : Nat) : Int) (List.replicate 3 (eOrd o)), []), h ++ [.lst []]) := by
    simp only [evI, evE, List.getElem?_cons_succ, List.getElem?_cons_zero]
    rfl
  obtain ⟨e', h', q, t, o4, o5, ht, hr, rfl, rfl⟩ := sx_for (C := C) (L := L) (tg := .tup (.cons (.nm 4) (.cons (.nm 5) .nil))) (it := .enum (.nm 1)) (e := [some (eJobs js), some (eOrd3 o), some (.ref h.length), some (.dk (comeR js o 0)), none, none, none]) (h := h ++ [.lst []])
    (b := .cons (.asg (.nm 3) (.call p (.cons false (.comp (.sub (.nm 6) (.nm 4)) (.nm 6) (.seq (.nm 0)) .nil [6]) (.cons false (.nm 5) (.cons false (.nm 3) .nil))))) (.cons (.expr (.mth .append (.nm 2) (.cons false (.nm 3) .nil))) .nil)) hi
    (fun rem e h' => ∃ (t : Nat) (o4 o5 : Option D), t ≤ 3 ∧ rem = enumL (t : Int) (List.replicate (3 - t) (eOrd o)) ∧ e = [some (eJobs js), some (eOrd3 o), some (.ref h.length), some (.dk (comeR js o t)), o4, o5, none] ∧ h' = h ++ [.lst (foundR js o t)])
    (fun _ _ _ _ => ok_nil) ⟨0, none, none, by omega, rfl, rfl, rfl⟩ (fun x rem e h' hI => by
      obtain ⟨t, o4, o5, ht, hr, rfl, rfl⟩ := hI
      by_cases ht3 : t = 3
      · subst ht3
        cases hr
      · have hlt3 : t < 3 := by omega
        obtain ⟨u, hu⟩ : ∃ u, 3 - t = u + 1 := ⟨2 - t, by omega⟩
        rw [hu, List.replicate_succ] at hr
        simp only [enumL, List.cons.injEq] at hr
        obtain ⟨rfl, rfl⟩ := hr
        have hcl : Cl (h ++ [.lst (foundR js o t)]) := hc.add (o := .lst (foundR js o t)) (low_found js o t)
        have c1 := ev_compA (C := C) (elt := .sub (.nm 6) (.nm 4)) (tg := .nm 6) (ifs := .nil) (own := [6]) eJob (fun j => D.int (fldJ t j)) (xs := js) (e := [some (eJobs js), some (eOrd3 o), some (.ref h.length), some (.dk (comeR js o t)), some (.int (t : Nat)), some (eOrd o), none]) (h := h ++ [.lst (foundR js o t)]) (seq_tup (k := 0) rfl)
          (fun j _ => turn_all (e2 := [some (eJobs js), some (eOrd3 o), some (.ref h.length), some (.dk (comeR js o t)), some (.int (t : Nat)), some (eOrd o), some (eJob j)]) (by simp only [evT]; rfl) (ev_sub (ev_nm rfl) (ev_nm rfl) (sub_fld hlt3 j))) (by omega)
        have hm : js.map (fun j => D.int (fldJ t j)) = (js.map (fldJ t)).map .int := by
          rw [List.map_map]
          rfl
        rw [hm] at c1
        have hz := zip_fst (o := o) (Er_len js o t)
        have hcall := hp (h ++ [.lst (foundR js o t)]) (js.map (fldJ t)) (fun k => fldJ t (jAt js k)) (o.zip (Er js o t)) (comeR js o t) (comeR_waits js o ho hlt t) (comeR_low js o t) (by rw [hz]; exact ho) (fun q hq => by
          have h1 : q.1 ∈ o := (List.of_mem_zip (a := q.1) (b := q.2) hq).1
          rw [List.getElem?_map, jAt_get (hlt _ h1)]
          rfl) (by rw [List.length_zip, Er_len]; omega) hcl
        rw [hz] at hcall
        have s1 := sx_set (L := L) (i := 3) (ev_call3 (C := C) (f := p) c1 (ev_nm (k := 5) rfl) (ev_nm (k := 3) rfl) hcall)
        have s2 := ev_append (C := C) (e := [some (eJobs js), some (eOrd3 o), some (.ref h.length), some (.dk (comeR js o (t + 1))), some (.int (t : Nat)), some (eOrd o), none]) (h := h ++ [.lst (foundR js o t)]) (a := .nm 3) (k := 2) rfl (ap_get _ _) (ev_nm rfl) (ap_get _ _) (by unfold foundR; rw [List.length_map, List.length_range]; omega)
        rw [ap_set] at s2
        have hf : foundR js o t ++ [.dk (comeR js o (t + 1))] = foundR js o (t + 1) := by
          unfold foundR
          rw [List.range_succ, List.map_append]
          rfl
        rw [hf] at s2
        refine ⟨_, _, _, _, by simp only [evT, getS, evTs]; rfl, sx_next s1 (sx_next (sx_expr s2) sx_nil), t + 1, _, _, by omega, ?_, rfl, rfl⟩
        rw [show 3 - (t + 1) = u by omega]
        rfl)
  have ht3 : t = 3 := by
    apply Nat.le_antisymm ht
    apply Nat.le_of_not_lt
    intro hlt3
    obtain ⟨u, hu⟩ : ∃ u, 3 - t = u + 1 := ⟨2 - t, by omega⟩
    rw [hu, List.replicate_succ] at hr
    cases hr
  subst ht3
  rw [callD_eq (F := ⟨2, 7, false, bEbr p⟩) rfl (sx_next (sx_par e1 rfl) (sx_next q (sx_ret (ev_nm rfl))))]
  exact fin_ret hc (frz_ref (Nat.le_refl _) (ap_get _ _) (low_found js o 3))
def bRsp (p : Nat) : Sms := (.cons (.ret (.bi .max1 (.cons false (.bin .add (.lst (.cons false (.lint 0) .nil)) (.bi .vals (.cons false (.sub (.call p (.cons false (.nm 0) (.cons false (.nm 1) .nil))) (.lint 2)) .nil))) .nil))) .nil)
theorem rsp_call {p : Nat} (js : List Job) (o : List Nat) (hp : C p [eJobs js, eOrd3 o] h = some (.lst (foundR js o 3), h)) (hk : ∀ k ∈ o, 0 ≤ (jAt js k).1 ∧ 0 ≤ (jAt js k).2.2) (hl : o.length ≤ 1000) (hc : Cl h) : callD C L ⟨2, 2, false, bRsp p⟩ [eJobs js, eOrd3 o] h = some (.int (S3 0 0 0 (sel js o)), h) := by
  have hsz : (2000 : Nat) < sizeLine := by
    have := sizeLine_eq
    omega
  have e1 : evE C (.lst (.cons false (.lint 0) .nil)) [some (eJobs js), some (eOrd3 o)] h = some (.lst [.int 0], h) := by
    simp only [evE, evA, Bool.false_eq_true, if_false, List.append_nil]
    exact chk_pos (Nat.le_of_lt (small15 (by simp)))
  have e2 := ev_sub (C := C) (ev_call2 (ev_nm (e := [some (eJobs js), some (eOrd3 o)]) (h := h) (k := 0) rfl) (ev_nm (k := 1) rfl) hp) (ev_lint (i := 2)) (show subD h (.lst (foundR js o 3)) (.int ((2 : Nat) : Int)) = some (.dk (kv (o.zip (Er js o 3)))) by rw [subD_lst]; rfl)
  have hv : (kv (o.zip (Er js o 3))).map (·.2) = (Er js o 3).map .int := by
    unfold kv
    rw [List.map_map]
    have : (o.zip (Er js o 3)).map (fun p => D.int p.2) = ((o.zip (Er js o 3)).map (·.2)).map .int := by
      rw [List.map_map]
      rfl
    show (o.zip (Er js o 3)).map (fun p => D.int p.2) = _
    rw [this, List.map_snd_zip (by rw [Er_len]; omega)]
  have e3 := ev_bi1 (C := C) (f := .vals) e2 (show biD h .vals [.dk (kv (o.zip (Er js o 3)))] = some (.lst ((Er js o 3).map .int)) by
    simp only [biD, valsD, one, getDk, Option.bind_some, Option.map_some, hv])
  have e4 := ev_cat (C := C) e1 e3 (by rw [List.length_map, Er_len]; simp only [List.length_cons, List.length_nil]; omega)
  rw [callD_eq (F := ⟨2, 2, false, bRsp p⟩) rfl (sx_ret (ev_bi1 e4 bi_max1)), Er_S3 js o hk]
  exact fin_low0 hc (.int _)
def bRs (p : Nat) : Sms := (.cons (.ret (.call p (.cons false (.nm 0) (.cons false (.tup (.cons false (.nm 1) (.cons false (.nm 1) (.cons false (.nm 1) .nil)))) .nil)))) .nil)
theorem rs_call {p : Nat} (js : List Job) (o : List Nat) (hp : C p [eJobs js, eOrd3 o] h = some (.int (S3 0 0 0 (sel js o)), h)) (hc : Cl h) : callD C L ⟨2, 2, false, bRs p⟩ [eJobs js, eOrd o] h = some (.int (S3 0 0 0 (sel js o)), h) := by
  rw [callD_eq (F := ⟨2, 2, false, bRs p⟩) rfl (sx_ret (ev_call2 (ev_nm rfl) (ev_tup3 (ev_nm rfl) (ev_nm rfl) (ev_nm rfl)) hp))]
  exact fin_low0 hc (.int _)
end
end Z

set_option Elab.async false
set_option linter.all false
set_option maxRecDepth 100000
set_option maxHeartbeats 8000000
/-! Y15: what is shown -/
namespace Z
open PySem PySem.Spec PyProof.Rows L2
def Sho (p : PyData) : Prop := p.showable = true ∧ p.hasDict = false ∧ p.leavesShort 40 = true
theorem sho_int {i : Int} (h0 : 0 ≤ i) (h1 : i < 10 ^ 20) : Sho (.int i) := by
  refine ⟨?_, rfl, ?_⟩
  · simp only [PyData.showable, decide_eq_true_eq]
    obtain ⟨n, rfl⟩ : ∃ n : Nat, i = n := ⟨i.toNat, by omega⟩
    by_cases hn : n = 0
    · subst hn; decide
    · rw [Int.natAbs_natCast, Nat.log2_lt hn]
      have : n < 10 ^ 20 := by omega
      exact Nat.lt_of_lt_of_le this (Nat.le_trans (by decide : (10 : Nat) ^ 20 ≤ 2 ^ 100) (Nat.pow_le_pow_right (by omega) (by omega)))
  · simp only [PyData.leavesShort, decide_eq_true_eq]
    have := toString_length_le h0 (show 0 < 20 by omega) h1
    exact Nat.le_trans this (by omega)
theorem sho_all : ∀ {l : List PyData}, (∀ x ∈ l, Sho x) → PyData.showableAll l = true ∧ PyData.hasDictAll l = false ∧ PyData.leavesShortAll 40 l = true
  | [], _ => ⟨rfl, rfl, rfl⟩
  | x :: r, h => by
    obtain ⟨a1, a2, a3⟩ := h x List.mem_cons_self
    obtain ⟨b1, b2, b3⟩ := sho_all fun y hy => h y (List.mem_cons_of_mem _ hy)
    simp only [PyData.showableAll, PyData.hasDictAll, PyData.leavesShortAll, a1, a2, a3, b1, b2, b3, Bool.and_self, Bool.or_self, and_self]
theorem sho_tup {l : List PyData} (h : ∀ x ∈ l, Sho x) : Sho (.tuple l) := by
  obtain ⟨a, b, c⟩ := sho_all h
  exact ⟨by simp only [PyData.showable, a], by simp only [PyData.hasDict, b], by simp only [PyData.leavesShort, c]⟩
theorem sho_lst {l : List PyData} (h : ∀ x ∈ l, Sho x) : Sho (.list l) := by
  obtain ⟨a, b, c⟩ := sho_all h
  exact ⟨by simp only [PyData.showable, a], by simp only [PyData.hasDict, b], by simp only [PyData.leavesShort, c]⟩
theorem bulk_all (B : Nat) : ∀ {l : List PyData}, (∀ x ∈ l, x.bulk ≤ B) → PyData.bulkAll l ≤ l.length * (B + 1)
  | [], _ => by simp [PyData.bulkAll]
  | x :: r, h => by
    have h1 := h x List.mem_cons_self
    have h2 := bulk_all B fun y hy => h y (List.mem_cons_of_mem _ hy)
    simp only [PyData.bulkAll, List.length_cons, Nat.succ_mul]
    omega
theorem repr_ok {hs : Hs} {d : D} {p : PyData} (h : py hs 60 d = some p) (hp : Sho p) (hb : p.bulk ≤ 390000) : biD hs .repr [d] = some (.str p.shown) := by
  simp only [biD, reprD, one, Option.bind_some, h]
  exact chk_pos ⟨hp.1, hp.2.1, hp.2.2, hb⟩
def pJob (j : Job) : PyData := .tuple [.int j.1, .int j.2.1, .int j.2.2]
theorem py_job {hs : Hs} {n : Nat} (j : Job) : py hs (n + 1) (eJob j) = some (pJob j) := by
  unfold eJob pJob
  simp only [py, List.mapM_cons, List.mapM_nil, py_int]
  rfl
theorem py_jobs {hs : Hs} {n : Nat} (js : List Job) : py hs (n + 2) (eJobs js) = some (.tuple (js.map pJob)) := by
  unfold eJobs
  simp only [py, mapM_map eJob pJob fun j _ => py_job j, Option.map_some]
theorem sho_job {j : Job} (h : JobOk j) : Sho (pJob j) := sho_tup fun x hx => by
  obtain ⟨⟨a1, a2⟩, ⟨b1, b2⟩, ⟨c1, c2⟩⟩ := h
  simp only [List.mem_cons, List.not_mem_nil, or_false] at hx
  rcases hx with rfl | rfl | rfl <;> exact sho_int (by omega) (by omega)
theorem repr_jobs {hs : Hs} {js : List Job} (h : ∀ j ∈ js, JobOk j) (hl : js.length ≤ 1000) : biD hs .repr [eJobs js] = some (.str (PyData.shown (.tuple (js.map pJob)))) := by
  refine repr_ok (py_jobs (n := 58) js) (sho_tup fun x hx => ?_) ?_
  · obtain ⟨j, hj, rfl⟩ := List.mem_map.mp hx
    exact sho_job (h j hj)
  · have := bulk_all 3 (l := js.map pJob) fun x hx => by
      obtain ⟨j, hj, rfl⟩ := List.mem_map.mp hx
      show (0 + 1 + (0 + 1 + (0 + 1 + 0))) ≤ 3
      omega
    rw [List.length_map] at this
    show PyData.bulkAll (js.map pJob) ≤ 390000
    omega
theorem repr_ow {hs : Hs} {o : List Nat} {w : Int} (ho : ∀ k ∈ o, k < 1000) (hl : o.length ≤ 1000) (h0 : 0 ≤ w) (h1 : w < 10 ^ 20) : ∃ s, biD hs .repr [.lst [eOrd o, .int w]] = some (.str s) := by
  have hpy : py hs 60 (.lst [eOrd o, .int w]) = some (.list [.tuple (o.map fun (k : Nat) => .int k), .int w]) := by
    simp only [py, List.mapM_cons, List.mapM_nil, py_ord, py_int]
    rfl
  refine ⟨_, repr_ok hpy (sho_lst fun x hx => ?_) ?_⟩
  · simp only [List.mem_cons, List.not_mem_nil, or_false] at hx
    rcases hx with rfl | rfl
    · refine sho_tup fun y hy => ?_
      obtain ⟨k, hk, rfl⟩ := List.mem_map.mp hy
      have := ho k hk
      exact sho_int (by omega) (by omega)
    · exact sho_int h0 h1
  · have := bulk_all 0 (l := o.map fun (k : Nat) => PyData.int k) fun x hx => by
      obtain ⟨k, hk, rfl⟩ := List.mem_map.mp hx
      exact Nat.le_refl 0
    rw [List.length_map] at this
    show PyData.bulkAll (o.map fun (k : Nat) => PyData.int k) + 1 + (0 + 1 + 0) ≤ 390000
    omega
theorem W_le : ∀ (r : List Job) (f l : Int), (∀ j ∈ r, JobOk j) → W f l r ≤ max f l + 72 * r.length
  | [], f, l, _ => by simp only [W, List.length_nil]; omega
  | (a, b, c) :: r, f, l, h => by
    obtain ⟨⟨a1, a2⟩, ⟨b1, b2⟩, ⟨c1, c2⟩⟩ := h (a, b, c) List.mem_cons_self
    simp only at a1 a2 b1 b2 c1 c2
    have ih := W_le r (f + a) (max l (f + a + b) + c) fun j hj => h j (List.mem_cons_of_mem _ hj)
    simp only [W, List.length_cons]
    omega
theorem cmp_ne_str {h : Hs} {a b : Str} : cmpD h .ne (.str a) (.str b) = some (!decide (a = b)) := by simp only [cmpD, strs2]
/-- one more level of calls -/
theorem calls_at {fns : List Fn} {L n f : Nat} {F : Fn} {ds : List D} {hs : Hs} (h : fns[f]? = some F) : calls fns L (n + 1) f ds hs = callD (calls fns L n) L F ds hs := by
  simp only [calls, h]
end Z

set_option Elab.async false
set_option linter.all false
set_option maxRecDepth 100000
set_option maxHeartbeats 8000000
/-! X3: dict comprehensions, what is shown, tables of defs -/
namespace Z
open PySem PySem.Spec PyProof.Rows L2
section
variable {C : Cal} {ke ve : Ex} {tg : Tg} {it : Iter} {ifs : Exs} {own : List Nat} {e : Ev} {h : Hs} {α : Type}
def wDc (C : Cal) (ke ve : Ex) (tg : Tg) (ifs : Exs) (own : List Nat) (src : Src) (e : Ev) (h : Hs) (Q : List D → Hs → Prop) : Prop := wO (loopC src (turnD C ke ve tg ifs own e) src.1 h) fun r => Q r.1 r.2
theorem wE_dcomp {Q : QE} : wE C (.dcomp ke ve tg it ifs own) e h Q = wI C it e h fun src h1 => wDc C ke ve tg ifs own src e h1 fun l h2 => src.1.length ≤ sizeLine ∧ Q (.dk (mergeD [] (l.filterMap pairK))) h2 := by
  unfold wE wI wDc
  rw [evE]
  rcases evI C it e h with _ | ⟨src, h1⟩
  · rw [wO_none, wO_none]
  · rw [wO_some]
    show wO (match loopC src (turnD C ke ve tg ifs own e) src.1 h1 with
      | some (l, h2) => chk (src.1.length ≤ sizeLine) (D.dk (mergeD [] (l.filterMap pairK)), h2)
      | none => none) _ = _
    show _ = wO (loopC src (turnD C ke ve tg ifs own e) src.1 h1) fun r => src.1.length ≤ sizeLine ∧ Q (.dk (mergeD [] (r.1.filterMap pairK))) r.2
    cases loopC src (turnD C ke ve tg ifs own e) src.1 h1 with
    | none => rw [wO_none, wO_none]
    | some p => rw [wO_some]; exact wO_chk
theorem turnD_pure {x k v : D} {ky : Key} (hk : keyOf k = some ky) (t : wW e own fun e0 => wT C tg x e0 h fun e1 h1 => wE C ke e1 h1 fun y h2 => y = k ∧ h2 = h1 ∧ wE C ve e1 h2 fun z h3 => z = v ∧ h3 = h) : turnD C ke ve tg .nil own e x h = some (some (.tup [k, v]), h) := by
  unfold wW at t
  obtain ⟨⟨e1, h1⟩, q1, ⟨⟨y, h2⟩, q2, rfl, rfl, ⟨⟨z, h3⟩, q3, rfl, rfl⟩⟩⟩ := t
  unfold turnD
  simp only [q1, evC, q2, hk, q3]
theorem keyOf_of (ky : Key) : keyOf (ofKey ky) = some ky := by cases ky <;> rfl
theorem wDc_pure {Q : List D → Hs → Prop} {enc : α → D} {xs : List α} (kf : α → Key) (vf : α → D) (t : ∀ x ∈ xs, wW e own fun e0 => wT C tg (enc x) e0 h fun e1 h1 => wE C ke e1 h1 fun y h2 => y = ofKey (kf x) ∧ h2 = h1 ∧ wE C ve e1 h2 fun z h3 => z = vf x ∧ h3 = h) (q : Q (xs.map fun x => .tup [ofKey (kf x), vf x]) h) : wDc C ke ve tg .nil own (xs.map enc, []) e h Q := by
  unfold wDc
  have := loopC_ghost (src := xs.map enc) (g := turnD C ke ve tg .nil own e) (h := h) enc (fun x => some (.tup [ofKey (kf x), vf x])) (l := xs) fun x hx => turnD_pure (keyOf_of _) (t x hx)
  rw [fm_map] at this
  rw [this, wO_some]
  exact q
theorem pairs_fm (kf : α → Key) (vf : α → D) (xs : List α) : (xs.map fun x => D.tup [ofKey (kf x), vf x]).filterMap pairK = xs.map fun x => (kf x, vf x) := by
  induction xs with
  | nil => rfl
  | cons x r ih =>
    rw [List.map_cons, List.map_cons, List.filterMap_cons_some, ih]
    simp only [pairK, keyOf_of, Option.map_some]
theorem put_new {κ : Type} [DecidableEq κ] {kvs : List (κ × D)} {k : κ} {v : D} (h : k ∉ kvs.map (·.1)) : put kvs k v = kvs ++ [(k, v)] := by
  unfold put
  rw [if_neg]
  rw [List.any_eq_true]
  rintro ⟨p, hp, q⟩
  exact h (List.mem_map.mpr ⟨p, hp, by simpa using q⟩)
theorem merge_nd {κ : Type} [DecidableEq κ] : ∀ (l a : List (κ × D)), ((a ++ l).map (·.1)).Nodup → mergeD a l = a ++ l
  | [], a, _ => by rw [List.append_nil]; rfl
  | p :: r, a, h => by
    have h1 : p.1 ∉ a.map (·.1) := by
      rw [List.map_append, List.nodup_append] at h
      intro z
      exact h.2.2 _ z _ (List.mem_map.mpr ⟨p, List.mem_cons_self, rfl⟩) rfl
    have : mergeD a (p :: r) = mergeD (put a p.1 p.2) r := rfl
    rw [this, put_new h1, merge_nd r (a ++ [(p.1, p.2)]) (by rw [List.append_assoc]; exact h), List.append_assoc]
    rfl
theorem look_in {κ : Type} [DecidableEq κ] : ∀ {l : List (κ × D)} {k : κ} {v : D}, (l.map (·.1)).Nodup → (k, v) ∈ l → look l k = some v
  | [], k, v, _, h => by cases h
  | p :: r, k, v, hn, h => by
    have hn' := List.nodup_cons.mp hn
    unfold look
    rw [List.find?_cons]
    by_cases e : p.1 = k
    · simp only [e, decide_true]
      rcases List.mem_cons.mp h with h | h
      · rw [← h]; rfl
      · exact absurd (List.mem_map.mpr ⟨_, h, e.symm⟩) hn'.1
    · simp only [e, decide_false]
      rcases List.mem_cons.mp h with h | h
      · rw [← h] at e; exact absurd rfl e
      · exact look_in hn'.2 h
end
/-! ### what is shown -/
/-- shown the same wherever it is -/
def Shw (d : D) : Prop := ∃ s, ∀ hs, biD hs .repr [d] = some (.str s)
open Classical in
noncomputable def rep (d : D) : Str := if h : Shw d then h.choose else default
theorem u_rep {d : D} (h : Shw d) {hs : Hs} : biD hs .repr [d] = some (.str (rep d)) := by
  unfold rep
  rw [dif_pos h]
  exact h.choose_spec hs
theorem sho_i12 {i : Int} (h : i.natAbs < 10 ^ 12) : Sho (.int i) := by
  refine ⟨?_, rfl, ?_⟩
  · simp only [PyData.showable, decide_eq_true_eq]
    by_cases hn : i.natAbs = 0
    · rw [hn]; decide
    · rw [Nat.log2_lt hn]
      exact Nat.lt_of_lt_of_le h (Nat.le_trans (by decide : (10 : Nat) ^ 12 ≤ 2 ^ 100) (Nat.pow_le_pow_right (by omega) (by omega)))
  · simp only [PyData.leavesShort, decide_eq_true_eq]
    have := PyData.shown_int_le h
    omega
/-- fits to be shown: k its depth, n bounds its bulk -/
def Fit (k n : Nat) (d : D) : Prop := ∃ p, (∀ hs m, py hs (m + k) d = some p) ∧ Sho p ∧ p.bulk ≤ n
def FitL (k n : Nat) (l : List D) : Prop := ∃ ps : List PyData, (∀ hs m, l.mapM (py hs (m + k)) = some ps) ∧ (∀ p ∈ ps, Sho p) ∧ PyData.bulkAll ps ≤ n
theorem shw_fit {k n : Nat} {d : D} (h : Fit k n d) (hk : k ≤ 60) (hn : n ≤ 390000) : Shw d := by
  obtain ⟨p, h1, h2, h3⟩ := h
  refine ⟨p.shown, fun hs => repr_ok ?_ h2 (Nat.le_trans h3 hn)⟩
  have := h1 hs (60 - k)
  rwa [Nat.sub_add_cancel hk] at this
theorem fit_mono {k k' n n' : Nat} {d : D} (h : Fit k n d) (hk : k ≤ k') (hn : n ≤ n') : Fit k' n' d := by
  obtain ⟨p, h1, h2, h3⟩ := h
  refine ⟨p, fun hs m => ?_, h2, Nat.le_trans h3 hn⟩
  have := h1 hs (m + (k' - k))
  rwa [Nat.add_assoc, Nat.sub_add_cancel hk] at this
theorem fit_non {k : Nat} : Fit k 0 .non := ⟨.none, fun hs m => by cases m + k <;> simp only [py], ⟨rfl, rfl, rfl⟩, Nat.le_refl _⟩
theorem fit_bl {k : Nat} {b : Bool} : Fit k 0 (.bl b) := ⟨.bool b, fun hs m => by cases m + k <;> simp only [py], ⟨rfl, rfl, rfl⟩, Nat.le_refl _⟩
theorem fit_int {k : Nat} {i : Int} (h : i.natAbs < 10 ^ 12) : Fit k 0 (.int i) := ⟨.int i, fun hs m => py_int, sho_i12 h, Nat.le_refl _⟩
theorem fit_nat {k : Nat} {i : Int} (h0 : 0 ≤ i) (h : i < 10 ^ 20) : Fit k 0 (.int i) := ⟨.int i, fun hs m => py_int, sho_int h0 h, Nat.le_refl _⟩
theorem fit_eN {k : Nat} {i : Nat} (h : i < 10 ^ 12) : Fit k 0 (eN i) := fit_int (by omega)
theorem fit_str {k : Nat} {s : Str} (h : s.cps.toList.all (fun c => decide (c < 16 ^ 8)) = true) : Fit k s.cps.size (.str s) := ⟨.str s, fun hs m => by cases m + k <;> simp only [py], ⟨rfl, rfl, h⟩, Nat.le_refl _⟩
theorem fit_tup {k n : Nat} {l : List D} (h : FitL k n l) : Fit (k + 1) n (.tup l) := by
  obtain ⟨ps, h1, h2, h3⟩ := h
  refine ⟨.tuple ps, fun hs m => ?_, sho_tup h2, h3⟩
  show py hs ((m + k) + 1) (.tup l) = _
  simp only [py, h1, Option.map_some]
theorem fit_lst {k n : Nat} {l : List D} (h : FitL k n l) : Fit (k + 1) n (.lst l) := by
  obtain ⟨ps, h1, h2, h3⟩ := h
  refine ⟨.list ps, fun hs m => ?_, sho_lst h2, h3⟩
  show py hs ((m + k) + 1) (.lst l) = _
  simp only [py, h1, Option.map_some]
theorem fitL_nil {k : Nat} : FitL k 0 [] := ⟨[], fun hs m => rfl, (fun p hp => by cases hp), Nat.le_refl _⟩
theorem fitL_cons {k a b : Nat} {x : D} {l : List D} (h1 : Fit k a x) (h2 : FitL k b l) : FitL k (a + 1 + b) (x :: l) := by
  obtain ⟨p, a1, a2, a3⟩ := h1
  obtain ⟨ps, b1, b2, b3⟩ := h2
  refine ⟨p :: ps, fun hs m => ?_, fun q hq => ?_, ?_⟩
  · simp only [List.mapM_cons, a1, b1, Option.bind_eq_bind, Option.bind_some, Option.pure_def]
  · rcases List.mem_cons.mp hq with rfl | hq
    · exact a2
    · exact b2 q hq
  · simp only [PyData.bulkAll]
    omega
theorem fitL_all {k a : Nat} : ∀ {l : List D}, (∀ x ∈ l, Fit k a x) → FitL k (l.length * (a + 1)) l
  | [], _ => by
    rw [List.length_nil, Nat.zero_mul]
    exact fitL_nil
  | x :: r, h => by
    have := fitL_cons (h x List.mem_cons_self) (fitL_all fun y hy => h y (List.mem_cons_of_mem _ hy))
    rw [List.length_cons, Nat.succ_mul, Nat.add_comm]
    exact this
theorem fitL_map {α : Type} {k a : Nat} {f : α → D} {l : List α} (h : ∀ x ∈ l, Fit k a (f x)) : FitL k (l.length * (a + 1)) (l.map f) := by
  have := fitL_all (k := k) (a := a) (l := l.map f) fun x hx => by
    obtain ⟨y, hy, rfl⟩ := List.mem_map.mp hx
    exact h y hy
  rwa [List.length_map] at this
theorem fit_ord {o : List Nat} (h : ∀ k ∈ o, k < 1000000) : Fit 1 o.length (eOrd o) := by
  have := fit_tup (k := 0) (fitL_map (a := 0) (f := eN) (l := o) fun x hx => fit_eN (by have := h x hx; omega))
  rwa [Nat.mul_one] at this
theorem fit_job {j : Job} (h : JobOk j) : Fit 1 3 (eJob j) := by
  obtain ⟨⟨a1, a2⟩, ⟨b1, b2⟩, ⟨c1, c2⟩⟩ := h
  exact fit_tup (k := 0) (fitL_cons (fit_int (by omega)) (fitL_cons (fit_int (by omega)) (fitL_cons (fit_int (by omega)) fitL_nil)))
theorem fit_jobs {js : List Job} (h : ∀ j ∈ js, JobOk j) : Fit 2 (js.length * 4) (eJobs js) := fit_tup (fitL_map fun j hj => fit_job (h j hj))
theorem calls_fn {fns : List Fn} {L n f : Nat} {F : Fn} (h : fns[f]? = some F) : calls fns L (n + 1) f = callD (calls fns L n) L F := by
  funext ds hs
  exact calls_at h
/-! ### lists written in the store, by a function of the place -/
theorem fun_set {α : Type} (g : Nat → α) (n k : Nat) (v : α) : ((List.range n).map g).set k v = (List.range n).map fun i => if i = k then v else g i := by
  apply List.ext_getElem
  · rw [List.length_set, List.length_map, List.length_map]
  · intro i h1 h2
    rw [List.getElem_set, List.getElem_map, List.getElem_map, List.getElem_range]
    by_cases hi : k = i
    · subst hi; simp
    · rw [if_neg hi, if_neg fun z => hi z.symm]
theorem fun_rep {α : Type} (n : Nat) (x : α) : List.replicate n x = (List.range n).map fun _ => x := by
  rw [List.map_const', List.length_range]
theorem fun_get {α : Type} (g : Nat → α) {n k : Nat} (h : k < n) : ((List.range n).map g)[k]? = some (g k) := by
  rw [List.getElem?_map, List.getElem?_range h]; rfl
/-! ### the store, by what stands there -/
def wSt : O → D → D → (O → Prop) → Prop
  | .lst l, .int k, v, Q => wO (ix l.length k) fun j => Q (.lst (l.set j v))
  | .dk kvs, .int i, v, Q => kvs.length < sizeLine ∧ Q (.dk (put kvs (.inl i) v))
  | .dk kvs, .str i, v, Q => kvs.length < sizeLine ∧ Q (.dk (put kvs (.inr i) v))
  | .dt kvs, i, v, Q => wO (keysOf i) fun k => kvs.length < sizeLine ∧ Q (.dt (put kvs k v))
  | _, _, _, _ => False
section
variable {h : Hs} {n : Nat}
theorem wSt_l {l : List D} {k : Int} {v : D} {Q : O → Prop} : wSt (.lst l) (.int k) v Q = wO (ix l.length k) fun j => Q (.lst (l.set j v)) := rfl
theorem wSt_i {l : List (Key × D)} {k : Int} {v : D} {Q : O → Prop} : wSt (.dk l) (.int k) v Q = (l.length < sizeLine ∧ Q (.dk (put l (.inl k) v))) := rfl
theorem wSt_s {l : List (Key × D)} {k : Str} {v : D} {Q : O → Prop} : wSt (.dk l) (.str k) v Q = (l.length < sizeLine ∧ Q (.dk (put l (.inr k) v))) := rfl
theorem wSt_t {l : List (List Key × D)} {k v : D} {Q : O → Prop} : wSt (.dt l) k v Q = wO (keysOf k) fun k => l.length < sizeLine ∧ Q (.dt (put l k v)) := rfl
theorem st_ref {i v : D} {Q : Hs → Prop} : wO (setD h (.ref n) i v) Q = wO h[n]? fun o => wSt o i v fun o' => Q (h.set n o') := by
  unfold setD
  simp only
  rcases h[n]? with _ | o
  · simp only [wO_none]
  · rw [wO_some]
    cases o with
    | lst l =>
      cases i with
      | int k => simp only [wO_map]; rfl
      | _ => simp only [wO_none, wSt]
    | dk l =>
      cases i with
      | int k => simp only [keyOf, wO_chk]; rfl
      | str k => simp only [keyOf, wO_chk]; rfl
      | _ => simp only [keyOf, wO_none, wSt]
    | dt l =>
      simp only [wSt_t]
      rcases keysOf i with _ | k
      · simp only [wO_none]
      · simp only [wO_some, wO_chk]
theorem wO_ixn {m k : Nat} {Q : Nat → Prop} : wO (ix m (k : Int)) Q = (k < m ∧ Q k) := by
  rw [ix_nat]
  by_cases hk : k < m
  · rw [if_pos hk, wO_some]
    exact propext ⟨fun q => ⟨hk, q⟩, fun q => q.2⟩
  · rw [if_neg hk, wO_none]
    exact propext ⟨False.elim, fun q => hk q.1⟩
def wSb : O → D → (D → Prop) → Prop
  | .lst l, .int k, Q => wO (ix l.length k) fun j => wO l[j]? Q
  | .dk kvs, i, Q => wO (keyOf i) fun k => wO (look kvs k) Q
  | .dt kvs, i, Q => wO (keysOf i) fun k => wO (look kvs k) Q
  | _, _, _ => False
theorem wSb_l {l : List D} {k : Nat} {Q : D → Prop} : wSb (.lst l) (.int (k : Nat)) Q = wO l[k]? Q := by
  have : wSb (.lst l) (.int (k : Nat)) Q = wO (ix l.length (k : Nat)) fun j => wO l[j]? Q := rfl
  rw [this, wO_ixn]
  by_cases hk : k < l.length
  · exact propext ⟨fun q => q.2, fun q => ⟨hk, q⟩⟩
  · rw [List.getElem?_eq_none (by omega), wO_none]
    exact propext ⟨fun q => q.2, fun q => q.elim⟩
theorem wSb_i {l : List (Key × D)} {k : Int} {Q : D → Prop} : wSb (.dk l) (.int k) Q = wO (look l (.inl k)) Q := by
  show wO (some _) _ = _
  rw [wO_some]
theorem wSb_t {l : List (List Key × D)} {k : D} {Q : D → Prop} : wSb (.dt l) k Q = wO (keysOf k) fun k => wO (look l k) Q := rfl
theorem sb_ref {i : D} {Q : D → Prop} : wO (subD h (.ref n) i) Q = wO h[n]? fun o => wSb o i Q := by
  unfold subD getDk getDt getS getL
  simp only
  rcases h[n]? with _ | o
  · simp only [wO_none]
  · rw [wO_some]
    cases o with
    | lst l =>
      cases i with
      | int k => simp only [wO_bind]; rfl
      | _ => simp only [wO_none, wSb]
    | dk l => simp only [wO_bind]; rfl
    | dt l => simp only [wO_bind]; rfl
def wLn : O → (D → Prop) → Prop
  | .lst l, Q => Q (.int l.length)
  | .dk l, Q => Q (.int l.length)
  | .dt l, Q => Q (.int l.length)
theorem wLn_l {l : List D} {Q : D → Prop} : wLn (.lst l) Q = Q (.int l.length) := rfl
theorem wLn_d {l : List (Key × D)} {Q : D → Prop} : wLn (.dk l) Q = Q (.int l.length) := rfl
theorem wLn_t {l : List (List Key × D)} {Q : D → Prop} : wLn (.dt l) Q = Q (.int l.length) := rfl
theorem len_ref {Q : D → Prop} : wO (biD h .len [.ref n]) Q = wO h[n]? fun o => wLn o Q := by
  simp only [biD, lenD, getS, getL, getDk, getDt]
  rcases h[n]? with _ | o
  · simp only [wO_none]
  · rw [wO_some]
    cases o <;> simp only [wO_some] <;> rfl
end
theorem wO_getD {α : Type} {l : List α} {k : Nat} {d : α} {Q : α → Prop} (h : k < l.length) (q : Q (l.getD k d)) : wO l[k]? Q := by
  rw [List.getElem?_eq_getElem h, wO_some]
  rwa [List.getD_eq_getElem?_getD, List.getElem?_eq_getElem h] at q
theorem wO_getM {α β : Type} {f : β → α} {l : List β} {k : Nat} {d : β} {Q : α → Prop} (h : k < l.length) (q : Q (f (l.getD k d))) : wO (l.map f)[k]? Q := by
  rw [List.getElem?_map, wO_map]
  exact wO_getD h q
end Z
namespace Z
open PySem PySem.Spec PyProof.Rows L2
section
variable {C : Cal} {L : Nat} {tg : Tg} {b : Sms} {e : Ev} {h : Hs} {N : Ev → Hs → Prop} {R : QE}
theorem wFor_unroll {s : List D} {x : D} {l : List D} : wFor C L (s, []) tg b (x :: l) e h N R = wT C tg x e h fun e1 h1 => wSs C L b e1 h1 (fun e2 h2 => wFor C L (s, []) tg b l e2 h2 N R) R := by
  apply propext
  constructor
  · rintro ⟨f, q1, q2⟩
    simp only [loopS] at q1
    rw [chk_pos ok_nil] at q1
    simp only at q1
    cases q3 : evT C tg x e h with
    | none => simp only [q3] at q1; cases q1
    | some p =>
      simp only [q3] at q1
      refine ⟨p, q3, ?_⟩
      cases q4 : evSs C L b p.1 p.2 with
      | none => simp only [q4] at q1; cases q1
      | some g =>
        simp only [q4] at q1
        refine ⟨g, q4, ?_⟩
        cases g with
        | nx e2 h2 => exact ⟨f, q1, q2⟩
        | rt d h2 =>
          cases q1
          exact q2
  · exact wFor_cons ok_nil
theorem wFor_done {s : List D} : wFor C L (s, []) tg b [] e h N R = N e h := by
  unfold wFor
  rw [loopS, wO_chk]
  exact propext ⟨fun q => q.2, fun q => ⟨ok_nil, q⟩⟩
theorem enumL_nil {k : Int} : enumL k [] = [] := rfl
theorem enumL_cons {k : Int} {x : D} {r : List D} : enumL k (x :: r) = .tup [.int k, x] :: enumL (k + 1) r := rfl
theorem getS_t {l : List D} : getS h (.tup l) = some l := rfl
theorem getS_l {l : List D} : getS h (.lst l) = some l := rfl
theorem i01 : (0 : Int) + 1 = 1 := rfl
theorem i12 : (1 : Int) + 1 = 2 := rfl
theorem i23 : (2 : Int) + 1 = 3 := rfl
theorem i34 : (3 : Int) + 1 = 4 := rfl
theorem plain_nil {n : Nat} : Z.plain .nil n = true := by cases n <;> rfl
theorem plain_cons {a : Ex} {r : Exs} {n : Nat} : Z.plain (.cons false a r) (n + 1) = Z.plain r n := by cases r <;> rfl
theorem wComp_mono {elt : Ex} {ifs : Exs} {own : List Nat} {src : Src} {Q Q' : List D → Hs → Prop} (x : wComp C elt tg ifs own src e h Q) (hq : ∀ l h, Q l h → Q' l h) : wComp C elt tg ifs own src e h Q' := wO_mono x fun f q => hq _ _ q
theorem wDc_mono {ke ve : Ex} {ifs : Exs} {own : List Nat} {src : Src} {Q Q' : List D → Hs → Prop} (x : wDc C ke ve tg ifs own src e h Q) (hq : ∀ l h, Q l h → Q' l h) : wDc C ke ve tg ifs own src e h Q' := wO_mono x fun f q => hq _ _ q
def starry : Exs → Bool
  | .nil => false
  | .cons s _ r => s || starry r
theorem starry_t {a : Ex} {r : Exs} : starry (.cons true a r) = true := by cases r <;> rfl
theorem starry_f {a : Ex} {r : Exs} : starry (.cons false a r) = starry r := by cases r <;> rfl
theorem wE_lstT {es : Exs} {Q : QE} (_h : starry es = true) : wE C (.lst es) e h Q = wA C es e h fun ds h' => ds.length ≤ sizeLine ∧ Q (.lst ds) h' := wE_lst
theorem wE_tupT {es : Exs} {Q : QE} (_h : starry es = true) : wE C (.tup es) e h Q = wA C es e h fun ds h' => ds.length ≤ sizeLine ∧ Q (.tup ds) h' := wE_tup
end
end Z

set_option Elab.async false
set_option linter.all false
set_option maxRecDepth 100000
set_option maxHeartbeats 8000000
/-! X4: equal and not, by parts -/
namespace Z
open PySem PySem.Spec PyProof.Rows L2
/-- plain data; k its depth -/
def DtP (k : Nat) (d : D) (p : PyData) : Prop := (∀ hs m, py hs (m + k) d = some p) ∧ p.canLay0 = true
def DtL (k : Nat) (l : List D) (ps : List PyData) : Prop := (∀ hs m, l.mapM (py hs (m + k)) = some ps) ∧ PyData.canLayAll0 ps = true
def Dt (k : Nat) (d : D) : Prop := ∃ p, DtP k d p
def EqT (k : Nat) (d d' : D) (b : Bool) : Prop := ∃ p p', DtP k d p ∧ DtP k d' p' ∧ PyData.eqv p p' = b
def EqL (k : Nat) (l l' : List D) (b : Bool) : Prop := ∃ p p', DtL k l p ∧ DtL k l' p' ∧ PyData.eqvAll p p' = b
section
variable {k : Nat}
theorem dt_non : DtP k .non .none := ⟨fun hs m => by cases m + k <;> simp only [py], rfl⟩
theorem dt_bl {b : Bool} : DtP k (.bl b) (.bool b) := ⟨fun hs m => by cases m + k <;> simp only [py], rfl⟩
theorem dt_int {i : Int} : DtP k (.int i) (.int i) := ⟨fun hs m => py_int, rfl⟩
theorem dt_str {s : Str} (h : (PyData.str s).canLay0 = true) : DtP k (.str s) (.str s) := ⟨fun hs m => by cases m + k <;> simp only [py], h⟩
theorem dt_tup {l : List D} {ps : List PyData} (h : DtL k l ps) : DtP (k + 1) (.tup l) (.tuple ps) := by
  refine ⟨fun hs m => ?_, h.2⟩
  show py hs ((m + k) + 1) (.tup l) = _
  simp only [py, h.1, Option.map_some]
theorem dt_lst {l : List D} {ps : List PyData} (h : DtL k l ps) : DtP (k + 1) (.lst l) (.list ps) := by
  refine ⟨fun hs m => ?_, h.2⟩
  show py hs ((m + k) + 1) (.lst l) = _
  simp only [py, h.1, Option.map_some]
theorem dtL_nil : DtL k [] [] := ⟨fun hs m => rfl, rfl⟩
theorem dtL_cons {x : D} {l : List D} {p : PyData} {ps : List PyData} (h1 : DtP k x p) (h2 : DtL k l ps) : DtL k (x :: l) (p :: ps) :=
  ⟨fun hs m => by simp only [List.mapM_cons, h1.1, h2.1, Option.bind_eq_bind, Option.bind_some, Option.pure_def], by simp only [PyData.canLayAll0, h1.2, h2.2, Bool.and_self]⟩
theorem dtL_map {α : Type} {f : α → D} {g : α → PyData} : ∀ {l : List α}, (∀ a ∈ l, DtP k (f a) (g a)) → DtL k (l.map f) (l.map g)
  | [], _ => dtL_nil
  | a :: r, h => dtL_cons (h a List.mem_cons_self) (dtL_map fun b hb => h b (List.mem_cons_of_mem _ hb))
theorem DtP.up {k k' : Nat} {d : D} {p : PyData} (h : DtP k d p) (hk : k ≤ k') : DtP k' d p := ⟨fun hs m => by
  have := h.1 hs (m + (k' - k))
  rwa [Nat.add_assoc, Nat.sub_add_cancel hk] at this, h.2⟩
theorem dt_all : ∀ {l : List D}, (∀ x ∈ l, Dt k x) → ∃ ps, DtL k l ps
  | [], _ => ⟨[], dtL_nil⟩
  | x :: r, h => by
    obtain ⟨p, hp⟩ := h x List.mem_cons_self
    obtain ⟨ps, hps⟩ := dt_all fun y hy => h y (List.mem_cons_of_mem _ hy)
    exact ⟨p :: ps, dtL_cons hp hps⟩
theorem eq_non : EqT k .non .non true := ⟨_, _, dt_non, dt_non, rfl⟩
theorem eq_int {i j : Int} : EqT k (.int i) (.int j) (decide (i = j)) := ⟨_, _, dt_int, dt_int, eqv_int⟩
theorem eq_nat {i j : Nat} : EqT k (eN i) (eN j) (decide (i = j)) := by
  have := eq_int (k := k) (i := i) (j := j)
  have e : decide ((i : Int) = (j : Int)) = decide (i = j) := by
    by_cases h : i = j
    · subst h; simp
    · have : ¬ (i : Int) = (j : Int) := by omega
      rw [decide_eq_false h, decide_eq_false this]
  rwa [e] at this
theorem eq_tup {l l' : List D} {b : Bool} (h : EqL k l l' b) : EqT (k + 1) (.tup l) (.tup l') b := by
  obtain ⟨p, p', h1, h2, h3⟩ := h
  exact ⟨_, _, dt_tup h1, dt_tup h2, h3⟩
theorem eq_lst {l l' : List D} {b : Bool} (h : EqL k l l' b) : EqT (k + 1) (.lst l) (.lst l') b := by
  obtain ⟨p, p', h1, h2, h3⟩ := h
  exact ⟨_, _, dt_lst h1, dt_lst h2, h3⟩
theorem eqL_nil : EqL k [] [] true := ⟨_, _, dtL_nil, dtL_nil, rfl⟩
theorem eqL_cons {x y : D} {l l' : List D} {b c : Bool} (h1 : EqT k x y b) (h2 : EqL k l l' c) : EqL k (x :: l) (y :: l') (b && c) := by
  obtain ⟨p, p', a1, a2, a3⟩ := h1
  obtain ⟨q, q', b1, b2, b3⟩ := h2
  exact ⟨_, _, dtL_cons a1 b1, dtL_cons a2 b2, by rw [← a3, ← b3]; rfl⟩
theorem eqL_r0 {l : List D} (h : ∀ x ∈ l, Dt k x) : EqL k l [] l.isEmpty := by
  obtain ⟨ps, h1⟩ := dt_all h
  refine ⟨_, _, h1, dtL_nil, ?_⟩
  cases l with
  | nil =>
    have := h1.1 [] 0
    cases this
    rfl
  | cons x r =>
    cases ps with
    | nil =>
      have := h1.1 [] 0
      simp only [List.mapM_cons, Option.bind_eq_bind, Option.pure_def] at this
      obtain ⟨_, _, this⟩ := Option.bind_eq_some_iff.mp this
      obtain ⟨_, _, this⟩ := Option.bind_eq_some_iff.mp this
      cases this
    | cons p ps => rfl
theorem eqL_map {α : Type} [DecidableEq α] {f : α → D} : ∀ {l l' : List α}, (∀ a ∈ l, Dt k (f a)) → (∀ a ∈ l', Dt k (f a)) → (∀ a ∈ l, ∀ b ∈ l', EqT k (f a) (f b) (decide (a = b))) → EqL k (l.map f) (l'.map f) (decide (l = l'))
  | [], [], _, _, _ => eqL_nil
  | a :: r, [], h, _, _ => by
    have := eqL_r0 (k := k) (l := (a :: r).map f) fun x hx => by
      obtain ⟨b, hb, rfl⟩ := List.mem_map.mp hx
      exact h b hb
    exact this
  | [], a :: r, _, h, _ => by
    obtain ⟨ps, h1⟩ := dt_all (k := k) (l := (a :: r).map f) fun x hx => by
      obtain ⟨b, hb, rfl⟩ := List.mem_map.mp hx
      exact h b hb
    refine ⟨_, _, dtL_nil, h1, ?_⟩
    cases ps with
    | nil =>
      have := h1.1 [] 0
      simp only [List.map_cons, List.mapM_cons, Option.bind_eq_bind, Option.pure_def] at this
      obtain ⟨_, _, this⟩ := Option.bind_eq_some_iff.mp this
      obtain ⟨_, _, this⟩ := Option.bind_eq_some_iff.mp this
      cases this
    | cons p ps => rfl
  | a :: r, b :: r', h1, h2, h => by
    have := eqL_cons (h a List.mem_cons_self b List.mem_cons_self) (eqL_map (fun x hx => h1 x (List.mem_cons_of_mem _ hx)) (fun x hx => h2 x (List.mem_cons_of_mem _ hx)) fun x hx y hy => h x (List.mem_cons_of_mem _ hx) y (List.mem_cons_of_mem _ hy))
    have e : (decide (a = b) && decide (r = r')) = decide (a :: r = b :: r') := by
      rw [← Bool.decide_and]
      congr 1
      rw [List.cons.injEq]
    rwa [e] at this
theorem eqv_str {a b : Str} : PyData.eqv (.str a) (.str b) = decide (a = b) := by
  simp only [PyData.eqv]
  by_cases e : a = b <;> simp [e]
theorem c_eqT {h : Hs} {d d' : D} {b : Bool} (q : EqT k d d' b) (hk : k ≤ 60) : cmpD h .eq d d' = some b := by
  obtain ⟨p, p', a1, a2, a3⟩ := q
  have e1 := a1.1 h (60 - k)
  have e2 := a2.1 h (60 - k)
  rw [Nat.sub_add_cancel hk] at e1 e2
  have main : strs2 d d' = none → cmpD h .eq d d' = some b := fun hn => by
    simp only [cmpD, hn, e1, e2]
    rw [chk_pos ⟨a1.2, a2.2⟩, a3]
  cases d with
  | str s =>
    cases d' with
    | str s' =>
      simp only [py, Option.some.injEq] at e1 e2
      subst e1 e2
      rw [c_eqS, ← a3, eqv_str]
    | _ => exact main rfl
  | _ => exact main rfl
theorem c_neT {h : Hs} {d d' : D} {b : Bool} (q : EqT k d d' b) (hk : k ≤ 60) : cmpD h .ne d d' = some (!b) := by
  obtain ⟨p, p', a1, a2, a3⟩ := q
  have e1 := a1.1 h (60 - k)
  have e2 := a2.1 h (60 - k)
  rw [Nat.sub_add_cancel hk] at e1 e2
  have main : strs2 d d' = none → cmpD h .ne d d' = some (!b) := fun hn => by
    simp only [cmpD, hn, e1, e2]
    rw [chk_pos ⟨a1.2, a2.2⟩, a3]
  cases d with
  | str s =>
    cases d' with
    | str s' =>
      simp only [py, Option.some.injEq] at e1 e2
      subst e1 e2
      rw [c_neS, ← a3, eqv_str]
    | _ => exact main rfl
  | _ => exact main rfl
theorem c_bl_is {h : Hs} {a b : Bool} : cmpD h .is (.bl a) (.bl b) = some (decide (a = b)) := by simp only [cmpD]
theorem c_bl_isnt {h : Hs} {a b : Bool} : cmpD h .isnt (.bl a) (.bl b) = some (!decide (a = b)) := by simp only [cmpD]
theorem any_eq {α : Type} {f : α → D} : ∀ {l : List α} {ps : List PyData} {x : D} {q : PyData} (g : α → Bool), DtL k (l.map f) ps → DtP k x q → (∀ d ∈ l, EqT k (f d) x (g d)) → (ps.any fun z => PyData.eqv z q) = l.any g
  | [], ps, x, q, g, h, _, _ => by
    have := h.1 [] 0
    cases this
    rfl
  | d :: r, ps, x, q, g, h, hx, hg => by
    obtain ⟨p, p', a1, a2, a3⟩ := hg d List.mem_cons_self
    have := h.1 [] 0
    simp only [List.map_cons, List.mapM_cons, Option.bind_eq_bind, Option.pure_def] at this
    obtain ⟨p0, e0, this⟩ := Option.bind_eq_some_iff.mp this
    obtain ⟨ps0, e1, this⟩ := Option.bind_eq_some_iff.mp this
    cases this
    have ep : p = p0 := by
      have := a1.1 [] 0
      rw [e0] at this
      exact (Option.some.inj this).symm
    have eq : p' = q := by
      have h1 := a2.1 [] 0
      have h2 := hx.1 [] 0
      rw [h2] at h1
      exact (Option.some.inj h1).symm
    subst ep eq
    have hr : DtL k (r.map f) ps0 := by
      refine ⟨fun hs m => ?_, ?_⟩
      · have := h.1 hs m
        simp only [List.map_cons, List.mapM_cons, Option.bind_eq_bind, Option.pure_def] at this
        obtain ⟨_, _, this⟩ := Option.bind_eq_some_iff.mp this
        obtain ⟨_, e2, this⟩ := Option.bind_eq_some_iff.mp this
        cases this
        exact e2
      · have := h.2
        simp only [PyData.canLayAll0, Bool.and_eq_true] at this
        exact this.2
    rw [List.any_cons, List.any_cons, a3, any_eq g hr hx fun y hy => hg y (List.mem_cons_of_mem _ hy)]
/-- in a list, a tuple -/
theorem c_inT {α : Type} {f : α → D} {h : Hs} {l : List α} {x : D} (g : α → Bool) (hl : ∀ d ∈ l, EqT k (f d) x (g d)) (hx : Dt k x) (hk : k ≤ 59) : cmpD h .isin x (.tup (l.map f)) = some (l.any g) ∧ cmpD h .isin x (.lst (l.map f)) = some (l.any g) ∧ cmpD h .notin x (.tup (l.map f)) = some (!l.any g) ∧ cmpD h .notin x (.lst (l.map f)) = some (!l.any g) := by
  obtain ⟨q, hq⟩ := hx
  obtain ⟨ps, hps⟩ := dt_all (k := k) (l := l.map f) fun d hd => by
    obtain ⟨a, ha, rfl⟩ := List.mem_map.mp hd
    obtain ⟨p, p', a1, _, _⟩ := hl a ha
    exact ⟨p, a1⟩
  have e1 := any_eq g hps hq hl
  have t1 := (dt_tup hps).1 h (59 - k)
  have t2 := (dt_lst hps).1 h (59 - k)
  have t3 := hq.1 h (60 - k)
  have n1 : 59 - k + (k + 1) = 60 := by omega
  have n2 : 60 - k + k = 60 := by omega
  rw [n1] at t1 t2
  rw [n2] at t3
  have c1 : (PyData.tuple ps).canLay0 = true ∧ q.canLay0 = true := ⟨hps.2, hq.2⟩
  have c2 : (PyData.list ps).canLay0 = true ∧ q.canLay0 = true := ⟨hps.2, hq.2⟩
  refine ⟨?_, ?_, ?_, ?_⟩
  · simp only [cmpD, getDk, getDt, getS, t1, t3]
    rw [chk_pos c1, e1]
  · simp only [cmpD, getDk, getDt, getS, getL, t2, t3]
    rw [chk_pos c2, e1]
  · simp only [cmpD, getDk, getDt, getS, t1, t3]
    rw [chk_pos c1, e1]
  · simp only [cmpD, getDk, getDt, getS, getL, t2, t3]
    rw [chk_pos c2, e1]
theorem any_dec {α : Type} [DecidableEq α] (l : List α) (x : α) [Decidable (x ∈ l)] : (l.any fun a => decide (a = x)) = decide (x ∈ l) := by
  rw [Bool.eq_iff_iff, List.any_eq_true, decide_eq_true_eq]
  constructor
  · rintro ⟨a, h1, h2⟩
    rw [decide_eq_true_eq] at h2
    exact h2 ▸ h1
  · exact fun h => ⟨x, h, by simp⟩
theorem c_inM {α : Type} [DecidableEq α] {f : α → D} {h : Hs} {l : List α} {x : α} [Decidable (x ∈ l)] (hl : ∀ d ∈ l, EqT k (f d) (f x) (decide (d = x))) (hx : Dt k (f x)) (hk : k ≤ 59) : cmpD h .isin (f x) (.tup (l.map f)) = some (decide (x ∈ l)) ∧ cmpD h .isin (f x) (.lst (l.map f)) = some (decide (x ∈ l)) ∧ cmpD h .notin (f x) (.tup (l.map f)) = some (!decide (x ∈ l)) ∧ cmpD h .notin (f x) (.lst (l.map f)) = some (!decide (x ∈ l)) := by
  have := c_inT (h := h) (fun d => decide (d = x)) hl hx hk
  rwa [any_dec] at this
theorem dt_ord {o : List Nat} : Dt 1 (eOrd o) := ⟨_, dt_tup (k := 0) (dtL_map (g := fun i : Nat => .int i) fun a _ => dt_int)⟩
theorem eq_ord {o o' : List Nat} : EqT 1 (eOrd o) (eOrd o') (decide (o = o')) := eq_tup (k := 0) (eqL_map (fun a _ => ⟨_, dt_int⟩) (fun a _ => ⟨_, dt_int⟩) fun a _ b _ => eq_nat)
end
theorem x_t0 {h : Hs} {l : List D} : subD h (.tup l) (.int 0) = l[0]? := subD_tup _ _ 0
theorem x_l0 {h : Hs} {l : List D} : subD h (.lst l) (.int 0) = l[0]? := subD_lst _ _ 0
theorem wSb_l0 {l : List D} {Q : D → Prop} : wSb (.lst l) (.int 0) Q = wO l[0]? Q := wSb_l (k := 0)
theorem x_t1 {h : Hs} {l : List D} : subD h (.tup l) (.int 1) = l[1]? := subD_tup _ _ 1
theorem x_l1 {h : Hs} {l : List D} : subD h (.lst l) (.int 1) = l[1]? := subD_lst _ _ 1
theorem wSb_l1 {l : List D} {Q : D → Prop} : wSb (.lst l) (.int 1) Q = wO l[1]? Q := wSb_l (k := 1)
theorem x_t2 {h : Hs} {l : List D} : subD h (.tup l) (.int 2) = l[2]? := subD_tup _ _ 2
theorem x_l2 {h : Hs} {l : List D} : subD h (.lst l) (.int 2) = l[2]? := subD_lst _ _ 2
theorem wSb_l2 {l : List D} {Q : D → Prop} : wSb (.lst l) (.int 2) Q = wO l[2]? Q := wSb_l (k := 2)
theorem x_t3 {h : Hs} {l : List D} : subD h (.tup l) (.int 3) = l[3]? := subD_tup _ _ 3
theorem x_l3 {h : Hs} {l : List D} : subD h (.lst l) (.int 3) = l[3]? := subD_lst _ _ 3
theorem wSb_l3 {l : List D} {Q : D → Prop} : wSb (.lst l) (.int 3) Q = wO l[3]? Q := wSb_l (k := 3)
theorem x_t4 {h : Hs} {l : List D} : subD h (.tup l) (.int 4) = l[4]? := subD_tup _ _ 4
theorem x_l4 {h : Hs} {l : List D} : subD h (.lst l) (.int 4) = l[4]? := subD_lst _ _ 4
theorem wSb_l4 {l : List D} {Q : D → Prop} : wSb (.lst l) (.int 4) Q = wO l[4]? Q := wSb_l (k := 4)
theorem x_t5 {h : Hs} {l : List D} : subD h (.tup l) (.int 5) = l[5]? := subD_tup _ _ 5
theorem x_l5 {h : Hs} {l : List D} : subD h (.lst l) (.int 5) = l[5]? := subD_lst _ _ 5
theorem wSb_l5 {l : List D} {Q : D → Prop} : wSb (.lst l) (.int 5) Q = wO l[5]? Q := wSb_l (k := 5)
theorem s_lT0 {h : Hs} {l : List D} : slcD h .lo (.tup l) [.int 0] = some (.tup (l.drop 0)) := s_loT (k := 0)
theorem s_lL0 {h : Hs} {l : List D} : slcD h .lo (.lst l) [.int 0] = some (.lst (l.drop 0)) := s_loL (k := 0)
theorem s_hT0 {h : Hs} {l : List D} : slcD h .hi (.tup l) [.int 0] = some (.tup (l.take 0)) := s_hiT (k := 0)
theorem s_hL0 {h : Hs} {l : List D} : slcD h .hi (.lst l) [.int 0] = some (.lst (l.take 0)) := s_hiL (k := 0)
theorem s_lT1 {h : Hs} {l : List D} : slcD h .lo (.tup l) [.int 1] = some (.tup (l.drop 1)) := s_loT (k := 1)
theorem s_lL1 {h : Hs} {l : List D} : slcD h .lo (.lst l) [.int 1] = some (.lst (l.drop 1)) := s_loL (k := 1)
theorem s_hT1 {h : Hs} {l : List D} : slcD h .hi (.tup l) [.int 1] = some (.tup (l.take 1)) := s_hiT (k := 1)
theorem s_hL1 {h : Hs} {l : List D} : slcD h .hi (.lst l) [.int 1] = some (.lst (l.take 1)) := s_hiL (k := 1)
theorem s_lT2 {h : Hs} {l : List D} : slcD h .lo (.tup l) [.int 2] = some (.tup (l.drop 2)) := s_loT (k := 2)
theorem s_lL2 {h : Hs} {l : List D} : slcD h .lo (.lst l) [.int 2] = some (.lst (l.drop 2)) := s_loL (k := 2)
theorem s_hT2 {h : Hs} {l : List D} : slcD h .hi (.tup l) [.int 2] = some (.tup (l.take 2)) := s_hiT (k := 2)
theorem s_hL2 {h : Hs} {l : List D} : slcD h .hi (.lst l) [.int 2] = some (.lst (l.take 2)) := s_hiL (k := 2)
theorem u_repr {d : D} (h : Shw d) : ∀ hs, biD hs .repr [d] = some (.str (rep d)) := fun _ => u_rep h
theorem u_repB {b : Bool} {hs : Hs} : biD hs .repr [.bl b] = some (.str (rep (.bl b))) := u_rep (shw_fit (fit_bl (k := 0)) (by omega) (by omega))
theorem u_repN {hs : Hs} : biD hs .repr [.non] = some (.str (rep .non)) := u_rep (shw_fit (fit_non (k := 0)) (by omega) (by omega))
theorem shw_int {i : Int} (h : i.natAbs < 10 ^ 12) : Shw (.int i) := shw_fit (fit_int (k := 0) h) (by omega) (by omega)
theorem wIte_pand {p a : Bool} {h : Hs} {Q : QE} : wIte p (fun Q => Q (.bl a) h) (fun Q => Q (.bl false) h) Q = Q (.bl (p && a)) h := by cases p <;> rfl
theorem wIte_por {p a : Bool} {h : Hs} {Q : QE} : wIte p (fun Q => Q (.bl true) h) (fun Q => Q (.bl a) h) Q = Q (.bl (p || a)) h := by cases p <;> rfl
theorem wIte_int {p : Bool} {a b : Int} {h : Hs} {Q : QE} : wIte p (fun Q => Q (.int a) h) (fun Q => Q (.int b) h) Q = Q (.int (if p = true then a else b)) h := by cases p <;> rfl
end Z

set_option Elab.async false
set_option linter.all false
set_option maxRecDepth 100000
set_option maxHeartbeats 8000000
/-! R1: rooms with an order each -/
namespace QR
open PySem PySem.Spec PyProof.Rows L2 Z
abbrev Cl1 := List D → Hs → Option (D × Hs)
/-- hours at which an order's jobs end; c: when each may come -/
def endsL (len c : Nat → Int) : Int → List Nat → List (Nat × Int)
  | _, [] => []
  | g, k :: r => (k, max g (c k) + len k) :: endsL len c (max g (c k) + len k) r
def lastG (len c : Nat → Int) : Int → List Nat → Int
  | g, [] => g
  | g, k :: r => lastG len c (max g (c k) + len k) r
theorem endsL_app (len c : Nat → Int) : ∀ (a : List Nat) (g : Int) (b : List Nat), endsL len c g (a ++ b) = endsL len c g a ++ endsL len c (lastG len c g a) b
  | [], g, b => rfl
  | k :: a, g, b => by
    simp only [List.cons_append, endsL, lastG]
    rw [endsL_app len c a]
theorem lastG_app (len c : Nat → Int) : ∀ (a : List Nat) (g : Int) (x : Nat), lastG len c g (a ++ [x]) = max (lastG len c g a) (c x) + len x
  | [], g, b => rfl
  | k :: a, g, b => by
    simp only [List.cons_append, lastG]
    exact lastG_app len c a _ b
theorem endsL_fst (len c : Nat → Int) : ∀ (a : List Nat) (g : Int), (endsL len c g a).map (·.1) = a
  | [], _ => rfl
  | k :: a, g => by simp only [endsL, List.map_cons, endsL_fst len c a]
theorem endsL_len (len c : Nat → Int) (a : List Nat) (g : Int) : (endsL len c g a).length = a.length := by
  have := congrArg List.length (endsL_fst len c a g)
  rwa [List.length_map] at this
def getK (l : List (Nat × Int)) (k : Nat) : Int := ((l.find? fun p => p.1 == k).map (·.2)).getD 0
def endF (len c : Nat → Int) (o : List Nat) (k : Nat) : Int := getK (endsL len c 0 o) k
theorem getK_mem : ∀ {l : List (Nat × Int)} {k : Nat}, k ∈ l.map (·.1) → (k, getK l k) ∈ l
  | (k', v) :: r, k, h => by
    unfold getK
    rw [List.find?_cons]
    by_cases e : k' = k
    · subst e
      simp
    · have : (k' == k) = false := by simpa using e
      simp only [this]
      rcases List.mem_cons.mp h with h | h
      · exact absurd h.symm e
      · exact List.mem_cons_of_mem _ (getK_mem h)
theorem look_endF {len c : Nat → Int} {o : List Nat} (hn : o.Nodup) {k : Nat} (hk : k ∈ o) : look (kv (endsL len c 0 o)) (.inl (k : Int)) = some (.int (endF len c o k)) :=
  look_kv (by rw [endsL_fst]; exact hn) (getK_mem (by rw [endsL_fst]; exact hk))
def ln (js : List Job) (t : Nat) (k : Nat) : Int := fldJ t (jAt js k)
def zc : Nat → Int := fun _ => 0
def e1L (js : List Job) (a : List Nat) : List (Nat × Int) := endsL (ln js 0) zc 0 a
def e1F (js : List Job) (a : List Nat) : Nat → Int := endF (ln js 0) zc a
def e2L (js : List Job) (a b : List Nat) : List (Nat × Int) := endsL (ln js 1) (e1F js a) 0 b
def e2F (js : List Job) (a b : List Nat) : Nat → Int := endF (ln js 1) (e1F js a) b
def e3L (js : List Job) (a b c : List Nat) : List (Nat × Int) := endsL (ln js 2) (e2F js a b) 0 c
/-- the span of three orders -/
def spO (js : List Job) (a b c : List Nat) : Int := mxI 0 ((e3L js a b c).map (·.2))
theorem endsL_zE {len c : Nat → Int} : ∀ (o : List Nat) (g : Int), (endsL len c g o).map (·.2) = zE len g (o.map fun k => (k, c k))
  | [], _ => rfl
  | k :: r, g => by simp only [endsL, List.map_cons, zE, endsL_zE r]
theorem zip_endF {len c : Nat → Int} {o : List Nat} (hn : o.Nodup) : (o.map fun k => (k, endF len c o k)) = o.zip ((endsL len c 0 o).map (·.2)) := by
  have h1 : o.zip ((endsL len c 0 o).map (·.2)) = endsL len c 0 o := by
    conv => lhs; lhs; rw [← endsL_fst len c o 0]
    exact zip_self _
  rw [h1]
  have key : ∀ l : List (Nat × Int), (l.map (·.1)).Nodup → ∀ p ∈ l, getK l p.1 = p.2 := by
    intro l hl p hp
    have hm := getK_mem (l := l) (k := p.1) (List.mem_map.mpr ⟨p, hp, rfl⟩)
    clear h1 hn
    induction l with
    | nil => cases hp
    | cons q r ih =>
      have hl' := List.nodup_cons.mp hl
      have e1 : getK (q :: r) p.1 = if q.1 = p.1 then q.2 else getK r p.1 := by
        unfold getK
        rw [List.find?_cons]
        by_cases e : q.1 = p.1
        · simp [e]
        · have : (q.1 == p.1) = false := by simpa using e
          simp only [this, if_neg e]
      rw [e1]
      by_cases e : q.1 = p.1
      · rw [if_pos e]
        rcases List.mem_cons.mp hp with rfl | hp
        · rfl
        · exact absurd (List.mem_map.mpr ⟨p, hp, e.symm⟩) hl'.1
      · rw [if_neg e]
        rcases List.mem_cons.mp hp with rfl | hp
        · exact absurd rfl e
        · exact ih hl'.2 hp (getK_mem (List.mem_map.mpr ⟨p, hp, rfl⟩))
  have hf := endsL_fst len c o 0
  have : o.map (fun k => (k, endF len c o k)) = ((endsL len c 0 o).map (·.1)).map fun k => (k, endF len c o k) := by rw [hf]
  rw [this, List.map_map]
  conv => rhs; rw [← List.map_id (endsL len c 0 o)]
  apply List.map_congr_left
  intro p hp
  show (p.1, getK (endsL len c 0 o) p.1) = p
  rw [key _ (by rw [hf]; exact hn) p hp]
theorem spO_S3 (js : List Job) {o : List Nat} (hn : o.Nodup) (hk : ∀ k ∈ o, 0 ≤ (jAt js k).1 ∧ 0 ≤ (jAt js k).2.2) : spO js o o o = S3 0 0 0 (sel js o) := by
  unfold spO e3L
  rw [endsL_zE]
  unfold e2F
  rw [zip_endF hn, endsL_zE]
  unfold e1F
  rw [zip_endF hn, endsL_zE]
  have h0 : (o.map fun k => (k, zc k)) = o.zip (zeros o) := by
    unfold zeros
    have := zip_maps id (fun _ => (0 : Int)) o
    rw [List.map_id] at this
    exact this.symm
  rw [h0]
  exact S3_zE js o 0 0 0 (Int.le_refl _) hk
/-! ### the defs -/
def b_ends_in_room : Sms := (.cons (.par [4, 5] (.cons false (.al (.dct .nil)) (.cons false (.lint 0) .nil))) (.cons (.forr (.nm 3) (.seq (.nm 1)) (.cons (.asg (.nm 5) (.bin .add (.bi .max2 (.cons false (.nm 5) (.cons false (.sub (.nm 2) (.nm 3)) .nil))) (.sub (.nm 0) (.nm 3)))) (.cons (.asg (.sub (.nm 4) (.nm 3)) (.nm 5)) .nil))) (.cons (.ret (.nm 4)) .nil)))
def F_ends_in_room : Fn := ⟨3, 6, false, b_ends_in_room⟩
def b_ends_by_rooms (c0 : Nat) : Sms := (.cons (.par [2, 3] (.cons false (.al (.lst .nil)) (.cons false (.dcomp (.nm 6) (.lint 0) (.nm 6) (.rng (.cons false (.bi .len (.cons false (.nm 0) .nil)) .nil)) .nil [6]) .nil))) (.cons (.forr (.tup (.cons (.nm 4) (.cons (.nm 5) .nil))) (.enum (.nm 1)) (.cons (.asg (.nm 3) (.call c0 (.cons false (.comp (.sub (.nm 6) (.nm 4)) (.nm 6) (.seq (.nm 0)) .nil [6]) (.cons false (.nm 5) (.cons false (.nm 3) .nil))))) (.cons (.expr (.mth .append (.nm 2) (.cons false (.nm 3) .nil))) .nil))) (.cons (.ret (.nm 2)) .nil)))
def F_ends_by_rooms (c0 : Nat) : Fn := ⟨2, 7, false, b_ends_by_rooms c0⟩
def b_rooms_span (c0 : Nat) : Sms := (.cons (.ret (.bi .max1 (.cons false (.bin .add (.lst (.cons false (.lint 0) .nil)) (.bi .vals (.cons false (.sub (.call c0 (.cons false (.nm 0) (.cons false (.nm 1) .nil))) (.lint 2)) .nil))) .nil))) .nil)
def F_rooms_span (c0 : Nat) : Fn := ⟨2, 2, false, b_rooms_span c0⟩
def b_room_span (c0 : Nat) : Sms := (.cons (.ret (.call c0 (.cons false (.nm 0) (.cons false (.tup (.cons false (.nm 1) (.cons false (.nm 1) (.cons false (.nm 1) .nil)))) .nil)))) .nil)
def F_room_span (c0 : Nat) : Fn := ⟨2, 2, false, b_room_span c0⟩
def Sp_ends_in_room (P : Cl1) : Prop := ∀ (h : Hs) (lens : List Int) (c : Nat → Int) (o : List Nat) (come : List (Key × D)), (∀ k ∈ o, k < lens.length ∧ look come (.inl (k : Int)) = some (.int (c k))) → (∀ p ∈ come, Low h.length p.2) → o.Nodup → o.length ≤ 1000 → Cl h →
  P [.lst (lens.map .int), eOrd o, .dk come] h = some (.dk (kv (endsL (fun k => lens.getD k 0) c 0 o)), h)
section
variable {C : Cal} {L : Nat}
theorem kv_len (l : List (Nat × Int)) : (kv l).length = l.length := by unfold kv; rw [List.length_map]
theorem fits_of {n : Nat} (h : n ≤ 1000000) : n ≤ sizeLine := by
  have := sizeLine_eq
  omega
theorem fits_lt {n : Nat} (h : n ≤ 1000000) : n < sizeLine := by
  have := sizeLine_eq
  omega
theorem ok_ends_in_room (hL : 100 < L) : Sp_ends_in_room (callD C L F_ends_in_room) := by
  intro h lens c o come hw hlow hn hl hc
  refine call_pure rfl rfl hc ?_
  simp only [F_ends_in_room, b_ends_in_room, eOrd, ↓wE_nm, ↓wV_0, ↓wV_s, ↓wE_non, ↓wE_lbl, ↓wE_int, ↓wE_str, ↓wA_nil, ↓wA_cons, ↓wA_star, ↓wE_bin, ↓wE_neg, ↓wIn_i, ↓wE_nt, ↓wBl_b, ↓wE_and, ↓wE_or, ↓wB_one, ↓wB_and, ↓wB_or, ↓wIte_t, ↓wIte_f, ↓wE_cmp, ↓wE_cmp2, ↓wE_ife, ↓wE_call, ↓wE_bi, ↓wE_mth, ↓wE_sub, ↓wE_slc, ↓wE_comp, ↓wE_dct, ↓wE_dnewt, ↓wE_al, ↓wAl_lst, ↓wAl_dk, ↓wAl_dt, ↓wT_nm, ↓wX_0, ↓wX_s, ↓wT_tup, ↓wTs_nil, ↓wTs_cons, ↓wT_sub, ↓wI_seq, ↓wSeq_tup, ↓wSeq_lst, ↓wSeq_ref, ↓wSeq_scr, ↓wI_rng, ↓wRng_1, ↓wRng_2, ↓wI_enum, ↓wEnum_tup, ↓wEnum_lst, ↓wEnum_ref, ↓wI_zip, ↓wZip_tup, ↓wZip_lst, ↓wSs_nil, ↓wSs_cons, ↓wS_asg, ↓wS_par, ↓wP_nil, ↓wP_cons, ↓wS_expr, ↓wS_ret, ↓wS_retN, ↓wS_iff, ↓wIs_t, ↓wIs_f, ↓wS_for, ↓wS_whl, ↓wO_some, ↓wO_none, ↓wO_map, ↓wO_bind, ↓wO_chk, ↓wW_nil, ↓wW_cons, ↓b_addLR, ↓b_addRL, ↓m_append, ↓m_extend, ↓m_pop, ↓st_ref, ↓sb_ref, ↓len_ref, ↓wE_dcomp, ↓wSt_l, ↓wSt_i, ↓wSt_s, ↓wSt_t, ↓wSb_l, ↓wSb_i, ↓wSb_t, ↓wLn_l, ↓wLn_d, ↓wLn_t, ↓wO_ixn, wE_tupP, wE_lstP, plain_nil, plain_cons, wE_lstT, wE_tupT, starry_t, starry_f, decide_true, decide_false, Bool.not_false, Bool.not_true, Bool.true_and, Bool.and_true, Bool.false_and, Bool.and_false, Bool.or_false, Bool.false_or, Bool.or_true, Bool.true_or, Bool.or_self, wO_some, b_add, b_sub, b_mul, b_fdiv, b_mod, b_addT, b_addL, b_mulL, c_lt, c_le, c_gt, c_ge, c_eq, c_ne, c_eqS, c_neS, c_is_int, c_is_non, c_is_tup, c_isnt_int, c_isnt_non, c_isnt_tup, u_lenL, u_lenT, u_abs, u_int, u_intB, u_max2, u_min2, is_map, is_int, is_nil, is_cons, is_app, bs_map, u_sum, u_all, u_any, u_max1, u_min1, u_listT, u_listL, u_listR, u_tupL, u_tupT, u_tupR, u_vals, u_rng1, x_tup, x_lst, x_tupN, x_lstN, x_lstE, x_tupE, x_dkI, x_dkS, wIte_pand, wIte_por, wIte_int, u_repB, u_repN, x_t0, x_l0, wSb_l0, x_t1, x_l1, wSb_l1, x_t2, x_l2, wSb_l2, x_t3, x_l3, wSb_l3, x_t4, x_l4, wSb_l4, x_t5, x_l5, wSb_l5, s_lT0, s_lL0, s_hT0, s_hL0, s_lT1, s_lL1, s_hT1, s_hL1, s_lT2, s_lL2, s_hT2, s_hL2, s_loT, s_loL, s_hiT, s_hiL, s_lohiT, s_lohiL, s_revT, s_revL, getS_t, getS_l, getL_ref, getDk_ref, isL_l, isDk_d, ap_0, ap_k, aps_0, aps_k, mok_append, mok_extend, mok_pop, mok_popat, Option.map_some, Option.map_none, Option.bind_some, Option.isSome_some, List.cons_append, List.nil_append, List.append_nil, List.length_map, List.length_append, List.length_cons, List.length_nil, List.set_cons_zero, List.set_cons_succ, List.getElem?_cons_zero, List.getElem?_cons_succ, Int.toNat_natCast, true_and, and_true, List.append_assoc, Nat.zero_add, Nat.reduceAdd, List.map_cons, List.map_nil, List.replicate, pairsD]
  refine ⟨by omega, wFor_inv (fun done e h' => ∃ o3, e = [some (.lst (lens.map .int)), some (eOrd o), some (.dk come), o3, some (.ref h.length), some (.int (lastG (fun k => lens.getD k 0) c 0 done))] ∧ h' = h ++ [.dk (kv (endsL (fun k => lens.getD k 0) c 0 done))]) ⟨_, rfl, rfl⟩ ?_ ?_⟩
  · rintro done x rest e h' hx ⟨o3, rfl, rfl⟩
    obtain ⟨w1, w2⟩ := hw x (by rw [hx]; simp)
    have hd : x ∉ done := by
      rw [hx, List.nodup_append] at hn
      exact fun z => hn.2.2 x z x List.mem_cons_self rfl
    have hdl : done.length ≤ 1000 := by rw [hx, List.length_append] at hl; omega
    simp only [↓wE_nm, ↓wV_0, ↓wV_s, ↓wE_non, ↓wE_lbl, ↓wE_int, ↓wE_str, ↓wA_nil, ↓wA_cons, ↓wA_star, ↓wE_bin, ↓wE_neg, ↓wIn_i, ↓wE_nt, ↓wBl_b, ↓wE_and, ↓wE_or, ↓wB_one, ↓wB_and, ↓wB_or, ↓wIte_t, ↓wIte_f, ↓wE_cmp, ↓wE_cmp2, ↓wE_ife, ↓wE_call, ↓wE_bi, ↓wE_mth, ↓wE_sub, ↓wE_slc, ↓wE_comp, ↓wE_dct, ↓wE_dnewt, ↓wE_al, ↓wAl_lst, ↓wAl_dk, ↓wAl_dt, ↓wT_nm, ↓wX_0, ↓wX_s, ↓wT_tup, ↓wTs_nil, ↓wTs_cons, ↓wT_sub, ↓wI_seq, ↓wSeq_tup, ↓wSeq_lst, ↓wSeq_ref, ↓wSeq_scr, ↓wI_rng, ↓wRng_1, ↓wRng_2, ↓wI_enum, ↓wEnum_tup, ↓wEnum_lst, ↓wEnum_ref, ↓wI_zip, ↓wZip_tup, ↓wZip_lst, ↓wSs_nil, ↓wSs_cons, ↓wS_asg, ↓wS_par, ↓wP_nil, ↓wP_cons, ↓wS_expr, ↓wS_ret, ↓wS_retN, ↓wS_iff, ↓wIs_t, ↓wIs_f, ↓wS_for, ↓wS_whl, ↓wO_some, ↓wO_none, ↓wO_map, ↓wO_bind, ↓wO_chk, ↓wW_nil, ↓wW_cons, ↓b_addLR, ↓b_addRL, ↓m_append, ↓m_extend, ↓m_pop, ↓st_ref, ↓sb_ref, ↓len_ref, ↓wE_dcomp, ↓wSt_l, ↓wSt_i, ↓wSt_s, ↓wSt_t, ↓wSb_l, ↓wSb_i, ↓wSb_t, ↓wLn_l, ↓wLn_d, ↓wLn_t, ↓wO_ixn, wE_tupP, wE_lstP, plain_nil, plain_cons, wE_lstT, wE_tupT, starry_t, starry_f, decide_true, decide_false, Bool.not_false, Bool.not_true, Bool.true_and, Bool.and_true, Bool.false_and, Bool.and_false, Bool.or_false, Bool.false_or, Bool.or_true, Bool.true_or, Bool.or_self, wO_some, b_add, b_sub, b_mul, b_fdiv, b_mod, b_addT, b_addL, b_mulL, c_lt, c_le, c_gt, c_ge, c_eq, c_ne, c_eqS, c_neS, c_is_int, c_is_non, c_is_tup, c_isnt_int, c_isnt_non, c_isnt_tup, u_lenL, u_lenT, u_abs, u_int, u_intB, u_max2, u_min2, is_map, is_int, is_nil, is_cons, is_app, bs_map, u_sum, u_all, u_any, u_max1, u_min1, u_listT, u_listL, u_listR, u_tupL, u_tupT, u_tupR, u_vals, u_rng1, x_tup, x_lst, x_tupN, x_lstN, x_lstE, x_tupE, x_dkI, x_dkS, wIte_pand, wIte_por, wIte_int, u_repB, u_repN, x_t0, x_l0, wSb_l0, x_t1, x_l1, wSb_l1, x_t2, x_l2, wSb_l2, x_t3, x_l3, wSb_l3, x_t4, x_l4, wSb_l4, x_t5, x_l5, wSb_l5, s_lT0, s_lL0, s_hT0, s_hL0, s_lT1, s_lL1, s_hT1, s_hL1, s_lT2, s_lL2, s_hT2, s_hL2, s_loT, s_loL, s_hiT, s_hiL, s_lohiT, s_lohiL, s_revT, s_revL, getS_t, getS_l, getL_ref, getDk_ref, isL_l, isDk_d, ap_0, ap_k, aps_0, aps_k, mok_append, mok_extend, mok_pop, mok_popat, Option.map_some, Option.map_none, Option.bind_some, Option.isSome_some, List.cons_append, List.nil_append, List.append_nil, List.length_map, List.length_append, List.length_cons, List.length_nil, List.set_cons_zero, List.set_cons_succ, List.getElem?_cons_zero, List.getElem?_cons_succ, Int.toNat_natCast, true_and, and_true, List.append_assoc, Nat.zero_add, Nat.reduceAdd, w2, List.getElem?_map, List.getElem?_eq_getElem w1]
    refine ⟨by rw [kv_len, endsL_len]; exact fits_lt (by omega), some (eN x), ?_, ?_⟩
    · rw [lastG_app, List.getD_eq_getElem?_getD, List.getElem?_eq_getElem w1]
      rfl
    · rw [put_kv (by rw [endsL_fst]; exact hd), endsL_app]
      simp only [endsL, List.getD_eq_getElem?_getD, List.getElem?_eq_getElem w1]
      rfl
  · rintro e h' ⟨o3, rfl, rfl⟩
    simp only [↓wE_nm, ↓wV_0, ↓wV_s, ↓wE_non, ↓wE_lbl, ↓wE_int, ↓wE_str, ↓wA_nil, ↓wA_cons, ↓wA_star, ↓wE_bin, ↓wE_neg, ↓wIn_i, ↓wE_nt, ↓wBl_b, ↓wE_and, ↓wE_or, ↓wB_one, ↓wB_and, ↓wB_or, ↓wIte_t, ↓wIte_f, ↓wE_cmp, ↓wE_cmp2, ↓wE_ife, ↓wE_call, ↓wE_bi, ↓wE_mth, ↓wE_sub, ↓wE_slc, ↓wE_comp, ↓wE_dct, ↓wE_dnewt, ↓wE_al, ↓wAl_lst, ↓wAl_dk, ↓wAl_dt, ↓wT_nm, ↓wX_0, ↓wX_s, ↓wT_tup, ↓wTs_nil, ↓wTs_cons, ↓wT_sub, ↓wI_seq, ↓wSeq_tup, ↓wSeq_lst, ↓wSeq_ref, ↓wSeq_scr, ↓wI_rng, ↓wRng_1, ↓wRng_2, ↓wI_enum, ↓wEnum_tup, ↓wEnum_lst, ↓wEnum_ref, ↓wI_zip, ↓wZip_tup, ↓wZip_lst, ↓wSs_nil, ↓wSs_cons, ↓wS_asg, ↓wS_par, ↓wP_nil, ↓wP_cons, ↓wS_expr, ↓wS_ret, ↓wS_retN, ↓wS_iff, ↓wIs_t, ↓wIs_f, ↓wS_for, ↓wS_whl, ↓wO_some, ↓wO_none, ↓wO_map, ↓wO_bind, ↓wO_chk, ↓wW_nil, ↓wW_cons, ↓b_addLR, ↓b_addRL, ↓m_append, ↓m_extend, ↓m_pop, ↓st_ref, ↓sb_ref, ↓len_ref, ↓wE_dcomp, ↓wSt_l, ↓wSt_i, ↓wSt_s, ↓wSt_t, ↓wSb_l, ↓wSb_i, ↓wSb_t, ↓wLn_l, ↓wLn_d, ↓wLn_t, ↓wO_ixn, wE_tupP, wE_lstP, plain_nil, plain_cons, wE_lstT, wE_tupT, starry_t, starry_f, decide_true, decide_false, Bool.not_false, Bool.not_true, Bool.true_and, Bool.and_true, Bool.false_and, Bool.and_false, Bool.or_false, Bool.false_or, Bool.or_true, Bool.true_or, Bool.or_self, wO_some, b_add, b_sub, b_mul, b_fdiv, b_mod, b_addT, b_addL, b_mulL, c_lt, c_le, c_gt, c_ge, c_eq, c_ne, c_eqS, c_neS, c_is_int, c_is_non, c_is_tup, c_isnt_int, c_isnt_non, c_isnt_tup, u_lenL, u_lenT, u_abs, u_int, u_intB, u_max2, u_min2, is_map, is_int, is_nil, is_cons, is_app, bs_map, u_sum, u_all, u_any, u_max1, u_min1, u_listT, u_listL, u_listR, u_tupL, u_tupT, u_tupR, u_vals, u_rng1, x_tup, x_lst, x_tupN, x_lstN, x_lstE, x_tupE, x_dkI, x_dkS, wIte_pand, wIte_por, wIte_int, u_repB, u_repN, x_t0, x_l0, wSb_l0, x_t1, x_l1, wSb_l1, x_t2, x_l2, wSb_l2, x_t3, x_l3, wSb_l3, x_t4, x_l4, wSb_l4, x_t5, x_l5, wSb_l5, s_lT0, s_lL0, s_hT0, s_hL0, s_lT1, s_lL1, s_hT1, s_hL1, s_lT2, s_lL2, s_hT2, s_hL2, s_loT, s_loL, s_hiT, s_hiL, s_lohiT, s_lohiL, s_revT, s_revL, getS_t, getS_l, getL_ref, getDk_ref, isL_l, isDk_d, ap_0, ap_k, aps_0, aps_k, mok_append, mok_extend, mok_pop, mok_popat, Option.map_some, Option.map_none, Option.bind_some, Option.isSome_some, List.cons_append, List.nil_append, List.append_nil, List.length_map, List.length_append, List.length_cons, List.length_nil, List.set_cons_zero, List.set_cons_succ, List.getElem?_cons_zero, List.getElem?_cons_succ, Int.toNat_natCast, true_and, and_true, List.append_assoc, Nat.zero_add, Nat.reduceAdd]
    exact ⟨_, rfl, frz_refD (Nat.le_refl _) ap_0 (low_kv _)⟩
def Sp_ends_by_rooms (P : Cl1) : Prop := ∀ (h : Hs) (js : List Job) (a b c : List Nat), (∀ k ∈ a, k < js.length) → (∀ k ∈ b, k ∈ a) → (∀ k ∈ c, k ∈ b) → a.Nodup → b.Nodup → c.Nodup → js.length ≤ 1000 → Cl h →
  P [eJobs js, .tup [eOrd a, eOrd b, eOrd c]] h = some (.lst [.dk (kv (e1L js a)), .dk (kv (e2L js a b)), .dk (kv (e3L js a b c))], h)
theorem nd_len {o : List Nat} {n : Nat} (hn : o.Nodup) (h : ∀ k ∈ o, k < n) : o.length ≤ n := by
  apply Nat.le_of_not_lt
  intro hlt
  have := (nd_perm o (List.range n) hn (fun k hk => List.mem_range.mpr (h k hk)) (by rw [List.length_range]; omega)).length_eq
  rw [List.length_range] at this
  omega
theorem nd_map_inl : ∀ (l : List Nat), l.Nodup → (l.map ((fun p : Key × D => p.1) ∘ fun k : Nat => ((.inl (k : Int) : Key), D.int 0))).Nodup
  | [], _ => List.nodup_nil
  | k :: r, h => by
    have h' := List.nodup_cons.mp h
    rw [List.map_cons, List.nodup_cons]
    refine ⟨fun z => ?_, nd_map_inl r h'.2⟩
    obtain ⟨j, hj, e⟩ := List.mem_map.mp z
    have e2 : (Sum.inl (j : Int) : Key) = Sum.inl (k : Int) := e
    have := Sum.inl.inj e2
    have : j = k := by omega
    exact h'.1 (this ▸ hj)
theorem endsL_congr {len len' c c' : Nat → Int} : ∀ {o : List Nat} {g : Int}, (∀ k ∈ o, len k = len' k ∧ c k = c' k) → endsL len c g o = endsL len' c' g o
  | [], _, _ => rfl
  | k :: r, g, h => by
    obtain ⟨h1, h2⟩ := h k List.mem_cons_self
    simp only [endsL, h1, h2]
    rw [endsL_congr fun x hx => h x (List.mem_cons_of_mem _ hx)]
theorem getD_fld (js : List Job) (t : Nat) {k : Nat} (hk : k < js.length) : (js.map (fldJ t)).getD k 0 = ln js t k := by
  rw [List.getD_eq_getElem?_getD, List.getElem?_map, jAt_get hk]
  rfl
theorem x_lst2 {h : Hs} {x y z : D} : subD h (.lst [x, y, z]) (.int 2) = some z := subD_lst _ _ 2
theorem ok_ends_by_rooms {c0 : Nat} (hL : 100 < L) (hp : Sp_ends_in_room (C c0)) : Sp_ends_by_rooms (callD C L (F_ends_by_rooms c0)) := by
  intro h js a b c ha hb hcc na nb nc hl hc
  refine call_pure rfl rfl hc ?_
  have t : ∀ (t : Nat), t < 3 → ∀ (o3 o4 o5 : Option D) (h' : Hs), wComp C (.sub (.nm 6) (.nm 4)) (.nm 6) .nil [6] (js.map eJob, []) [some (.tup (js.map eJob)), some (.tup [eOrd a, eOrd b, eOrd c]), o3, o4, some (.int t), o5, none] h' fun l h2 => l = (js.map (fldJ t)).map .int ∧ h2 = h' := fun t ht o3 o4 o5 h' => by
    refine wComp_pure (fun j => .int (fldJ t j)) (fun j _ => ?_) ?_
    · simp only [↓wE_nm, ↓wV_0, ↓wV_s, ↓wE_non, ↓wE_lbl, ↓wE_int, ↓wE_str, ↓wA_nil, ↓wA_cons, ↓wA_star, ↓wE_bin, ↓wE_neg, ↓wIn_i, ↓wE_nt, ↓wBl_b, ↓wE_and, ↓wE_or, ↓wB_one, ↓wB_and, ↓wB_or, ↓wIte_t, ↓wIte_f, ↓wE_cmp, ↓wE_cmp2, ↓wE_ife, ↓wE_call, ↓wE_bi, ↓wE_mth, ↓wE_sub, ↓wE_slc, ↓wE_comp, ↓wE_dct, ↓wE_dnewt, ↓wE_al, ↓wAl_lst, ↓wAl_dk, ↓wAl_dt, ↓wT_nm, ↓wX_0, ↓wX_s, ↓wT_tup, ↓wTs_nil, ↓wTs_cons, ↓wT_sub, ↓wI_seq, ↓wSeq_tup, ↓wSeq_lst, ↓wSeq_ref, ↓wSeq_scr, ↓wI_rng, ↓wRng_1, ↓wRng_2, ↓wI_enum, ↓wEnum_tup, ↓wEnum_lst, ↓wEnum_ref, ↓wI_zip, ↓wZip_tup, ↓wZip_lst, ↓wSs_nil, ↓wSs_cons, ↓wS_asg, ↓wS_par, ↓wP_nil, ↓wP_cons, ↓wS_expr, ↓wS_ret, ↓wS_retN, ↓wS_iff, ↓wIs_t, ↓wIs_f, ↓wS_for, ↓wS_whl, ↓wO_some, ↓wO_none, ↓wO_map, ↓wO_bind, ↓wO_chk, ↓wW_nil, ↓wW_cons, ↓b_addLR, ↓b_addRL, ↓m_append, ↓m_extend, ↓m_pop, ↓st_ref, ↓sb_ref, ↓len_ref, ↓wE_dcomp, ↓wSt_l, ↓wSt_i, ↓wSt_s, ↓wSt_t, ↓wSb_l, ↓wSb_i, ↓wSb_t, ↓wLn_l, ↓wLn_d, ↓wLn_t, ↓wO_ixn, wE_tupP, wE_lstP, plain_nil, plain_cons, wE_lstT, wE_tupT, starry_t, starry_f, decide_true, decide_false, Bool.not_false, Bool.not_true, Bool.true_and, Bool.and_true, Bool.false_and, Bool.and_false, Bool.or_false, Bool.false_or, Bool.or_true, Bool.true_or, Bool.or_self, wO_some, b_add, b_sub, b_mul, b_fdiv, b_mod, b_addT, b_addL, b_mulL, c_lt, c_le, c_gt, c_ge, c_eq, c_ne, c_eqS, c_neS, c_is_int, c_is_non, c_is_tup, c_isnt_int, c_isnt_non, c_isnt_tup, u_lenL, u_lenT, u_abs, u_int, u_intB, u_max2, u_min2, is_map, is_int, is_nil, is_cons, is_app, bs_map, u_sum, u_all, u_any, u_max1, u_min1, u_listT, u_listL, u_listR, u_tupL, u_tupT, u_tupR, u_vals, u_rng1, x_tup, x_lst, x_tupN, x_lstN, x_lstE, x_tupE, x_dkI, x_dkS, wIte_pand, wIte_por, wIte_int, u_repB, u_repN, x_t0, x_l0, wSb_l0, x_t1, x_l1, wSb_l1, x_t2, x_l2, wSb_l2, x_t3, x_l3, wSb_l3, x_t4, x_l4, wSb_l4, x_t5, x_l5, wSb_l5, s_lT0, s_lL0, s_hT0, s_hL0, s_lT1, s_lL1, s_hT1, s_hL1, s_lT2, s_lL2, s_hT2, s_hL2, s_loT, s_loL, s_hiT, s_hiL, s_lohiT, s_lohiL, s_revT, s_revL, getS_t, getS_l, getL_ref, getDk_ref, isL_l, isDk_d, ap_0, ap_k, aps_0, aps_k, mok_append, mok_extend, mok_pop, mok_popat, Option.map_some, Option.map_none, Option.bind_some, Option.isSome_some, List.cons_append, List.nil_append, List.append_nil, List.length_map, List.length_append, List.length_cons, List.length_nil, List.set_cons_zero, List.set_cons_succ, List.getElem?_cons_zero, List.getElem?_cons_succ, Int.toNat_natCast, true_and, and_true, List.append_assoc, Nat.zero_add, Nat.reduceAdd, eJob]
      match t, ht with
      | 0, _ => exact wO_of rfl rfl
      | 1, _ => exact wO_of rfl rfl
      | 2, _ => exact wO_of rfl rfl
    · rw [List.map_map]
      exact ⟨rfl, rfl⟩
  simp only [F_ends_by_rooms, b_ends_by_rooms, eJobs, ↓wE_nm, ↓wV_0, ↓wV_s, ↓wE_non, ↓wE_lbl, ↓wE_int, ↓wE_str, ↓wA_nil, ↓wA_cons, ↓wA_star, ↓wE_bin, ↓wE_neg, ↓wIn_i, ↓wE_nt, ↓wBl_b, ↓wE_and, ↓wE_or, ↓wB_one, ↓wB_and, ↓wB_or, ↓wIte_t, ↓wIte_f, ↓wE_cmp, ↓wE_cmp2, ↓wE_ife, ↓wE_call, ↓wE_bi, ↓wE_mth, ↓wE_sub, ↓wE_slc, ↓wE_comp, ↓wE_dct, ↓wE_dnewt, ↓wE_al, ↓wAl_lst, ↓wAl_dk, ↓wAl_dt, ↓wT_nm, ↓wX_0, ↓wX_s, ↓wT_tup, ↓wTs_nil, ↓wTs_cons, ↓wT_sub, ↓wI_seq, ↓wSeq_tup, ↓wSeq_lst, ↓wSeq_ref, ↓wSeq_scr, ↓wI_rng, ↓wRng_1, ↓wRng_2, ↓wI_enum, ↓wEnum_tup, ↓wEnum_lst, ↓wEnum_ref, ↓wI_zip, ↓wZip_tup, ↓wZip_lst, ↓wSs_nil, ↓wSs_cons, ↓wS_asg, ↓wS_par, ↓wP_nil, ↓wP_cons, ↓wS_expr, ↓wS_ret, ↓wS_retN, ↓wS_iff, ↓wIs_t, ↓wIs_f, ↓wS_for, ↓wS_whl, ↓wO_some, ↓wO_none, ↓wO_map, ↓wO_bind, ↓wO_chk, ↓wW_nil, ↓wW_cons, ↓b_addLR, ↓b_addRL, ↓m_append, ↓m_extend, ↓m_pop, ↓st_ref, ↓sb_ref, ↓len_ref, ↓wE_dcomp, ↓wSt_l, ↓wSt_i, ↓wSt_s, ↓wSt_t, ↓wSb_l, ↓wSb_i, ↓wSb_t, ↓wLn_l, ↓wLn_d, ↓wLn_t, ↓wO_ixn, wE_tupP, wE_lstP, plain_nil, plain_cons, wE_lstT, wE_tupT, starry_t, starry_f, decide_true, decide_false, Bool.not_false, Bool.not_true, Bool.true_and, Bool.and_true, Bool.false_and, Bool.and_false, Bool.or_false, Bool.false_or, Bool.or_true, Bool.true_or, Bool.or_self, wO_some, b_add, b_sub, b_mul, b_fdiv, b_mod, b_addT, b_addL, b_mulL, c_lt, c_le, c_gt, c_ge, c_eq, c_ne, c_eqS, c_neS, c_is_int, c_is_non, c_is_tup, c_isnt_int, c_isnt_non, c_isnt_tup, u_lenL, u_lenT, u_abs, u_int, u_intB, u_max2, u_min2, is_map, is_int, is_nil, is_cons, is_app, bs_map, u_sum, u_all, u_any, u_max1, u_min1, u_listT, u_listL, u_listR, u_tupL, u_tupT, u_tupR, u_vals, u_rng1, x_tup, x_lst, x_tupN, x_lstN, x_lstE, x_tupE, x_dkI, x_dkS, wIte_pand, wIte_por, wIte_int, u_repB, u_repN, x_t0, x_l0, wSb_l0, x_t1, x_l1, wSb_l1, x_t2, x_l2, wSb_l2, x_t3, x_l3, wSb_l3, x_t4, x_l4, wSb_l4, x_t5, x_l5, wSb_l5, s_lT0, s_lL0, s_hT0, s_hL0, s_lT1, s_lL1, s_hT1, s_hL1, s_lT2, s_lL2, s_hT2, s_hL2, s_loT, s_loL, s_hiT, s_hiL, s_lohiT, s_lohiL, s_revT, s_revL, getS_t, getS_l, getL_ref, getDk_ref, isL_l, isDk_d, ap_0, ap_k, aps_0, aps_k, mok_append, mok_extend, mok_pop, mok_popat, Option.map_some, Option.map_none, Option.bind_some, Option.isSome_some, List.cons_append, List.nil_append, List.append_nil, List.length_map, List.length_append, List.length_cons, List.length_nil, List.set_cons_zero, List.set_cons_succ, List.getElem?_cons_zero, List.getElem?_cons_succ, Int.toNat_natCast, true_and, and_true, List.append_assoc, Nat.zero_add, Nat.reduceAdd, List.map_cons, List.map_nil, List.replicate, enumL_nil, enumL_cons, wFor_unroll, wFor_done, i01, i12, rng0]
  refine ⟨⟨by omega, by omega⟩, wDc_pure (fun k => .inl (k : Nat)) (fun _ => .int 0) (fun k _ => by simp only [↓wE_nm, ↓wV_0, ↓wV_s, ↓wE_non, ↓wE_lbl, ↓wE_int, ↓wE_str, ↓wA_nil, ↓wA_cons, ↓wA_star, ↓wE_bin, ↓wE_neg, ↓wIn_i, ↓wE_nt, ↓wBl_b, ↓wE_and, ↓wE_or, ↓wB_one, ↓wB_and, ↓wB_or, ↓wIte_t, ↓wIte_f, ↓wE_cmp, ↓wE_cmp2, ↓wE_ife, ↓wE_call, ↓wE_bi, ↓wE_mth, ↓wE_sub, ↓wE_slc, ↓wE_comp, ↓wE_dct, ↓wE_dnewt, ↓wE_al, ↓wAl_lst, ↓wAl_dk, ↓wAl_dt, ↓wT_nm, ↓wX_0, ↓wX_s, ↓wT_tup, ↓wTs_nil, ↓wTs_cons, ↓wT_sub, ↓wI_seq, ↓wSeq_tup, ↓wSeq_lst, ↓wSeq_ref, ↓wSeq_scr, ↓wI_rng, ↓wRng_1, ↓wRng_2, ↓wI_enum, ↓wEnum_tup, ↓wEnum_lst, ↓wEnum_ref, ↓wI_zip, ↓wZip_tup, ↓wZip_lst, ↓wSs_nil, ↓wSs_cons, ↓wS_asg, ↓wS_par, ↓wP_nil, ↓wP_cons, ↓wS_expr, ↓wS_ret, ↓wS_retN, ↓wS_iff, ↓wIs_t, ↓wIs_f, ↓wS_for, ↓wS_whl, ↓wO_some, ↓wO_none, ↓wO_map, ↓wO_bind, ↓wO_chk, ↓wW_nil, ↓wW_cons, ↓b_addLR, ↓b_addRL, ↓m_append, ↓m_extend, ↓m_pop, ↓st_ref, ↓sb_ref, ↓len_ref, ↓wE_dcomp, ↓wSt_l, ↓wSt_i, ↓wSt_s, ↓wSt_t, ↓wSb_l, ↓wSb_i, ↓wSb_t, ↓wLn_l, ↓wLn_d, ↓wLn_t, ↓wO_ixn, wE_tupP, wE_lstP, plain_nil, plain_cons, wE_lstT, wE_tupT, starry_t, starry_f, decide_true, decide_false, Bool.not_false, Bool.not_true, Bool.true_and, Bool.and_true, Bool.false_and, Bool.and_false, Bool.or_false, Bool.false_or, Bool.or_true, Bool.true_or, Bool.or_self, wO_some, b_add, b_sub, b_mul, b_fdiv, b_mod, b_addT, b_addL, b_mulL, c_lt, c_le, c_gt, c_ge, c_eq, c_ne, c_eqS, c_neS, c_is_int, c_is_non, c_is_tup, c_isnt_int, c_isnt_non, c_isnt_tup, u_lenL, u_lenT, u_abs, u_int, u_intB, u_max2, u_min2, is_map, is_int, is_nil, is_cons, is_app, bs_map, u_sum, u_all, u_any, u_max1, u_min1, u_listT, u_listL, u_listR, u_tupL, u_tupT, u_tupR, u_vals, u_rng1, x_tup, x_lst, x_tupN, x_lstN, x_lstE, x_tupE, x_dkI, x_dkS, wIte_pand, wIte_por, wIte_int, u_repB, u_repN, x_t0, x_l0, wSb_l0, x_t1, x_l1, wSb_l1, x_t2, x_l2, wSb_l2, x_t3, x_l3, wSb_l3, x_t4, x_l4, wSb_l4, x_t5, x_l5, wSb_l5, s_lT0, s_lL0, s_hT0, s_hL0, s_lT1, s_lL1, s_hT1, s_hL1, s_lT2, s_lL2, s_hT2, s_hL2, s_loT, s_loL, s_hiT, s_hiL, s_lohiT, s_lohiL, s_revT, s_revL, getS_t, getS_l, getL_ref, getDk_ref, isL_l, isDk_d, ap_0, ap_k, aps_0, aps_k, mok_append, mok_extend, mok_pop, mok_popat, Option.map_some, Option.map_none, Option.bind_some, Option.isSome_some, List.cons_append, List.nil_append, List.append_nil, List.length_map, List.length_append, List.length_cons, List.length_nil, List.set_cons_zero, List.set_cons_succ, List.getElem?_cons_zero, List.getElem?_cons_succ, Int.toNat_natCast, true_and, and_true, List.append_assoc, Nat.zero_add, Nat.reduceAdd, ofKey]) ?_⟩
  have hz : mergeD [] (List.filterMap pairK ((List.range js.length).map fun k => D.tup [ofKey (.inl (k : Nat)), D.int 0])) = kv (zer js.length) := by
    rw [pairs_fm (fun k : Nat => (.inl (k : Int) : Key)) (fun _ => D.int 0), merge_nd, List.nil_append]
    · unfold kv zer
      rw [List.map_map]
      rfl
    · rw [List.nil_append, List.map_map]
      exact nd_map_inl _ List.nodup_range
  rw [hz]
  have hjz : js.length ≤ sizeLine := fits_of (by omega)
  refine ⟨by rw [List.length_range]; exact hjz, wComp_mono (t 0 (by omega) _ _ _ _) ?_⟩
  rintro _ _ ⟨rfl, rfl⟩
  refine ⟨hjz, ?_⟩
  have hal : a.length ≤ 1000 := Nat.le_trans (nd_len na ha) hl
  have hblt : ∀ k ∈ b, k < js.length := fun k hk => ha k (hb k hk)
  have hclt : ∀ k ∈ c, k < js.length := fun k hk => hblt k (hcc k hk)
  have st : ∀ (t : Nat) (cf : Nat → Int) (o : List Nat) (come : List (Key × D)) (h' : Hs), (∀ k ∈ o, k < js.length) → (∀ k ∈ o, look come (.inl (k : Int)) = some (.int (cf k))) → (∀ b, ∀ p ∈ come, Low b p.2) → o.Nodup → Cl h' →
      C c0 [.lst ((js.map (fldJ t)).map .int), eOrd o, .dk come] h' = some (.dk (kv (endsL (ln js t) cf 0 o)), h') := fun t cf o come h' ho hlk hlow hn hc' => by
    rw [hp h' (js.map (fldJ t)) cf o come (fun k hk => ⟨by rw [List.length_map]; exact ho k hk, hlk k hk⟩) (hlow _) hn (Nat.le_trans (nd_len hn ho) hl) hc']
    rw [endsL_congr (fun k hk => ⟨getD_fld js t (ho k hk), rfl⟩)]
  have cl1 : ∀ l : List D, (∀ b, ∀ x ∈ l, Low b x) → Cl (h ++ [.lst l]) := fun l hx => hc.add (hx _)
  have lk : ∀ (m : List (Nat × Int)) b, Low b (.dk (kv m)) := fun m b => .dk (low_kv m)
  rw [st 0 zc a (kv (zer js.length)) _ ha (fun k hk => look_kv (by rw [zer_fst]; exact List.nodup_range) (by unfold zer; exact List.mem_map.mpr ⟨k, List.mem_range.mpr (ha k hk), rfl⟩)) (fun b => low_kv _) na (cl1 _ (by intro b x hx; cases hx))]
  simp only [↓wE_nm, ↓wV_0, ↓wV_s, ↓wE_non, ↓wE_lbl, ↓wE_int, ↓wE_str, ↓wA_nil, ↓wA_cons, ↓wA_star, ↓wE_bin, ↓wE_neg, ↓wIn_i, ↓wE_nt, ↓wBl_b, ↓wE_and, ↓wE_or, ↓wB_one, ↓wB_and, ↓wB_or, ↓wIte_t, ↓wIte_f, ↓wE_cmp, ↓wE_cmp2, ↓wE_ife, ↓wE_call, ↓wE_bi, ↓wE_mth, ↓wE_sub, ↓wE_slc, ↓wE_comp, ↓wE_dct, ↓wE_dnewt, ↓wE_al, ↓wAl_lst, ↓wAl_dk, ↓wAl_dt, ↓wT_nm, ↓wX_0, ↓wX_s, ↓wT_tup, ↓wTs_nil, ↓wTs_cons, ↓wT_sub, ↓wI_seq, ↓wSeq_tup, ↓wSeq_lst, ↓wSeq_ref, ↓wSeq_scr, ↓wI_rng, ↓wRng_1, ↓wRng_2, ↓wI_enum, ↓wEnum_tup, ↓wEnum_lst, ↓wEnum_ref, ↓wI_zip, ↓wZip_tup, ↓wZip_lst, ↓wSs_nil, ↓wSs_cons, ↓wS_asg, ↓wS_par, ↓wP_nil, ↓wP_cons, ↓wS_expr, ↓wS_ret, ↓wS_retN, ↓wS_iff, ↓wIs_t, ↓wIs_f, ↓wS_for, ↓wS_whl, ↓wO_some, ↓wO_none, ↓wO_map, ↓wO_bind, ↓wO_chk, ↓wW_nil, ↓wW_cons, ↓b_addLR, ↓b_addRL, ↓m_append, ↓m_extend, ↓m_pop, ↓st_ref, ↓sb_ref, ↓len_ref, ↓wE_dcomp, ↓wSt_l, ↓wSt_i, ↓wSt_s, ↓wSt_t, ↓wSb_l, ↓wSb_i, ↓wSb_t, ↓wLn_l, ↓wLn_d, ↓wLn_t, ↓wO_ixn, wE_tupP, wE_lstP, plain_nil, plain_cons, wE_lstT, wE_tupT, starry_t, starry_f, decide_true, decide_false, Bool.not_false, Bool.not_true, Bool.true_and, Bool.and_true, Bool.false_and, Bool.and_false, Bool.or_false, Bool.false_or, Bool.or_true, Bool.true_or, Bool.or_self, wO_some, b_add, b_sub, b_mul, b_fdiv, b_mod, b_addT, b_addL, b_mulL, c_lt, c_le, c_gt, c_ge, c_eq, c_ne, c_eqS, c_neS, c_is_int, c_is_non, c_is_tup, c_isnt_int, c_isnt_non, c_isnt_tup, u_lenL, u_lenT, u_abs, u_int, u_intB, u_max2, u_min2, is_map, is_int, is_nil, is_cons, is_app, bs_map, u_sum, u_all, u_any, u_max1, u_min1, u_listT, u_listL, u_listR, u_tupL, u_tupT, u_tupR, u_vals, u_rng1, x_tup, x_lst, x_tupN, x_lstN, x_lstE, x_tupE, x_dkI, x_dkS, wIte_pand, wIte_por, wIte_int, u_repB, u_repN, x_t0, x_l0, wSb_l0, x_t1, x_l1, wSb_l1, x_t2, x_l2, wSb_l2, x_t3, x_l3, wSb_l3, x_t4, x_l4, wSb_l4, x_t5, x_l5, wSb_l5, s_lT0, s_lL0, s_hT0, s_hL0, s_lT1, s_lL1, s_hT1, s_hL1, s_lT2, s_lL2, s_hT2, s_hL2, s_loT, s_loL, s_hiT, s_hiL, s_lohiT, s_lohiL, s_revT, s_revL, getS_t, getS_l, getL_ref, getDk_ref, isL_l, isDk_d, ap_0, ap_k, aps_0, aps_k, mok_append, mok_extend, mok_pop, mok_popat, Option.map_some, Option.map_none, Option.bind_some, Option.isSome_some, List.cons_append, List.nil_append, List.append_nil, List.length_map, List.length_append, List.length_cons, List.length_nil, List.set_cons_zero, List.set_cons_succ, List.getElem?_cons_zero, List.getElem?_cons_succ, Int.toNat_natCast, true_and, and_true, List.append_assoc, Nat.zero_add, Nat.reduceAdd]
  refine ⟨fits_lt (by omega), wComp_mono (t 1 (by omega) _ _ _ _) ?_⟩
  rintro _ _ ⟨rfl, rfl⟩
  refine ⟨hjz, ?_⟩
  rw [st 1 (e1F js a) b _ _ hblt (fun k hk => look_endF na (hb k hk)) (fun b => low_kv _) nb (cl1 _ (by intro b x hx; rw [List.mem_singleton.mp hx]; exact lk _ _))]
  simp only [↓wE_nm, ↓wV_0, ↓wV_s, ↓wE_non, ↓wE_lbl, ↓wE_int, ↓wE_str, ↓wA_nil, ↓wA_cons, ↓wA_star, ↓wE_bin, ↓wE_neg, ↓wIn_i, ↓wE_nt, ↓wBl_b, ↓wE_and, ↓wE_or, ↓wB_one, ↓wB_and, ↓wB_or, ↓wIte_t, ↓wIte_f, ↓wE_cmp, ↓wE_cmp2, ↓wE_ife, ↓wE_call, ↓wE_bi, ↓wE_mth, ↓wE_sub, ↓wE_slc, ↓wE_comp, ↓wE_dct, ↓wE_dnewt, ↓wE_al, ↓wAl_lst, ↓wAl_dk, ↓wAl_dt, ↓wT_nm, ↓wX_0, ↓wX_s, ↓wT_tup, ↓wTs_nil, ↓wTs_cons, ↓wT_sub, ↓wI_seq, ↓wSeq_tup, ↓wSeq_lst, ↓wSeq_ref, ↓wSeq_scr, ↓wI_rng, ↓wRng_1, ↓wRng_2, ↓wI_enum, ↓wEnum_tup, ↓wEnum_lst, ↓wEnum_ref, ↓wI_zip, ↓wZip_tup, ↓wZip_lst, ↓wSs_nil, ↓wSs_cons, ↓wS_asg, ↓wS_par, ↓wP_nil, ↓wP_cons, ↓wS_expr, ↓wS_ret, ↓wS_retN, ↓wS_iff, ↓wIs_t, ↓wIs_f, ↓wS_for, ↓wS_whl, ↓wO_some, ↓wO_none, ↓wO_map, ↓wO_bind, ↓wO_chk, ↓wW_nil, ↓wW_cons, ↓b_addLR, ↓b_addRL, ↓m_append, ↓m_extend, ↓m_pop, ↓st_ref, ↓sb_ref, ↓len_ref, ↓wE_dcomp, ↓wSt_l, ↓wSt_i, ↓wSt_s, ↓wSt_t, ↓wSb_l, ↓wSb_i, ↓wSb_t, ↓wLn_l, ↓wLn_d, ↓wLn_t, ↓wO_ixn, wE_tupP, wE_lstP, plain_nil, plain_cons, wE_lstT, wE_tupT, starry_t, starry_f, decide_true, decide_false, Bool.not_false, Bool.not_true, Bool.true_and, Bool.and_true, Bool.false_and, Bool.and_false, Bool.or_false, Bool.false_or, Bool.or_true, Bool.true_or, Bool.or_self, wO_some, b_add, b_sub, b_mul, b_fdiv, b_mod, b_addT, b_addL, b_mulL, c_lt, c_le, c_gt, c_ge, c_eq, c_ne, c_eqS, c_neS, c_is_int, c_is_non, c_is_tup, c_isnt_int, c_isnt_non, c_isnt_tup, u_lenL, u_lenT, u_abs, u_int, u_intB, u_max2, u_min2, is_map, is_int, is_nil, is_cons, is_app, bs_map, u_sum, u_all, u_any, u_max1, u_min1, u_listT, u_listL, u_listR, u_tupL, u_tupT, u_tupR, u_vals, u_rng1, x_tup, x_lst, x_tupN, x_lstN, x_lstE, x_tupE, x_dkI, x_dkS, wIte_pand, wIte_por, wIte_int, u_repB, u_repN, x_t0, x_l0, wSb_l0, x_t1, x_l1, wSb_l1, x_t2, x_l2, wSb_l2, x_t3, x_l3, wSb_l3, x_t4, x_l4, wSb_l4, x_t5, x_l5, wSb_l5, s_lT0, s_lL0, s_hT0, s_hL0, s_lT1, s_lL1, s_hT1, s_hL1, s_lT2, s_lL2, s_hT2, s_hL2, s_loT, s_loL, s_hiT, s_hiL, s_lohiT, s_lohiL, s_revT, s_revL, getS_t, getS_l, getL_ref, getDk_ref, isL_l, isDk_d, ap_0, ap_k, aps_0, aps_k, mok_append, mok_extend, mok_pop, mok_popat, Option.map_some, Option.map_none, Option.bind_some, Option.isSome_some, List.cons_append, List.nil_append, List.append_nil, List.length_map, List.length_append, List.length_cons, List.length_nil, List.set_cons_zero, List.set_cons_succ, List.getElem?_cons_zero, List.getElem?_cons_succ, Int.toNat_natCast, true_and, and_true, List.append_assoc, Nat.zero_add, Nat.reduceAdd]
  refine ⟨fits_lt (by omega), wComp_mono (t 2 (by omega) _ _ _ _) ?_⟩
  rintro _ _ ⟨rfl, rfl⟩
  refine ⟨hjz, ?_⟩
  rw [st 2 (e2F js a b) c _ _ hclt (fun k hk => look_endF nb (hcc k hk)) (fun b => low_kv _) nc (cl1 _ (by
    intro b x hx
    simp only [List.mem_cons, List.not_mem_nil, or_false] at hx
    rcases hx with rfl | rfl <;> exact lk _ _))]
  simp only [↓wE_nm, ↓wV_0, ↓wV_s, ↓wE_non, ↓wE_lbl, ↓wE_int, ↓wE_str, ↓wA_nil, ↓wA_cons, ↓wA_star, ↓wE_bin, ↓wE_neg, ↓wIn_i, ↓wE_nt, ↓wBl_b, ↓wE_and, ↓wE_or, ↓wB_one, ↓wB_and, ↓wB_or, ↓wIte_t, ↓wIte_f, ↓wE_cmp, ↓wE_cmp2, ↓wE_ife, ↓wE_call, ↓wE_bi, ↓wE_mth, ↓wE_sub, ↓wE_slc, ↓wE_comp, ↓wE_dct, ↓wE_dnewt, ↓wE_al, ↓wAl_lst, ↓wAl_dk, ↓wAl_dt, ↓wT_nm, ↓wX_0, ↓wX_s, ↓wT_tup, ↓wTs_nil, ↓wTs_cons, ↓wT_sub, ↓wI_seq, ↓wSeq_tup, ↓wSeq_lst, ↓wSeq_ref, ↓wSeq_scr, ↓wI_rng, ↓wRng_1, ↓wRng_2, ↓wI_enum, ↓wEnum_tup, ↓wEnum_lst, ↓wEnum_ref, ↓wI_zip, ↓wZip_tup, ↓wZip_lst, ↓wSs_nil, ↓wSs_cons, ↓wS_asg, ↓wS_par, ↓wP_nil, ↓wP_cons, ↓wS_expr, ↓wS_ret, ↓wS_retN, ↓wS_iff, ↓wIs_t, ↓wIs_f, ↓wS_for, ↓wS_whl, ↓wO_some, ↓wO_none, ↓wO_map, ↓wO_bind, ↓wO_chk, ↓wW_nil, ↓wW_cons, ↓b_addLR, ↓b_addRL, ↓m_append, ↓m_extend, ↓m_pop, ↓st_ref, ↓sb_ref, ↓len_ref, ↓wE_dcomp, ↓wSt_l, ↓wSt_i, ↓wSt_s, ↓wSt_t, ↓wSb_l, ↓wSb_i, ↓wSb_t, ↓wLn_l, ↓wLn_d, ↓wLn_t, ↓wO_ixn, wE_tupP, wE_lstP, plain_nil, plain_cons, wE_lstT, wE_tupT, starry_t, starry_f, decide_true, decide_false, Bool.not_false, Bool.not_true, Bool.true_and, Bool.and_true, Bool.false_and, Bool.and_false, Bool.or_false, Bool.false_or, Bool.or_true, Bool.true_or, Bool.or_self, wO_some, b_add, b_sub, b_mul, b_fdiv, b_mod, b_addT, b_addL, b_mulL, c_lt, c_le, c_gt, c_ge, c_eq, c_ne, c_eqS, c_neS, c_is_int, c_is_non, c_is_tup, c_isnt_int, c_isnt_non, c_isnt_tup, u_lenL, u_lenT, u_abs, u_int, u_intB, u_max2, u_min2, is_map, is_int, is_nil, is_cons, is_app, bs_map, u_sum, u_all, u_any, u_max1, u_min1, u_listT, u_listL, u_listR, u_tupL, u_tupT, u_tupR, u_vals, u_rng1, x_tup, x_lst, x_tupN, x_lstN, x_lstE, x_tupE, x_dkI, x_dkS, wIte_pand, wIte_por, wIte_int, u_repB, u_repN, x_t0, x_l0, wSb_l0, x_t1, x_l1, wSb_l1, x_t2, x_l2, wSb_l2, x_t3, x_l3, wSb_l3, x_t4, x_l4, wSb_l4, x_t5, x_l5, wSb_l5, s_lT0, s_lL0, s_hT0, s_hL0, s_lT1, s_lL1, s_hT1, s_hL1, s_lT2, s_lL2, s_hT2, s_hL2, s_loT, s_loL, s_hiT, s_hiL, s_lohiT, s_lohiL, s_revT, s_revL, getS_t, getS_l, getL_ref, getDk_ref, isL_l, isDk_d, ap_0, ap_k, aps_0, aps_k, mok_append, mok_extend, mok_pop, mok_popat, Option.map_some, Option.map_none, Option.bind_some, Option.isSome_some, List.cons_append, List.nil_append, List.append_nil, List.length_map, List.length_append, List.length_cons, List.length_nil, List.set_cons_zero, List.set_cons_succ, List.getElem?_cons_zero, List.getElem?_cons_succ, Int.toNat_natCast, true_and, and_true, List.append_assoc, Nat.zero_add, Nat.reduceAdd]
  refine ⟨fits_lt (by omega), _, rfl, frz_ref (Nat.le_refl _) ap_0 ?_⟩
  intro x hx
  simp only [List.mem_cons, List.not_mem_nil, or_false] at hx
  rcases hx with rfl | rfl | rfl <;> exact lk _ _
def Sp_rooms_span (P : Cl1) : Prop := ∀ (h : Hs) (js : List Job) (a b c : List Nat), (∀ k ∈ a, k < js.length) → (∀ k ∈ b, k ∈ a) → (∀ k ∈ c, k ∈ b) → a.Nodup → b.Nodup → c.Nodup → js.length ≤ 1000 → Cl h →
  P [eJobs js, .tup [eOrd a, eOrd b, eOrd c]] h = some (.int (spO js a b c), h)
theorem kv_vals (l : List (Nat × Int)) : (kv l).map (·.2) = (l.map (·.2)).map .int := by
  unfold kv
  rw [List.map_map, List.map_map]
  rfl
theorem ok_rooms_span {c0 : Nat} (hL : 100 < L) (hp : Sp_ends_by_rooms (C c0)) : Sp_rooms_span (callD C L (F_rooms_span c0)) := by
  intro h js a b c ha hb hcc na nb nc hl hc
  refine call_pure rfl rfl hc ?_
  simp only [F_rooms_span, b_rooms_span, ↓wE_nm, ↓wV_0, ↓wV_s, ↓wE_non, ↓wE_lbl, ↓wE_int, ↓wE_str, ↓wA_nil, ↓wA_cons, ↓wA_star, ↓wE_bin, ↓wE_neg, ↓wIn_i, ↓wE_nt, ↓wBl_b, ↓wE_and, ↓wE_or, ↓wB_one, ↓wB_and, ↓wB_or, ↓wIte_t, ↓wIte_f, ↓wE_cmp, ↓wE_cmp2, ↓wE_ife, ↓wE_call, ↓wE_bi, ↓wE_mth, ↓wE_sub, ↓wE_slc, ↓wE_comp, ↓wE_dct, ↓wE_dnewt, ↓wE_al, ↓wAl_lst, ↓wAl_dk, ↓wAl_dt, ↓wT_nm, ↓wX_0, ↓wX_s, ↓wT_tup, ↓wTs_nil, ↓wTs_cons, ↓wT_sub, ↓wI_seq, ↓wSeq_tup, ↓wSeq_lst, ↓wSeq_ref, ↓wSeq_scr, ↓wI_rng, ↓wRng_1, ↓wRng_2, ↓wI_enum, ↓wEnum_tup, ↓wEnum_lst, ↓wEnum_ref, ↓wI_zip, ↓wZip_tup, ↓wZip_lst, ↓wSs_nil, ↓wSs_cons, ↓wS_asg, ↓wS_par, ↓wP_nil, ↓wP_cons, ↓wS_expr, ↓wS_ret, ↓wS_retN, ↓wS_iff, ↓wIs_t, ↓wIs_f, ↓wS_for, ↓wS_whl, ↓wO_some, ↓wO_none, ↓wO_map, ↓wO_bind, ↓wO_chk, ↓wW_nil, ↓wW_cons, ↓b_addLR, ↓b_addRL, ↓m_append, ↓m_extend, ↓m_pop, ↓st_ref, ↓sb_ref, ↓len_ref, ↓wE_dcomp, ↓wSt_l, ↓wSt_i, ↓wSt_s, ↓wSt_t, ↓wSb_l, ↓wSb_i, ↓wSb_t, ↓wLn_l, ↓wLn_d, ↓wLn_t, ↓wO_ixn, wE_tupP, wE_lstP, plain_nil, plain_cons, wE_lstT, wE_tupT, starry_t, starry_f, decide_true, decide_false, Bool.not_false, Bool.not_true, Bool.true_and, Bool.and_true, Bool.false_and, Bool.and_false, Bool.or_false, Bool.false_or, Bool.or_true, Bool.true_or, Bool.or_self, wO_some, b_add, b_sub, b_mul, b_fdiv, b_mod, b_addT, b_addL, b_mulL, c_lt, c_le, c_gt, c_ge, c_eq, c_ne, c_eqS, c_neS, c_is_int, c_is_non, c_is_tup, c_isnt_int, c_isnt_non, c_isnt_tup, u_lenL, u_lenT, u_abs, u_int, u_intB, u_max2, u_min2, is_map, is_int, is_nil, is_cons, is_app, bs_map, u_sum, u_all, u_any, u_max1, u_min1, u_listT, u_listL, u_listR, u_tupL, u_tupT, u_tupR, u_vals, u_rng1, x_tup, x_lst, x_tupN, x_lstN, x_lstE, x_tupE, x_dkI, x_dkS, wIte_pand, wIte_por, wIte_int, u_repB, u_repN, x_t0, x_l0, wSb_l0, x_t1, x_l1, wSb_l1, x_t2, x_l2, wSb_l2, x_t3, x_l3, wSb_l3, x_t4, x_l4, wSb_l4, x_t5, x_l5, wSb_l5, s_lT0, s_lL0, s_hT0, s_hL0, s_lT1, s_lL1, s_hT1, s_hL1, s_lT2, s_lL2, s_hT2, s_hL2, s_loT, s_loL, s_hiT, s_hiL, s_lohiT, s_lohiL, s_revT, s_revL, getS_t, getS_l, getL_ref, getDk_ref, isL_l, isDk_d, ap_0, ap_k, aps_0, aps_k, mok_append, mok_extend, mok_pop, mok_popat, Option.map_some, Option.map_none, Option.bind_some, Option.isSome_some, List.cons_append, List.nil_append, List.append_nil, List.length_map, List.length_append, List.length_cons, List.length_nil, List.set_cons_zero, List.set_cons_succ, List.getElem?_cons_zero, List.getElem?_cons_succ, Int.toNat_natCast, true_and, and_true, List.append_assoc, Nat.zero_add, Nat.reduceAdd, List.map_cons, List.map_nil, List.replicate, hp h js a b c ha hb hcc na nb nc hl hc, x_lst2, kv_vals, maxO]
  refine ⟨fits_of ?_, ?_⟩
  · unfold e3L
    rw [endsL_len]
    have := nd_len nc fun k hk => ha k (hb k (hcc k hk))
    omega
  · rw [maxI_mx]
    exact ret_low (.int _)
def Sp_room_span (P : Cl1) : Prop := ∀ (h : Hs) (js : List Job) (o : List Nat), (∀ k ∈ o, k < js.length) → o.Nodup → js.length ≤ 1000 → Cl h →
  P [eJobs js, eOrd o] h = some (.int (spO js o o o), h)
theorem ok_room_span {c0 : Nat} (hL : 100 < L) (hp : Sp_rooms_span (C c0)) : Sp_room_span (callD C L (F_room_span c0)) := by
  intro h js o ho hn hl hc
  refine call_pure rfl rfl hc ?_
  simp only [F_room_span, b_room_span, ↓wE_nm, ↓wV_0, ↓wV_s, ↓wE_non, ↓wE_lbl, ↓wE_int, ↓wE_str, ↓wA_nil, ↓wA_cons, ↓wA_star, ↓wE_bin, ↓wE_neg, ↓wIn_i, ↓wE_nt, ↓wBl_b, ↓wE_and, ↓wE_or, ↓wB_one, ↓wB_and, ↓wB_or, ↓wIte_t, ↓wIte_f, ↓wE_cmp, ↓wE_cmp2, ↓wE_ife, ↓wE_call, ↓wE_bi, ↓wE_mth, ↓wE_sub, ↓wE_slc, ↓wE_comp, ↓wE_dct, ↓wE_dnewt, ↓wE_al, ↓wAl_lst, ↓wAl_dk, ↓wAl_dt, ↓wT_nm, ↓wX_0, ↓wX_s, ↓wT_tup, ↓wTs_nil, ↓wTs_cons, ↓wT_sub, ↓wI_seq, ↓wSeq_tup, ↓wSeq_lst, ↓wSeq_ref, ↓wSeq_scr, ↓wI_rng, ↓wRng_1, ↓wRng_2, ↓wI_enum, ↓wEnum_tup, ↓wEnum_lst, ↓wEnum_ref, ↓wI_zip, ↓wZip_tup, ↓wZip_lst, ↓wSs_nil, ↓wSs_cons, ↓wS_asg, ↓wS_par, ↓wP_nil, ↓wP_cons, ↓wS_expr, ↓wS_ret, ↓wS_retN, ↓wS_iff, ↓wIs_t, ↓wIs_f, ↓wS_for, ↓wS_whl, ↓wO_some, ↓wO_none, ↓wO_map, ↓wO_bind, ↓wO_chk, ↓wW_nil, ↓wW_cons, ↓b_addLR, ↓b_addRL, ↓m_append, ↓m_extend, ↓m_pop, ↓st_ref, ↓sb_ref, ↓len_ref, ↓wE_dcomp, ↓wSt_l, ↓wSt_i, ↓wSt_s, ↓wSt_t, ↓wSb_l, ↓wSb_i, ↓wSb_t, ↓wLn_l, ↓wLn_d, ↓wLn_t, ↓wO_ixn, wE_tupP, wE_lstP, plain_nil, plain_cons, wE_lstT, wE_tupT, starry_t, starry_f, decide_true, decide_false, Bool.not_false, Bool.not_true, Bool.true_and, Bool.and_true, Bool.false_and, Bool.and_false, Bool.or_false, Bool.false_or, Bool.or_true, Bool.true_or, Bool.or_self, wO_some, b_add, b_sub, b_mul, b_fdiv, b_mod, b_addT, b_addL, b_mulL, c_lt, c_le, c_gt, c_ge, c_eq, c_ne, c_eqS, c_neS, c_is_int, c_is_non, c_is_tup, c_isnt_int, c_isnt_non, c_isnt_tup, u_lenL, u_lenT, u_abs, u_int, u_intB, u_max2, u_min2, is_map, is_int, is_nil, is_cons, is_app, bs_map, u_sum, u_all, u_any, u_max1, u_min1, u_listT, u_listL, u_listR, u_tupL, u_tupT, u_tupR, u_vals, u_rng1, x_tup, x_lst, x_tupN, x_lstN, x_lstE, x_tupE, x_dkI, x_dkS, wIte_pand, wIte_por, wIte_int, u_repB, u_repN, x_t0, x_l0, wSb_l0, x_t1, x_l1, wSb_l1, x_t2, x_l2, wSb_l2, x_t3, x_l3, wSb_l3, x_t4, x_l4, wSb_l4, x_t5, x_l5, wSb_l5, s_lT0, s_lL0, s_hT0, s_hL0, s_lT1, s_lL1, s_hT1, s_hL1, s_lT2, s_lL2, s_hT2, s_hL2, s_loT, s_loL, s_hiT, s_hiL, s_lohiT, s_lohiL, s_revT, s_revL, getS_t, getS_l, getL_ref, getDk_ref, isL_l, isDk_d, ap_0, ap_k, aps_0, aps_k, mok_append, mok_extend, mok_pop, mok_popat, Option.map_some, Option.map_none, Option.bind_some, Option.isSome_some, List.cons_append, List.nil_append, List.append_nil, List.length_map, List.length_append, List.length_cons, List.length_nil, List.set_cons_zero, List.set_cons_succ, List.getElem?_cons_zero, List.getElem?_cons_succ, Int.toNat_natCast, true_and, and_true, List.append_assoc, Nat.zero_add, Nat.reduceAdd, List.map_cons, List.map_nil, List.replicate, hp h js o o o ho (fun _ z => z) (fun _ z => z) hn hn hn hl hc]
  exact ret_low (.int _)
end
end QR

set_option Elab.async false
set_option linter.all false
set_option maxRecDepth 100000
set_option maxHeartbeats 8000000
/-! R2: the defs of the rooms, by what they are asked -/
namespace QR
open PySem PySem.Spec PyProof.Rows L2 Z
section
variable {C : Cal} {L : Nat}
def Sp_law_pick2 (P : Cl1) : Prop := ∀ (s : Sc), s.cells.length ≤ 64 → ∀ many : Int, many < 2 ^ 30 → ∀ rest : Hs, ClR rest →
  ∃ (r : Int) (s' : Sc), P [.ref 1, .int many] (s.hs rest) = some (.int r, s'.hs rest) ∧ 0 ≤ r ∧ (1 ≤ many → r < many) ∧ (many < 2 → r = 0) ∧ s'.cells.length ≤ 64
theorem ok_law_pick2 (hL : 100 < L) : Sp_law_pick2 (callD C L ⟨2, 4, false, bPick⟩) := fun s hs many hm rest hr => call_pick hL s hs many hm rest hr
def Sp_law_source2 (P : Cl1) : Prop := ∀ ls : List Int, ls.length ≤ 64 → ∃ s : Sc, P [.scr ls] [] = some (.ref 1, s.hs []) ∧ s.cells.length ≤ 64
theorem ok_law_source2 (hL : 100 < L) : Sp_law_source2 (callD C L ⟨1, 3, true, bSource⟩) := fun ls hl => call_source ls hl
def Sp_law_mixed (P : Cl1) : Prop := ∀ (s : Sc), s.cells.length ≤ 64 → ∀ l : List D, l.length ≤ 1000 → (∀ b, ∀ x ∈ l, Low b x) → ∀ rest : Hs, ClR rest →
  ∃ (l' : List D) (s' : Sc), P [.ref 1, .lst l] (s.hs rest) = some (.lst l', s'.hs rest) ∧ l'.Perm l ∧ s'.cells.length ≤ 64
theorem ok_law_mixed {p : Nat} (hL : 100 < L) (hp : Sp_law_pick2 (C p)) : Sp_law_mixed (callD C L ⟨2, 4, false, bMixed p⟩) := fun s hs l hl hd rest hr => call_mixed (p := p) hp s hs l hl hd rest hr
def Sp_law_jobs2 (P : Cl1) : Prop := ∀ (s : Sc), s.cells.length ≤ 64 → ∀ n : Nat, n ≤ 1000 → ∀ rest : Hs, ClR rest →
  ∃ (js : List Job) (s' : Sc), P [.ref 1, .int n] (s.hs rest) = some (eJobs js, s'.hs rest) ∧ js.length = n ∧ (∀ j ∈ js, JobOk j) ∧ s'.cells.length ≤ 64
theorem ok_law_jobs2 {p : Nat} (hL : 100 < L) (hp : Sp_law_pick2 (C p)) : Sp_law_jobs2 (callD C L ⟨2, 9, false, bJobs p⟩) := fun s hs n hn rest hr => call_jobs (p := p) hp s hs n hn rest hr
def Sp_law_wide (P : Cl1) : Prop := ∀ (h : Hs) (js : List Job) (o : List Nat), (∀ k ∈ o, k < js.length) → Cl h → P [eJobs js, eOrd o] h = some (.int (W 0 0 (sel js o)), h)
theorem ok_law_wide (hL : 100 < L) : Sp_law_wide (callD C L ⟨2, 5, false, bWide⟩) := fun h js o ho hc => call_wide js o ho hc
def Sp_law_orders2 (P : Cl1) : Prop := ∀ (h : Hs) (n : Nat), n ≤ 6 → Cl h → P [.int n] h = some (.lst ((ords n n).map eOrd), h)
theorem ok_law_orders2 (hL : 100 < L) : Sp_law_orders2 (callD C L ⟨1, 6, false, bLawOrders⟩) := fun h n hn hc => lorders_call n hn hc
def Sp_orders_of_jobs (P : Cl1) : Prop := ∀ (h : Hs) (n : Nat), n ≤ 6 → Cl h → P [.int n] h = some (.lst ((ords n n).map eOrd), h)
theorem ok_orders_of_jobs (hL : 100 < L) : Sp_orders_of_jobs (callD C L ⟨1, 6, false, bOrders⟩) := fun h n hn hc => orders_call n hn hc
def Sp_johnson_order (P : Cl1) : Prop := ∀ (h : Hs) (ps : List (Int × Int)), ps.length ≤ 400 → Cl h → P [.tup (ps.map eI2)] h = some (eOrd (jo ps), h)
theorem ok_johnson_order (hL : 100 < L) : Sp_johnson_order (callD C L ⟨1, 7, false, bJohnson⟩) := fun h ps hl hc => jo_call ps hl hc
def Sp_pairs_of_rooms (P : Cl1) : Prop := ∀ (h : Hs) (js : List Job), js.length ≤ 400 → Cl h → P [eJobs js] h = some (.tup ((prs js).map eI2), h)
theorem ok_pairs_of_rooms (hL : 100 < L) : Sp_pairs_of_rooms (callD C L ⟨1, 4, false, bPairs⟩) := fun h js hl hc => pairs_call js hl hc
def Sp_told_room_order (P : Cl1) : Prop := ∀ (h : Hs) (js : List Job), js.length ≤ 400 → Cl h → P [eJobs js] h = some (eOrd (told js), h)
theorem prs_len (js : List Job) : (prs js).length = js.length := by unfold prs; rw [List.length_map]
theorem ok_told_room_order {j p : Nat} (hL : 100 < L) (hj : Sp_johnson_order (C j)) (hp : Sp_pairs_of_rooms (C p)) : Sp_told_room_order (callD C L ⟨1, 1, false, bTro j p⟩) := fun h js hl hc => tro_call js (hp h js hl hc) (hj h (prs js) (by rw [prs_len]; exact hl) hc) hc
def Sp_way_length (P : Cl1) : Prop := ∀ (h : Hs) (js : List Job) (o : List Nat) (u v : Nat), (∀ k ∈ o, k < js.length) → o.length ≤ 1000 → Cl h → P [eJobs js, eOrd o, .int u, .int v] h = some (.int (wayV js o u v), h)
theorem ok_way_length (hL : 100 < L) : Sp_way_length (callD C L ⟨4, 7, false, bWay⟩) := fun h js o u v ho hl hc => way_call js o u v ho hl hc
def Sp_wide_span (P : Cl1) : Prop := ∀ (h : Hs) (js : List Job) (o : List Nat), (∀ k ∈ o, k < js.length) → o.length ≤ 1000 → (∀ j ∈ js, JobOk j) → Cl h → P [eJobs js, eOrd o] h = some (.int (W 0 0 (sel js o)), h)
theorem ok_wide_span {p : Nat} (hL : 100 < L) (hp : Sp_way_length (C p)) : Sp_wide_span (callD C L ⟨2, 3, false, bWideSpan p⟩) := fun h js o ho hl hj hc => wspan_call js o (fun u => hp h js o u u ho hl hc) ho hl hj hc
theorem told_len (js : List Job) : (told js).length = js.length := by rw [(told_perm js).length_eq, List.length_range]
def Sp_wide_bound (P : Cl1) : Prop := ∀ (h : Hs) (js : List Job), js.length ≤ 400 → (∀ j ∈ js, JobOk j) → Cl h → P [eJobs js] h = some (.int (W 0 0 (sel js (told js))), h)
theorem ok_wide_bound {w t : Nat} (hL : 100 < L) (hw : Sp_wide_span (C w)) (ht : Sp_told_room_order (C t)) : Sp_wide_bound (callD C L ⟨1, 1, false, bWb w t⟩) := fun h js hl hj hc => wb_call js (ht h js hl hc) (hw h js (told js) (told_lt js) (by rw [told_len]; omega) hj hc) hc
/-! small middles -/
def b_is_small_middle : Sms := (.cons (.asg (.nm 1) (.bi .max1 (.cons false (.lst (.cons false (.lint 0) (.cons true (.comp (.nm 3) (.tup (.cons (.nm 2) (.cons (.nm 3) (.cons (.nm 4) .nil)))) (.seq (.nm 0)) .nil [2, 3, 4]) .nil))) .nil))) (.cons (.ret (.bool false (.bi .all (.cons false (.comp (.cmp .ge (.nm 2) (.nm 1)) (.tup (.cons (.nm 2) (.cons (.nm 3) (.cons (.nm 4) .nil)))) (.seq (.nm 0)) .nil [2, 3, 4]) .nil)) (.cons false (.bi .all (.cons false (.comp (.cmp .ge (.nm 4) (.nm 1)) (.tup (.cons (.nm 2) (.cons (.nm 3) (.cons (.nm 4) .nil)))) (.seq (.nm 0)) .nil [2, 3, 4]) .nil)) .nil))) .nil))
def F_is_small_middle : Fn := ⟨1, 5, false, b_is_small_middle⟩
def b_least_room_span (c0 c1 : Nat) : Sms := (.cons (.ret (.bi .min1 (.cons false (.comp (.call c0 (.cons false (.nm 0) (.cons false (.nm 1) .nil))) (.nm 1) (.seq (.call c1 (.cons false (.bi .len (.cons false (.nm 0) .nil)) .nil))) .nil [1]) .nil))) .nil)
def F_least_room_span (c0 c1 : Nat) : Fn := ⟨1, 2, false, b_least_room_span c0 c1⟩
def b_best_room_orders (c0 c1 : Nat) : Sms := (.cons (.asg (.nm 1) (.call c0 (.cons false (.bi .len (.cons false (.nm 0) .nil)) .nil))) (.cons (.asg (.nm 2) (.comp (.call c1 (.cons false (.nm 0) (.cons false (.nm 3) .nil))) (.nm 3) (.seq (.nm 1)) .nil [3])) (.cons (.ret (.bi .tuple (.cons false (.comp (.nm 3) (.tup (.cons (.nm 3) (.cons (.nm 4) .nil))) (.zip false (.nm 1) (.nm 2)) (.cons false (.cmp .eq (.nm 4) (.bi .min1 (.cons false (.nm 2) .nil))) .nil) [3, 4]) .nil))) .nil)))
def F_best_room_orders (c0 c1 : Nat) : Fn := ⟨1, 5, false, b_best_room_orders c0 c1⟩
def b_law_ends : Sms := (.cons (.par [2, 3] (.cons false (.bin .mul (.lst (.cons false (.lint 0) .nil)) (.bi .len (.cons false (.nm 0) .nil))) (.cons false (.al (.lst .nil)) .nil))) (.cons (.forr (.tup (.cons (.nm 4) (.cons (.nm 5) .nil))) (.enum (.nm 1)) (.cons (.par [7, 8] (.cons false (.lint 0) (.cons false (.al (.bin .mul (.lst (.cons false (.lint 0) .nil)) (.bi .len (.cons false (.nm 0) .nil)))) .nil))) (.cons (.forr (.nm 6) (.seq (.nm 5)) (.cons (.asg (.nm 7) (.bin .add (.bi .max2 (.cons false (.nm 7) (.cons false (.sub (.nm 2) (.nm 6)) .nil))) (.sub (.sub (.nm 0) (.nm 6)) (.nm 4)))) (.cons (.asg (.sub (.nm 8) (.nm 6)) (.nm 7)) .nil))) (.cons (.expr (.mth .append (.nm 3) (.cons false (.nm 8) .nil))) (.cons (.asg (.nm 2) (.nm 8)) .nil))))) (.cons (.ret (.nm 3)) .nil)))
def F_law_ends : Fn := ⟨2, 9, false, b_law_ends⟩
def b_law_span (c0 : Nat) : Sms := (.cons (.ret (.bi .max1 (.cons false (.bin .add (.sub (.call c0 (.cons false (.nm 0) (.cons false (.tup (.cons false (.nm 1) (.cons false (.nm 1) (.cons false (.nm 1) .nil)))) .nil))) (.lint 2)) (.lst (.cons false (.lint 0) .nil))) .nil))) .nil)
def F_law_span (c0 : Nat) : Fn := ⟨2, 2, false, b_law_span c0⟩
def b_law_small : Sms := (.cons (.asg (.nm 1) (.bi .max1 (.cons false (.bin .add (.comp (.nm 4) (.tup (.cons (.nm 3) (.cons (.nm 4) (.cons (.nm 5) .nil)))) (.seq (.nm 0)) .nil [3, 4, 5]) (.lst (.cons false (.lint 0) .nil))) .nil))) (.cons (.ret (.bool false (.cmp .eq (.comp (.lint 1) (.nm 2) (.seq (.nm 0)) (.cons false (.cmp .lt (.sub (.nm 2) (.lint 0)) (.nm 1)) .nil) [2]) (.lst .nil)) (.cons false (.cmp .eq (.comp (.lint 1) (.nm 2) (.seq (.nm 0)) (.cons false (.cmp .lt (.sub (.nm 2) (.lint 2)) (.nm 1)) .nil) [2]) (.lst .nil)) .nil))) .nil))
def F_law_small : Fn := ⟨1, 6, false, b_law_small⟩
def mostB (js : List Job) : Int := maxI 0 (js.map fun j => j.2.1)
def small (js : List Job) : Bool := js.all (fun j => decide (mostB js ≤ j.1)) || js.all (fun j => decide (mostB js ≤ j.2.2))
def Sp_is_small_middle (P : Cl1) : Prop := ∀ (h : Hs) (js : List Job), js.length ≤ 1000 → Cl h → P [eJobs js] h = some (.bl (small js), h)
theorem ok_is_small_middle (hL : 100 < L) : Sp_is_small_middle (callD C L F_is_small_middle) := by
  intro h js hl hc
  refine call_pure rfl rfl hc ?_
  simp only [F_is_small_middle, b_is_small_middle, eJobs, ↓wE_nm, ↓wV_0, ↓wV_s, ↓wE_non, ↓wE_lbl, ↓wE_int, ↓wE_str, ↓wA_nil, ↓wA_cons, ↓wA_star, ↓wE_bin, ↓wE_neg, ↓wIn_i, ↓wE_nt, ↓wBl_b, ↓wE_and, ↓wE_or, ↓wB_one, ↓wB_and, ↓wB_or, ↓wIte_t, ↓wIte_f, ↓wE_cmp, ↓wE_cmp2, ↓wE_ife, ↓wE_call, ↓wE_bi, ↓wE_mth, ↓wE_sub, ↓wE_slc, ↓wE_comp, ↓wE_dct, ↓wE_dnewt, ↓wE_al, ↓wAl_lst, ↓wAl_dk, ↓wAl_dt, ↓wT_nm, ↓wX_0, ↓wX_s, ↓wT_tup, ↓wTs_nil, ↓wTs_cons, ↓wT_sub, ↓wI_seq, ↓wSeq_tup, ↓wSeq_lst, ↓wSeq_ref, ↓wSeq_scr, ↓wI_rng, ↓wRng_1, ↓wRng_2, ↓wI_enum, ↓wEnum_tup, ↓wEnum_lst, ↓wEnum_ref, ↓wI_zip, ↓wZip_tup, ↓wZip_lst, ↓wSs_nil, ↓wSs_cons, ↓wS_asg, ↓wS_par, ↓wP_nil, ↓wP_cons, ↓wS_expr, ↓wS_ret, ↓wS_retN, ↓wS_iff, ↓wIs_t, ↓wIs_f, ↓wS_for, ↓wS_whl, ↓wO_some, ↓wO_none, ↓wO_map, ↓wO_bind, ↓wO_chk, ↓wW_nil, ↓wW_cons, ↓b_addLR, ↓b_addRL, ↓m_append, ↓m_extend, ↓m_pop, ↓st_ref, ↓sb_ref, ↓len_ref, ↓wE_dcomp, ↓wSt_l, ↓wSt_i, ↓wSt_s, ↓wSt_t, ↓wSb_l, ↓wSb_i, ↓wSb_t, ↓wLn_l, ↓wLn_d, ↓wLn_t, ↓wO_ixn, wE_tupP, wE_lstP, plain_nil, plain_cons, wE_lstT, wE_tupT, starry_t, starry_f, decide_true, decide_false, Bool.not_false, Bool.not_true, Bool.true_and, Bool.and_true, Bool.false_and, Bool.and_false, Bool.or_false, Bool.false_or, Bool.or_true, Bool.true_or, Bool.or_self, wO_some, b_add, b_sub, b_mul, b_fdiv, b_mod, b_addT, b_addL, b_mulL, c_lt, c_le, c_gt, c_ge, c_eq, c_ne, c_eqS, c_neS, c_is_int, c_is_non, c_is_tup, c_isnt_int, c_isnt_non, c_isnt_tup, u_lenL, u_lenT, u_abs, u_int, u_intB, u_max2, u_min2, is_map, is_int, is_nil, is_cons, is_app, bs_map, u_sum, u_all, u_any, u_max1, u_min1, u_listT, u_listL, u_listR, u_tupL, u_tupT, u_tupR, u_vals, u_rng1, x_tup, x_lst, x_tupN, x_lstN, x_lstE, x_tupE, x_dkI, x_dkS, wIte_pand, wIte_por, wIte_int, u_repB, u_repN, x_t0, x_l0, wSb_l0, x_t1, x_l1, wSb_l1, x_t2, x_l2, wSb_l2, x_t3, x_l3, wSb_l3, x_t4, x_l4, wSb_l4, x_t5, x_l5, wSb_l5, s_lT0, s_lL0, s_hT0, s_hL0, s_lT1, s_lL1, s_hT1, s_hL1, s_lT2, s_lL2, s_hT2, s_hL2, s_loT, s_loL, s_hiT, s_hiL, s_lohiT, s_lohiL, s_revT, s_revL, getS_t, getS_l, getL_ref, getDk_ref, isL_l, isDk_d, ap_0, ap_k, aps_0, aps_k, mok_append, mok_extend, mok_pop, mok_popat, Option.map_some, Option.map_none, Option.bind_some, Option.isSome_some, List.cons_append, List.nil_append, List.append_nil, List.length_map, List.length_append, List.length_cons, List.length_nil, List.set_cons_zero, List.set_cons_succ, List.getElem?_cons_zero, List.getElem?_cons_succ, Int.toNat_natCast, true_and, and_true, List.append_assoc, Nat.zero_add, Nat.reduceAdd, List.map_cons, List.map_nil, List.replicate]
  refine wComp_pure (fun j : Job => .int j.2.1) ?_ ?_
  · intro j _
    simp only [↓wE_nm, ↓wV_0, ↓wV_s, ↓wE_non, ↓wE_lbl, ↓wE_int, ↓wE_str, ↓wA_nil, ↓wA_cons, ↓wA_star, ↓wE_bin, ↓wE_neg, ↓wIn_i, ↓wE_nt, ↓wBl_b, ↓wE_and, ↓wE_or, ↓wB_one, ↓wB_and, ↓wB_or, ↓wIte_t, ↓wIte_f, ↓wE_cmp, ↓wE_cmp2, ↓wE_ife, ↓wE_call, ↓wE_bi, ↓wE_mth, ↓wE_sub, ↓wE_slc, ↓wE_comp, ↓wE_dct, ↓wE_dnewt, ↓wE_al, ↓wAl_lst, ↓wAl_dk, ↓wAl_dt, ↓wT_nm, ↓wX_0, ↓wX_s, ↓wT_tup, ↓wTs_nil, ↓wTs_cons, ↓wT_sub, ↓wI_seq, ↓wSeq_tup, ↓wSeq_lst, ↓wSeq_ref, ↓wSeq_scr, ↓wI_rng, ↓wRng_1, ↓wRng_2, ↓wI_enum, ↓wEnum_tup, ↓wEnum_lst, ↓wEnum_ref, ↓wI_zip, ↓wZip_tup, ↓wZip_lst, ↓wSs_nil, ↓wSs_cons, ↓wS_asg, ↓wS_par, ↓wP_nil, ↓wP_cons, ↓wS_expr, ↓wS_ret, ↓wS_retN, ↓wS_iff, ↓wIs_t, ↓wIs_f, ↓wS_for, ↓wS_whl, ↓wO_some, ↓wO_none, ↓wO_map, ↓wO_bind, ↓wO_chk, ↓wW_nil, ↓wW_cons, ↓b_addLR, ↓b_addRL, ↓m_append, ↓m_extend, ↓m_pop, ↓st_ref, ↓sb_ref, ↓len_ref, ↓wE_dcomp, ↓wSt_l, ↓wSt_i, ↓wSt_s, ↓wSt_t, ↓wSb_l, ↓wSb_i, ↓wSb_t, ↓wLn_l, ↓wLn_d, ↓wLn_t, ↓wO_ixn, wE_tupP, wE_lstP, plain_nil, plain_cons, wE_lstT, wE_tupT, starry_t, starry_f, decide_true, decide_false, Bool.not_false, Bool.not_true, Bool.true_and, Bool.and_true, Bool.false_and, Bool.and_false, Bool.or_false, Bool.false_or, Bool.or_true, Bool.true_or, Bool.or_self, wO_some, b_add, b_sub, b_mul, b_fdiv, b_mod, b_addT, b_addL, b_mulL, c_lt, c_le, c_gt, c_ge, c_eq, c_ne, c_eqS, c_neS, c_is_int, c_is_non, c_is_tup, c_isnt_int, c_isnt_non, c_isnt_tup, u_lenL, u_lenT, u_abs, u_int, u_intB, u_max2, u_min2, is_map, is_int, is_nil, is_cons, is_app, bs_map, u_sum, u_all, u_any, u_max1, u_min1, u_listT, u_listL, u_listR, u_tupL, u_tupT, u_tupR, u_vals, u_rng1, x_tup, x_lst, x_tupN, x_lstN, x_lstE, x_tupE, x_dkI, x_dkS, wIte_pand, wIte_por, wIte_int, u_repB, u_repN, x_t0, x_l0, wSb_l0, x_t1, x_l1, wSb_l1, x_t2, x_l2, wSb_l2, x_t3, x_l3, wSb_l3, x_t4, x_l4, wSb_l4, x_t5, x_l5, wSb_l5, s_lT0, s_lL0, s_hT0, s_hL0, s_lT1, s_lL1, s_hT1, s_hL1, s_lT2, s_lL2, s_hT2, s_hL2, s_loT, s_loL, s_hiT, s_hiL, s_lohiT, s_lohiL, s_revT, s_revL, getS_t, getS_l, getL_ref, getDk_ref, isL_l, isDk_d, ap_0, ap_k, aps_0, aps_k, mok_append, mok_extend, mok_pop, mok_popat, Option.map_some, Option.map_none, Option.bind_some, Option.isSome_some, List.cons_append, List.nil_append, List.append_nil, List.length_map, List.length_append, List.length_cons, List.length_nil, List.set_cons_zero, List.set_cons_succ, List.getElem?_cons_zero, List.getElem?_cons_succ, Int.toNat_natCast, true_and, and_true, List.append_assoc, Nat.zero_add, Nat.reduceAdd, eJob]
  refine ⟨fits_of (by omega), ?_⟩
  simp only [↓wE_nm, ↓wV_0, ↓wV_s, ↓wE_non, ↓wE_lbl, ↓wE_int, ↓wE_str, ↓wA_nil, ↓wA_cons, ↓wA_star, ↓wE_bin, ↓wE_neg, ↓wIn_i, ↓wE_nt, ↓wBl_b, ↓wE_and, ↓wE_or, ↓wB_one, ↓wB_and, ↓wB_or, ↓wIte_t, ↓wIte_f, ↓wE_cmp, ↓wE_cmp2, ↓wE_ife, ↓wE_call, ↓wE_bi, ↓wE_mth, ↓wE_sub, ↓wE_slc, ↓wE_comp, ↓wE_dct, ↓wE_dnewt, ↓wE_al, ↓wAl_lst, ↓wAl_dk, ↓wAl_dt, ↓wT_nm, ↓wX_0, ↓wX_s, ↓wT_tup, ↓wTs_nil, ↓wTs_cons, ↓wT_sub, ↓wI_seq, ↓wSeq_tup, ↓wSeq_lst, ↓wSeq_ref, ↓wSeq_scr, ↓wI_rng, ↓wRng_1, ↓wRng_2, ↓wI_enum, ↓wEnum_tup, ↓wEnum_lst, ↓wEnum_ref, ↓wI_zip, ↓wZip_tup, ↓wZip_lst, ↓wSs_nil, ↓wSs_cons, ↓wS_asg, ↓wS_par, ↓wP_nil, ↓wP_cons, ↓wS_expr, ↓wS_ret, ↓wS_retN, ↓wS_iff, ↓wIs_t, ↓wIs_f, ↓wS_for, ↓wS_whl, ↓wO_some, ↓wO_none, ↓wO_map, ↓wO_bind, ↓wO_chk, ↓wW_nil, ↓wW_cons, ↓b_addLR, ↓b_addRL, ↓m_append, ↓m_extend, ↓m_pop, ↓st_ref, ↓sb_ref, ↓len_ref, ↓wE_dcomp, ↓wSt_l, ↓wSt_i, ↓wSt_s, ↓wSt_t, ↓wSb_l, ↓wSb_i, ↓wSb_t, ↓wLn_l, ↓wLn_d, ↓wLn_t, ↓wO_ixn, wE_tupP, wE_lstP, plain_nil, plain_cons, wE_lstT, wE_tupT, starry_t, starry_f, decide_true, decide_false, Bool.not_false, Bool.not_true, Bool.true_and, Bool.and_true, Bool.false_and, Bool.and_false, Bool.or_false, Bool.false_or, Bool.or_true, Bool.true_or, Bool.or_self, wO_some, b_add, b_sub, b_mul, b_fdiv, b_mod, b_addT, b_addL, b_mulL, c_lt, c_le, c_gt, c_ge, c_eq, c_ne, c_eqS, c_neS, c_is_int, c_is_non, c_is_tup, c_isnt_int, c_isnt_non, c_isnt_tup, u_lenL, u_lenT, u_abs, u_int, u_intB, u_max2, u_min2, is_map, is_int, is_nil, is_cons, is_app, bs_map, u_sum, u_all, u_any, u_max1, u_min1, u_listT, u_listL, u_listR, u_tupL, u_tupT, u_tupR, u_vals, u_rng1, x_tup, x_lst, x_tupN, x_lstN, x_lstE, x_tupE, x_dkI, x_dkS, wIte_pand, wIte_por, wIte_int, u_repB, u_repN, x_t0, x_l0, wSb_l0, x_t1, x_l1, wSb_l1, x_t2, x_l2, wSb_l2, x_t3, x_l3, wSb_l3, x_t4, x_l4, wSb_l4, x_t5, x_l5, wSb_l5, s_lT0, s_lL0, s_hT0, s_hL0, s_lT1, s_lL1, s_hT1, s_hL1, s_lT2, s_lL2, s_hT2, s_hL2, s_loT, s_loL, s_hiT, s_hiL, s_lohiT, s_lohiL, s_revT, s_revL, getS_t, getS_l, getL_ref, getDk_ref, isL_l, isDk_d, ap_0, ap_k, aps_0, aps_k, mok_append, mok_extend, mok_pop, mok_popat, Option.map_some, Option.map_none, Option.bind_some, Option.isSome_some, List.cons_append, List.nil_append, List.append_nil, List.length_map, List.length_append, List.length_cons, List.length_nil, List.set_cons_zero, List.set_cons_succ, List.getElem?_cons_zero, List.getElem?_cons_succ, Int.toNat_natCast, true_and, and_true, List.append_assoc, Nat.zero_add, Nat.reduceAdd, maxO]
  refine ⟨fits_of (by omega), wComp_pure (fun j : Job => .bl (decide (mostB js ≤ j.1))) ?_ ?_⟩
  · intro j _
    simp only [↓wE_nm, ↓wV_0, ↓wV_s, ↓wE_non, ↓wE_lbl, ↓wE_int, ↓wE_str, ↓wA_nil, ↓wA_cons, ↓wA_star, ↓wE_bin, ↓wE_neg, ↓wIn_i, ↓wE_nt, ↓wBl_b, ↓wE_and, ↓wE_or, ↓wB_one, ↓wB_and, ↓wB_or, ↓wIte_t, ↓wIte_f, ↓wE_cmp, ↓wE_cmp2, ↓wE_ife, ↓wE_call, ↓wE_bi, ↓wE_mth, ↓wE_sub, ↓wE_slc, ↓wE_comp, ↓wE_dct, ↓wE_dnewt, ↓wE_al, ↓wAl_lst, ↓wAl_dk, ↓wAl_dt, ↓wT_nm, ↓wX_0, ↓wX_s, ↓wT_tup, ↓wTs_nil, ↓wTs_cons, ↓wT_sub, ↓wI_seq, ↓wSeq_tup, ↓wSeq_lst, ↓wSeq_ref, ↓wSeq_scr, ↓wI_rng, ↓wRng_1, ↓wRng_2, ↓wI_enum, ↓wEnum_tup, ↓wEnum_lst, ↓wEnum_ref, ↓wI_zip, ↓wZip_tup, ↓wZip_lst, ↓wSs_nil, ↓wSs_cons, ↓wS_asg, ↓wS_par, ↓wP_nil, ↓wP_cons, ↓wS_expr, ↓wS_ret, ↓wS_retN, ↓wS_iff, ↓wIs_t, ↓wIs_f, ↓wS_for, ↓wS_whl, ↓wO_some, ↓wO_none, ↓wO_map, ↓wO_bind, ↓wO_chk, ↓wW_nil, ↓wW_cons, ↓b_addLR, ↓b_addRL, ↓m_append, ↓m_extend, ↓m_pop, ↓st_ref, ↓sb_ref, ↓len_ref, ↓wE_dcomp, ↓wSt_l, ↓wSt_i, ↓wSt_s, ↓wSt_t, ↓wSb_l, ↓wSb_i, ↓wSb_t, ↓wLn_l, ↓wLn_d, ↓wLn_t, ↓wO_ixn, wE_tupP, wE_lstP, plain_nil, plain_cons, wE_lstT, wE_tupT, starry_t, starry_f, decide_true, decide_false, Bool.not_false, Bool.not_true, Bool.true_and, Bool.and_true, Bool.false_and, Bool.and_false, Bool.or_false, Bool.false_or, Bool.or_true, Bool.true_or, Bool.or_self, wO_some, b_add, b_sub, b_mul, b_fdiv, b_mod, b_addT, b_addL, b_mulL, c_lt, c_le, c_gt, c_ge, c_eq, c_ne, c_eqS, c_neS, c_is_int, c_is_non, c_is_tup, c_isnt_int, c_isnt_non, c_isnt_tup, u_lenL, u_lenT, u_abs, u_int, u_intB, u_max2, u_min2, is_map, is_int, is_nil, is_cons, is_app, bs_map, u_sum, u_all, u_any, u_max1, u_min1, u_listT, u_listL, u_listR, u_tupL, u_tupT, u_tupR, u_vals, u_rng1, x_tup, x_lst, x_tupN, x_lstN, x_lstE, x_tupE, x_dkI, x_dkS, wIte_pand, wIte_por, wIte_int, u_repB, u_repN, x_t0, x_l0, wSb_l0, x_t1, x_l1, wSb_l1, x_t2, x_l2, wSb_l2, x_t3, x_l3, wSb_l3, x_t4, x_l4, wSb_l4, x_t5, x_l5, wSb_l5, s_lT0, s_lL0, s_hT0, s_hL0, s_lT1, s_lL1, s_hT1, s_hL1, s_lT2, s_lL2, s_hT2, s_hL2, s_loT, s_loL, s_hiT, s_hiL, s_lohiT, s_lohiL, s_revT, s_revL, getS_t, getS_l, getL_ref, getDk_ref, isL_l, isDk_d, ap_0, ap_k, aps_0, aps_k, mok_append, mok_extend, mok_pop, mok_popat, Option.map_some, Option.map_none, Option.bind_some, Option.isSome_some, List.cons_append, List.nil_append, List.append_nil, List.length_map, List.length_append, List.length_cons, List.length_nil, List.set_cons_zero, List.set_cons_succ, List.getElem?_cons_zero, List.getElem?_cons_succ, Int.toNat_natCast, true_and, and_true, List.append_assoc, Nat.zero_add, Nat.reduceAdd, eJob]
    rfl
  simp only [↓wE_nm, ↓wV_0, ↓wV_s, ↓wE_non, ↓wE_lbl, ↓wE_int, ↓wE_str, ↓wA_nil, ↓wA_cons, ↓wA_star, ↓wE_bin, ↓wE_neg, ↓wIn_i, ↓wE_nt, ↓wBl_b, ↓wE_and, ↓wE_or, ↓wB_one, ↓wB_and, ↓wB_or, ↓wIte_t, ↓wIte_f, ↓wE_cmp, ↓wE_cmp2, ↓wE_ife, ↓wE_call, ↓wE_bi, ↓wE_mth, ↓wE_sub, ↓wE_slc, ↓wE_comp, ↓wE_dct, ↓wE_dnewt, ↓wE_al, ↓wAl_lst, ↓wAl_dk, ↓wAl_dt, ↓wT_nm, ↓wX_0, ↓wX_s, ↓wT_tup, ↓wTs_nil, ↓wTs_cons, ↓wT_sub, ↓wI_seq, ↓wSeq_tup, ↓wSeq_lst, ↓wSeq_ref, ↓wSeq_scr, ↓wI_rng, ↓wRng_1, ↓wRng_2, ↓wI_enum, ↓wEnum_tup, ↓wEnum_lst, ↓wEnum_ref, ↓wI_zip, ↓wZip_tup, ↓wZip_lst, ↓wSs_nil, ↓wSs_cons, ↓wS_asg, ↓wS_par, ↓wP_nil, ↓wP_cons, ↓wS_expr, ↓wS_ret, ↓wS_retN, ↓wS_iff, ↓wIs_t, ↓wIs_f, ↓wS_for, ↓wS_whl, ↓wO_some, ↓wO_none, ↓wO_map, ↓wO_bind, ↓wO_chk, ↓wW_nil, ↓wW_cons, ↓b_addLR, ↓b_addRL, ↓m_append, ↓m_extend, ↓m_pop, ↓st_ref, ↓sb_ref, ↓len_ref, ↓wE_dcomp, ↓wSt_l, ↓wSt_i, ↓wSt_s, ↓wSt_t, ↓wSb_l, ↓wSb_i, ↓wSb_t, ↓wLn_l, ↓wLn_d, ↓wLn_t, ↓wO_ixn, wE_tupP, wE_lstP, plain_nil, plain_cons, wE_lstT, wE_tupT, starry_t, starry_f, decide_true, decide_false, Bool.not_false, Bool.not_true, Bool.true_and, Bool.and_true, Bool.false_and, Bool.and_false, Bool.or_false, Bool.false_or, Bool.or_true, Bool.true_or, Bool.or_self, wO_some, b_add, b_sub, b_mul, b_fdiv, b_mod, b_addT, b_addL, b_mulL, c_lt, c_le, c_gt, c_ge, c_eq, c_ne, c_eqS, c_neS, c_is_int, c_is_non, c_is_tup, c_isnt_int, c_isnt_non, c_isnt_tup, u_lenL, u_lenT, u_abs, u_int, u_intB, u_max2, u_min2, is_map, is_int, is_nil, is_cons, is_app, bs_map, u_sum, u_all, u_any, u_max1, u_min1, u_listT, u_listL, u_listR, u_tupL, u_tupT, u_tupR, u_vals, u_rng1, x_tup, x_lst, x_tupN, x_lstN, x_lstE, x_tupE, x_dkI, x_dkS, wIte_pand, wIte_por, wIte_int, u_repB, u_repN, x_t0, x_l0, wSb_l0, x_t1, x_l1, wSb_l1, x_t2, x_l2, wSb_l2, x_t3, x_l3, wSb_l3, x_t4, x_l4, wSb_l4, x_t5, x_l5, wSb_l5, s_lT0, s_lL0, s_hT0, s_hL0, s_lT1, s_lL1, s_hT1, s_hL1, s_lT2, s_lL2, s_hT2, s_hL2, s_loT, s_loL, s_hiT, s_hiL, s_lohiT, s_lohiL, s_revT, s_revL, getS_t, getS_l, getL_ref, getDk_ref, isL_l, isDk_d, ap_0, ap_k, aps_0, aps_k, mok_append, mok_extend, mok_pop, mok_popat, Option.map_some, Option.map_none, Option.bind_some, Option.isSome_some, List.cons_append, List.nil_append, List.append_nil, List.length_map, List.length_append, List.length_cons, List.length_nil, List.set_cons_zero, List.set_cons_succ, List.getElem?_cons_zero, List.getElem?_cons_succ, Int.toNat_natCast, true_and, and_true, List.append_assoc, Nat.zero_add, Nat.reduceAdd]
  refine ⟨fits_of (by omega), wIte_split (fun h1 => ?_) fun h1 => ?_⟩
  · have : small js = true := by
      unfold small
      rw [Bool.or_eq_true]
      left
      simpa [List.all_map] using h1
    rw [this]
    exact ret_low (.bl _)
  · refine wComp_pure (fun j : Job => .bl (decide (mostB js ≤ j.2.2))) ?_ ?_
    · intro j _
      simp only [↓wE_nm, ↓wV_0, ↓wV_s, ↓wE_non, ↓wE_lbl, ↓wE_int, ↓wE_str, ↓wA_nil, ↓wA_cons, ↓wA_star, ↓wE_bin, ↓wE_neg, ↓wIn_i, ↓wE_nt, ↓wBl_b, ↓wE_and, ↓wE_or, ↓wB_one, ↓wB_and, ↓wB_or, ↓wIte_t, ↓wIte_f, ↓wE_cmp, ↓wE_cmp2, ↓wE_ife, ↓wE_call, ↓wE_bi, ↓wE_mth, ↓wE_sub, ↓wE_slc, ↓wE_comp, ↓wE_dct, ↓wE_dnewt, ↓wE_al, ↓wAl_lst, ↓wAl_dk, ↓wAl_dt, ↓wT_nm, ↓wX_0, ↓wX_s, ↓wT_tup, ↓wTs_nil, ↓wTs_cons, ↓wT_sub, ↓wI_seq, ↓wSeq_tup, ↓wSeq_lst, ↓wSeq_ref, ↓wSeq_scr, ↓wI_rng, ↓wRng_1, ↓wRng_2, ↓wI_enum, ↓wEnum_tup, ↓wEnum_lst, ↓wEnum_ref, ↓wI_zip, ↓wZip_tup, ↓wZip_lst, ↓wSs_nil, ↓wSs_cons, ↓wS_asg, ↓wS_par, ↓wP_nil, ↓wP_cons, ↓wS_expr, ↓wS_ret, ↓wS_retN, ↓wS_iff, ↓wIs_t, ↓wIs_f, ↓wS_for, ↓wS_whl, ↓wO_some, ↓wO_none, ↓wO_map, ↓wO_bind, ↓wO_chk, ↓wW_nil, ↓wW_cons, ↓b_addLR, ↓b_addRL, ↓m_append, ↓m_extend, ↓m_pop, ↓st_ref, ↓sb_ref, ↓len_ref, ↓wE_dcomp, ↓wSt_l, ↓wSt_i, ↓wSt_s, ↓wSt_t, ↓wSb_l, ↓wSb_i, ↓wSb_t, ↓wLn_l, ↓wLn_d, ↓wLn_t, ↓wO_ixn, wE_tupP, wE_lstP, plain_nil, plain_cons, wE_lstT, wE_tupT, starry_t, starry_f, decide_true, decide_false, Bool.not_false, Bool.not_true, Bool.true_and, Bool.and_true, Bool.false_and, Bool.and_false, Bool.or_false, Bool.false_or, Bool.or_true, Bool.true_or, Bool.or_self, wO_some, b_add, b_sub, b_mul, b_fdiv, b_mod, b_addT, b_addL, b_mulL, c_lt, c_le, c_gt, c_ge, c_eq, c_ne, c_eqS, c_neS, c_is_int, c_is_non, c_is_tup, c_isnt_int, c_isnt_non, c_isnt_tup, u_lenL, u_lenT, u_abs, u_int, u_intB, u_max2, u_min2, is_map, is_int, is_nil, is_cons, is_app, bs_map, u_sum, u_all, u_any, u_max1, u_min1, u_listT, u_listL, u_listR, u_tupL, u_tupT, u_tupR, u_vals, u_rng1, x_tup, x_lst, x_tupN, x_lstN, x_lstE, x_tupE, x_dkI, x_dkS, wIte_pand, wIte_por, wIte_int, u_repB, u_repN, x_t0, x_l0, wSb_l0, x_t1, x_l1, wSb_l1, x_t2, x_l2, wSb_l2, x_t3, x_l3, wSb_l3, x_t4, x_l4, wSb_l4, x_t5, x_l5, wSb_l5, s_lT0, s_lL0, s_hT0, s_hL0, s_lT1, s_lL1, s_hT1, s_hL1, s_lT2, s_lL2, s_hT2, s_hL2, s_loT, s_loL, s_hiT, s_hiL, s_lohiT, s_lohiL, s_revT, s_revL, getS_t, getS_l, getL_ref, getDk_ref, isL_l, isDk_d, ap_0, ap_k, aps_0, aps_k, mok_append, mok_extend, mok_pop, mok_popat, Option.map_some, Option.map_none, Option.bind_some, Option.isSome_some, List.cons_append, List.nil_append, List.append_nil, List.length_map, List.length_append, List.length_cons, List.length_nil, List.set_cons_zero, List.set_cons_succ, List.getElem?_cons_zero, List.getElem?_cons_succ, Int.toNat_natCast, true_and, and_true, List.append_assoc, Nat.zero_add, Nat.reduceAdd, eJob]
      rfl
    simp only [↓wE_nm, ↓wV_0, ↓wV_s, ↓wE_non, ↓wE_lbl, ↓wE_int, ↓wE_str, ↓wA_nil, ↓wA_cons, ↓wA_star, ↓wE_bin, ↓wE_neg, ↓wIn_i, ↓wE_nt, ↓wBl_b, ↓wE_and, ↓wE_or, ↓wB_one, ↓wB_and, ↓wB_or, ↓wIte_t, ↓wIte_f, ↓wE_cmp, ↓wE_cmp2, ↓wE_ife, ↓wE_call, ↓wE_bi, ↓wE_mth, ↓wE_sub, ↓wE_slc, ↓wE_comp, ↓wE_dct, ↓wE_dnewt, ↓wE_al, ↓wAl_lst, ↓wAl_dk, ↓wAl_dt, ↓wT_nm, ↓wX_0, ↓wX_s, ↓wT_tup, ↓wTs_nil, ↓wTs_cons, ↓wT_sub, ↓wI_seq, ↓wSeq_tup, ↓wSeq_lst, ↓wSeq_ref, ↓wSeq_scr, ↓wI_rng, ↓wRng_1, ↓wRng_2, ↓wI_enum, ↓wEnum_tup, ↓wEnum_lst, ↓wEnum_ref, ↓wI_zip, ↓wZip_tup, ↓wZip_lst, ↓wSs_nil, ↓wSs_cons, ↓wS_asg, ↓wS_par, ↓wP_nil, ↓wP_cons, ↓wS_expr, ↓wS_ret, ↓wS_retN, ↓wS_iff, ↓wIs_t, ↓wIs_f, ↓wS_for, ↓wS_whl, ↓wO_some, ↓wO_none, ↓wO_map, ↓wO_bind, ↓wO_chk, ↓wW_nil, ↓wW_cons, ↓b_addLR, ↓b_addRL, ↓m_append, ↓m_extend, ↓m_pop, ↓st_ref, ↓sb_ref, ↓len_ref, ↓wE_dcomp, ↓wSt_l, ↓wSt_i, ↓wSt_s, ↓wSt_t, ↓wSb_l, ↓wSb_i, ↓wSb_t, ↓wLn_l, ↓wLn_d, ↓wLn_t, ↓wO_ixn, wE_tupP, wE_lstP, plain_nil, plain_cons, wE_lstT, wE_tupT, starry_t, starry_f, decide_true, decide_false, Bool.not_false, Bool.not_true, Bool.true_and, Bool.and_true, Bool.false_and, Bool.and_false, Bool.or_false, Bool.false_or, Bool.or_true, Bool.true_or, Bool.or_self, wO_some, b_add, b_sub, b_mul, b_fdiv, b_mod, b_addT, b_addL, b_mulL, c_lt, c_le, c_gt, c_ge, c_eq, c_ne, c_eqS, c_neS, c_is_int, c_is_non, c_is_tup, c_isnt_int, c_isnt_non, c_isnt_tup, u_lenL, u_lenT, u_abs, u_int, u_intB, u_max2, u_min2, is_map, is_int, is_nil, is_cons, is_app, bs_map, u_sum, u_all, u_any, u_max1, u_min1, u_listT, u_listL, u_listR, u_tupL, u_tupT, u_tupR, u_vals, u_rng1, x_tup, x_lst, x_tupN, x_lstN, x_lstE, x_tupE, x_dkI, x_dkS, wIte_pand, wIte_por, wIte_int, u_repB, u_repN, x_t0, x_l0, wSb_l0, x_t1, x_l1, wSb_l1, x_t2, x_l2, wSb_l2, x_t3, x_l3, wSb_l3, x_t4, x_l4, wSb_l4, x_t5, x_l5, wSb_l5, s_lT0, s_lL0, s_hT0, s_hL0, s_lT1, s_lL1, s_hT1, s_hL1, s_lT2, s_lL2, s_hT2, s_hL2, s_loT, s_loL, s_hiT, s_hiL, s_lohiT, s_lohiL, s_revT, s_revL, getS_t, getS_l, getL_ref, getDk_ref, isL_l, isDk_d, ap_0, ap_k, aps_0, aps_k, mok_append, mok_extend, mok_pop, mok_popat, Option.map_some, Option.map_none, Option.bind_some, Option.isSome_some, List.cons_append, List.nil_append, List.append_nil, List.length_map, List.length_append, List.length_cons, List.length_nil, List.set_cons_zero, List.set_cons_succ, List.getElem?_cons_zero, List.getElem?_cons_succ, Int.toNat_natCast, true_and, and_true, List.append_assoc, Nat.zero_add, Nat.reduceAdd]
    refine ⟨fits_of (by omega), ?_⟩
    have : ((js.map fun j => decide (mostB js ≤ j.2.2)).all id) = small js := by
      unfold small
      have e1 : js.all (fun j => decide (mostB js ≤ j.1)) = false := by
        simpa [List.all_map] using h1
      rw [e1, Bool.false_or, List.all_map]
      rfl
    rw [this]
    exact ret_low (.bl _)
/-! all orders -/
theorem ord_lt {n : Nat} {o : List Nat} (h : o ∈ ords n n) : ∀ k ∈ o, k < n := fun k hk => List.mem_range.mp ((ords_ok h).mem_iff.mp hk)
theorem ord_nd {n : Nat} {o : List Nat} (h : o ∈ ords n n) : o.Nodup := (ords_ok h).nodup_iff.mpr List.nodup_range
theorem ords_le {n : Nat} (h : n ≤ 6) : (ords n n).length ≤ 46656 := Nat.le_trans (ords_len _ _) (pow6 h (Nat.le_refl _))
def sp1 (js : List Job) (o : List Nat) : Int := spO js o o o
/-- the least of some -/
def mnI : List Int → Int
  | [] => 0
  | i :: r => minI i r
theorem minI_le : ∀ (l : List Int) (a : Int), minI a l ≤ a ∧ ∀ x ∈ l, minI a l ≤ x
  | [], a => ⟨Int.le_refl _, fun x hx => by cases hx⟩
  | b :: r, a => by
    obtain ⟨h1, h2⟩ := minI_le r (min a b)
    simp only [minI]
    refine ⟨by omega, fun x hx => ?_⟩
    rcases List.mem_cons.mp hx with rfl | hx
    · omega
    · exact h2 x hx
theorem minI_mem : ∀ (l : List Int) (a : Int), minI a l = a ∨ minI a l ∈ l
  | [], a => .inl rfl
  | b :: r, a => by
    simp only [minI]
    rcases minI_mem r (min a b) with h | h
    · rw [h]
      rcases Int.le_total a b with z | z
      · left; omega
      · right
        have : min a b = b := by omega
        rw [this]
        exact List.mem_cons_self
    · exact .inr (List.mem_cons_of_mem _ h)
theorem mnI_le {l : List Int} {x : Int} (h : x ∈ l) : mnI l ≤ x := by
  cases l with
  | nil => cases h
  | cons a r =>
    obtain ⟨h1, h2⟩ := minI_le r a
    rcases List.mem_cons.mp h with rfl | h
    · exact h1
    · exact h2 x h
theorem mnI_mem {l : List Int} (h : l ≠ []) : mnI l ∈ l := by
  cases l with
  | nil => exact absurd rfl h
  | cons a r =>
    rcases minI_mem r a with z | z
    · show minI a r ∈ _
      rw [z]
      exact List.mem_cons_self
    · exact List.mem_cons_of_mem _ z
theorem minO_mn {l : List Int} (h : l ≠ []) : minO l = some (.int (mnI l)) := by
  cases l with
  | nil => exact absurd rfl h
  | cons a r => rfl
theorem ords_ne (n : Nat) : ords n n ≠ [] := fun h => by
  have : List.range n ∈ ords n n := mem_ords.mpr ⟨List.nodup_range, List.length_range, fun x hx => List.mem_range.mp hx⟩
  rw [h] at this
  cases this
def leastR (js : List Job) : Int := mnI ((ords js.length js.length).map (sp1 js))
def Sp_least_room_span (P : Cl1) : Prop := ∀ (h : Hs) (js : List Job), js.length ≤ 6 → Cl h → P [eJobs js] h = some (.int (leastR js), h)
theorem ok_least_room_span {c0 c1 : Nat} (hL : 100 < L) (h0 : Sp_room_span (C c0)) (h1 : Sp_orders_of_jobs (C c1)) : Sp_least_room_span (callD C L (F_least_room_span c0 c1)) := by
  intro h js hl hc
  refine call_pure rfl rfl hc ?_
  simp only [F_least_room_span, b_least_room_span, eJobs, ↓wE_nm, ↓wV_0, ↓wV_s, ↓wE_non, ↓wE_lbl, ↓wE_int, ↓wE_str, ↓wA_nil, ↓wA_cons, ↓wA_star, ↓wE_bin, ↓wE_neg, ↓wIn_i, ↓wE_nt, ↓wBl_b, ↓wE_and, ↓wE_or, ↓wB_one, ↓wB_and, ↓wB_or, ↓wIte_t, ↓wIte_f, ↓wE_cmp, ↓wE_cmp2, ↓wE_ife, ↓wE_call, ↓wE_bi, ↓wE_mth, ↓wE_sub, ↓wE_slc, ↓wE_comp, ↓wE_dct, ↓wE_dnewt, ↓wE_al, ↓wAl_lst, ↓wAl_dk, ↓wAl_dt, ↓wT_nm, ↓wX_0, ↓wX_s, ↓wT_tup, ↓wTs_nil, ↓wTs_cons, ↓wT_sub, ↓wI_seq, ↓wSeq_tup, ↓wSeq_lst, ↓wSeq_ref, ↓wSeq_scr, ↓wI_rng, ↓wRng_1, ↓wRng_2, ↓wI_enum, ↓wEnum_tup, ↓wEnum_lst, ↓wEnum_ref, ↓wI_zip, ↓wZip_tup, ↓wZip_lst, ↓wSs_nil, ↓wSs_cons, ↓wS_asg, ↓wS_par, ↓wP_nil, ↓wP_cons, ↓wS_expr, ↓wS_ret, ↓wS_retN, ↓wS_iff, ↓wIs_t, ↓wIs_f, ↓wS_for, ↓wS_whl, ↓wO_some, ↓wO_none, ↓wO_map, ↓wO_bind, ↓wO_chk, ↓wW_nil, ↓wW_cons, ↓b_addLR, ↓b_addRL, ↓m_append, ↓m_extend, ↓m_pop, ↓st_ref, ↓sb_ref, ↓len_ref, ↓wE_dcomp, ↓wSt_l, ↓wSt_i, ↓wSt_s, ↓wSt_t, ↓wSb_l, ↓wSb_i, ↓wSb_t, ↓wLn_l, ↓wLn_d, ↓wLn_t, ↓wO_ixn, wE_tupP, wE_lstP, plain_nil, plain_cons, wE_lstT, wE_tupT, starry_t, starry_f, decide_true, decide_false, Bool.not_false, Bool.not_true, Bool.true_and, Bool.and_true, Bool.false_and, Bool.and_false, Bool.or_false, Bool.false_or, Bool.or_true, Bool.true_or, Bool.or_self, wO_some, b_add, b_sub, b_mul, b_fdiv, b_mod, b_addT, b_addL, b_mulL, c_lt, c_le, c_gt, c_ge, c_eq, c_ne, c_eqS, c_neS, c_is_int, c_is_non, c_is_tup, c_isnt_int, c_isnt_non, c_isnt_tup, u_lenL, u_lenT, u_abs, u_int, u_intB, u_max2, u_min2, is_map, is_int, is_nil, is_cons, is_app, bs_map, u_sum, u_all, u_any, u_max1, u_min1, u_listT, u_listL, u_listR, u_tupL, u_tupT, u_tupR, u_vals, u_rng1, x_tup, x_lst, x_tupN, x_lstN, x_lstE, x_tupE, x_dkI, x_dkS, wIte_pand, wIte_por, wIte_int, u_repB, u_repN, x_t0, x_l0, wSb_l0, x_t1, x_l1, wSb_l1, x_t2, x_l2, wSb_l2, x_t3, x_l3, wSb_l3, x_t4, x_l4, wSb_l4, x_t5, x_l5, wSb_l5, s_lT0, s_lL0, s_hT0, s_hL0, s_lT1, s_lL1, s_hT1, s_hL1, s_lT2, s_lL2, s_hT2, s_hL2, s_loT, s_loL, s_hiT, s_hiL, s_lohiT, s_lohiL, s_revT, s_revL, getS_t, getS_l, getL_ref, getDk_ref, isL_l, isDk_d, ap_0, ap_k, aps_0, aps_k, mok_append, mok_extend, mok_pop, mok_popat, Option.map_some, Option.map_none, Option.bind_some, Option.isSome_some, List.cons_append, List.nil_append, List.append_nil, List.length_map, List.length_append, List.length_cons, List.length_nil, List.set_cons_zero, List.set_cons_succ, List.getElem?_cons_zero, List.getElem?_cons_succ, Int.toNat_natCast, true_and, and_true, List.append_assoc, Nat.zero_add, Nat.reduceAdd, List.map_cons, List.map_nil, List.replicate, h1 h _ hl hc]
  refine wComp_pure (fun o : List Nat => .int (sp1 js o)) ?_ ?_
  · intro o ho
    have := h0 h js o (ord_lt ho) (ord_nd ho) (by omega) hc
    simp only [↓wE_nm, ↓wV_0, ↓wV_s, ↓wE_non, ↓wE_lbl, ↓wE_int, ↓wE_str, ↓wA_nil, ↓wA_cons, ↓wA_star, ↓wE_bin, ↓wE_neg, ↓wIn_i, ↓wE_nt, ↓wBl_b, ↓wE_and, ↓wE_or, ↓wB_one, ↓wB_and, ↓wB_or, ↓wIte_t, ↓wIte_f, ↓wE_cmp, ↓wE_cmp2, ↓wE_ife, ↓wE_call, ↓wE_bi, ↓wE_mth, ↓wE_sub, ↓wE_slc, ↓wE_comp, ↓wE_dct, ↓wE_dnewt, ↓wE_al, ↓wAl_lst, ↓wAl_dk, ↓wAl_dt, ↓wT_nm, ↓wX_0, ↓wX_s, ↓wT_tup, ↓wTs_nil, ↓wTs_cons, ↓wT_sub, ↓wI_seq, ↓wSeq_tup, ↓wSeq_lst, ↓wSeq_ref, ↓wSeq_scr, ↓wI_rng, ↓wRng_1, ↓wRng_2, ↓wI_enum, ↓wEnum_tup, ↓wEnum_lst, ↓wEnum_ref, ↓wI_zip, ↓wZip_tup, ↓wZip_lst, ↓wSs_nil, ↓wSs_cons, ↓wS_asg, ↓wS_par, ↓wP_nil, ↓wP_cons, ↓wS_expr, ↓wS_ret, ↓wS_retN, ↓wS_iff, ↓wIs_t, ↓wIs_f, ↓wS_for, ↓wS_whl, ↓wO_some, ↓wO_none, ↓wO_map, ↓wO_bind, ↓wO_chk, ↓wW_nil, ↓wW_cons, ↓b_addLR, ↓b_addRL, ↓m_append, ↓m_extend, ↓m_pop, ↓st_ref, ↓sb_ref, ↓len_ref, ↓wE_dcomp, ↓wSt_l, ↓wSt_i, ↓wSt_s, ↓wSt_t, ↓wSb_l, ↓wSb_i, ↓wSb_t, ↓wLn_l, ↓wLn_d, ↓wLn_t, ↓wO_ixn, wE_tupP, wE_lstP, plain_nil, plain_cons, wE_lstT, wE_tupT, starry_t, starry_f, decide_true, decide_false, Bool.not_false, Bool.not_true, Bool.true_and, Bool.and_true, Bool.false_and, Bool.and_false, Bool.or_false, Bool.false_or, Bool.or_true, Bool.true_or, Bool.or_self, wO_some, b_add, b_sub, b_mul, b_fdiv, b_mod, b_addT, b_addL, b_mulL, c_lt, c_le, c_gt, c_ge, c_eq, c_ne, c_eqS, c_neS, c_is_int, c_is_non, c_is_tup, c_isnt_int, c_isnt_non, c_isnt_tup, u_lenL, u_lenT, u_abs, u_int, u_intB, u_max2, u_min2, is_map, is_int, is_nil, is_cons, is_app, bs_map, u_sum, u_all, u_any, u_max1, u_min1, u_listT, u_listL, u_listR, u_tupL, u_tupT, u_tupR, u_vals, u_rng1, x_tup, x_lst, x_tupN, x_lstN, x_lstE, x_tupE, x_dkI, x_dkS, wIte_pand, wIte_por, wIte_int, u_repB, u_repN, x_t0, x_l0, wSb_l0, x_t1, x_l1, wSb_l1, x_t2, x_l2, wSb_l2, x_t3, x_l3, wSb_l3, x_t4, x_l4, wSb_l4, x_t5, x_l5, wSb_l5, s_lT0, s_lL0, s_hT0, s_hL0, s_lT1, s_lL1, s_hT1, s_hL1, s_lT2, s_lL2, s_hT2, s_hL2, s_loT, s_loL, s_hiT, s_hiL, s_lohiT, s_lohiL, s_revT, s_revL, getS_t, getS_l, getL_ref, getDk_ref, isL_l, isDk_d, ap_0, ap_k, aps_0, aps_k, mok_append, mok_extend, mok_pop, mok_popat, Option.map_some, Option.map_none, Option.bind_some, Option.isSome_some, List.cons_append, List.nil_append, List.append_nil, List.length_map, List.length_append, List.length_cons, List.length_nil, List.set_cons_zero, List.set_cons_succ, List.getElem?_cons_zero, List.getElem?_cons_succ, Int.toNat_natCast, true_and, and_true, List.append_assoc, Nat.zero_add, Nat.reduceAdd, eJobs] at this ⊢
    simp only [this, ↓wE_nm, ↓wV_0, ↓wV_s, ↓wE_non, ↓wE_lbl, ↓wE_int, ↓wE_str, ↓wA_nil, ↓wA_cons, ↓wA_star, ↓wE_bin, ↓wE_neg, ↓wIn_i, ↓wE_nt, ↓wBl_b, ↓wE_and, ↓wE_or, ↓wB_one, ↓wB_and, ↓wB_or, ↓wIte_t, ↓wIte_f, ↓wE_cmp, ↓wE_cmp2, ↓wE_ife, ↓wE_call, ↓wE_bi, ↓wE_mth, ↓wE_sub, ↓wE_slc, ↓wE_comp, ↓wE_dct, ↓wE_dnewt, ↓wE_al, ↓wAl_lst, ↓wAl_dk, ↓wAl_dt, ↓wT_nm, ↓wX_0, ↓wX_s, ↓wT_tup, ↓wTs_nil, ↓wTs_cons, ↓wT_sub, ↓wI_seq, ↓wSeq_tup, ↓wSeq_lst, ↓wSeq_ref, ↓wSeq_scr, ↓wI_rng, ↓wRng_1, ↓wRng_2, ↓wI_enum, ↓wEnum_tup, ↓wEnum_lst, ↓wEnum_ref, ↓wI_zip, ↓wZip_tup, ↓wZip_lst, ↓wSs_nil, ↓wSs_cons, ↓wS_asg, ↓wS_par, ↓wP_nil, ↓wP_cons, ↓wS_expr, ↓wS_ret, ↓wS_retN, ↓wS_iff, ↓wIs_t, ↓wIs_f, ↓wS_for, ↓wS_whl, ↓wO_some, ↓wO_none, ↓wO_map, ↓wO_bind, ↓wO_chk, ↓wW_nil, ↓wW_cons, ↓b_addLR, ↓b_addRL, ↓m_append, ↓m_extend, ↓m_pop, ↓st_ref, ↓sb_ref, ↓len_ref, ↓wE_dcomp, ↓wSt_l, ↓wSt_i, ↓wSt_s, ↓wSt_t, ↓wSb_l, ↓wSb_i, ↓wSb_t, ↓wLn_l, ↓wLn_d, ↓wLn_t, ↓wO_ixn, wE_tupP, wE_lstP, plain_nil, plain_cons, wE_lstT, wE_tupT, starry_t, starry_f, decide_true, decide_false, Bool.not_false, Bool.not_true, Bool.true_and, Bool.and_true, Bool.false_and, Bool.and_false, Bool.or_false, Bool.false_or, Bool.or_true, Bool.true_or, Bool.or_self, wO_some, b_add, b_sub, b_mul, b_fdiv, b_mod, b_addT, b_addL, b_mulL, c_lt, c_le, c_gt, c_ge, c_eq, c_ne, c_eqS, c_neS, c_is_int, c_is_non, c_is_tup, c_isnt_int, c_isnt_non, c_isnt_tup, u_lenL, u_lenT, u_abs, u_int, u_intB, u_max2, u_min2, is_map, is_int, is_nil, is_cons, is_app, bs_map, u_sum, u_all, u_any, u_max1, u_min1, u_listT, u_listL, u_listR, u_tupL, u_tupT, u_tupR, u_vals, u_rng1, x_tup, x_lst, x_tupN, x_lstN, x_lstE, x_tupE, x_dkI, x_dkS, wIte_pand, wIte_por, wIte_int, u_repB, u_repN, x_t0, x_l0, wSb_l0, x_t1, x_l1, wSb_l1, x_t2, x_l2, wSb_l2, x_t3, x_l3, wSb_l3, x_t4, x_l4, wSb_l4, x_t5, x_l5, wSb_l5, s_lT0, s_lL0, s_hT0, s_hL0, s_lT1, s_lL1, s_hT1, s_hL1, s_lT2, s_lL2, s_hT2, s_hL2, s_loT, s_loL, s_hiT, s_hiL, s_lohiT, s_lohiL, s_revT, s_revL, getS_t, getS_l, getL_ref, getDk_ref, isL_l, isDk_d, ap_0, ap_k, aps_0, aps_k, mok_append, mok_extend, mok_pop, mok_popat, Option.map_some, Option.map_none, Option.bind_some, Option.isSome_some, List.cons_append, List.nil_append, List.append_nil, List.length_map, List.length_append, List.length_cons, List.length_nil, List.set_cons_zero, List.set_cons_succ, List.getElem?_cons_zero, List.getElem?_cons_succ, Int.toNat_natCast, true_and, and_true, List.append_assoc, Nat.zero_add, Nat.reduceAdd]
    rfl
  simp only [↓wE_nm, ↓wV_0, ↓wV_s, ↓wE_non, ↓wE_lbl, ↓wE_int, ↓wE_str, ↓wA_nil, ↓wA_cons, ↓wA_star, ↓wE_bin, ↓wE_neg, ↓wIn_i, ↓wE_nt, ↓wBl_b, ↓wE_and, ↓wE_or, ↓wB_one, ↓wB_and, ↓wB_or, ↓wIte_t, ↓wIte_f, ↓wE_cmp, ↓wE_cmp2, ↓wE_ife, ↓wE_call, ↓wE_bi, ↓wE_mth, ↓wE_sub, ↓wE_slc, ↓wE_comp, ↓wE_dct, ↓wE_dnewt, ↓wE_al, ↓wAl_lst, ↓wAl_dk, ↓wAl_dt, ↓wT_nm, ↓wX_0, ↓wX_s, ↓wT_tup, ↓wTs_nil, ↓wTs_cons, ↓wT_sub, ↓wI_seq, ↓wSeq_tup, ↓wSeq_lst, ↓wSeq_ref, ↓wSeq_scr, ↓wI_rng, ↓wRng_1, ↓wRng_2, ↓wI_enum, ↓wEnum_tup, ↓wEnum_lst, ↓wEnum_ref, ↓wI_zip, ↓wZip_tup, ↓wZip_lst, ↓wSs_nil, ↓wSs_cons, ↓wS_asg, ↓wS_par, ↓wP_nil, ↓wP_cons, ↓wS_expr, ↓wS_ret, ↓wS_retN, ↓wS_iff, ↓wIs_t, ↓wIs_f, ↓wS_for, ↓wS_whl, ↓wO_some, ↓wO_none, ↓wO_map, ↓wO_bind, ↓wO_chk, ↓wW_nil, ↓wW_cons, ↓b_addLR, ↓b_addRL, ↓m_append, ↓m_extend, ↓m_pop, ↓st_ref, ↓sb_ref, ↓len_ref, ↓wE_dcomp, ↓wSt_l, ↓wSt_i, ↓wSt_s, ↓wSt_t, ↓wSb_l, ↓wSb_i, ↓wSb_t, ↓wLn_l, ↓wLn_d, ↓wLn_t, ↓wO_ixn, wE_tupP, wE_lstP, plain_nil, plain_cons, wE_lstT, wE_tupT, starry_t, starry_f, decide_true, decide_false, Bool.not_false, Bool.not_true, Bool.true_and, Bool.and_true, Bool.false_and, Bool.and_false, Bool.or_false, Bool.false_or, Bool.or_true, Bool.true_or, Bool.or_self, wO_some, b_add, b_sub, b_mul, b_fdiv, b_mod, b_addT, b_addL, b_mulL, c_lt, c_le, c_gt, c_ge, c_eq, c_ne, c_eqS, c_neS, c_is_int, c_is_non, c_is_tup, c_isnt_int, c_isnt_non, c_isnt_tup, u_lenL, u_lenT, u_abs, u_int, u_intB, u_max2, u_min2, is_map, is_int, is_nil, is_cons, is_app, bs_map, u_sum, u_all, u_any, u_max1, u_min1, u_listT, u_listL, u_listR, u_tupL, u_tupT, u_tupR, u_vals, u_rng1, x_tup, x_lst, x_tupN, x_lstN, x_lstE, x_tupE, x_dkI, x_dkS, wIte_pand, wIte_por, wIte_int, u_repB, u_repN, x_t0, x_l0, wSb_l0, x_t1, x_l1, wSb_l1, x_t2, x_l2, wSb_l2, x_t3, x_l3, wSb_l3, x_t4, x_l4, wSb_l4, x_t5, x_l5, wSb_l5, s_lT0, s_lL0, s_hT0, s_hL0, s_lT1, s_lL1, s_hT1, s_hL1, s_lT2, s_lL2, s_hT2, s_hL2, s_loT, s_loL, s_hiT, s_hiL, s_lohiT, s_lohiL, s_revT, s_revL, getS_t, getS_l, getL_ref, getDk_ref, isL_l, isDk_d, ap_0, ap_k, aps_0, aps_k, mok_append, mok_extend, mok_pop, mok_popat, Option.map_some, Option.map_none, Option.bind_some, Option.isSome_some, List.cons_append, List.nil_append, List.append_nil, List.length_map, List.length_append, List.length_cons, List.length_nil, List.set_cons_zero, List.set_cons_succ, List.getElem?_cons_zero, List.getElem?_cons_succ, Int.toNat_natCast, true_and, and_true, List.append_assoc, Nat.zero_add, Nat.reduceAdd]
  refine ⟨fits_of (by have := ords_le hl; omega), ?_⟩
  rw [minO_mn (by simpa using ords_ne _), wO_some]
  exact ret_low (.int _)
def bestR (js : List Job) : List (List Nat) := (ords js.length js.length).filter fun o => decide (sp1 js o = leastR js)
def Sp_best_room_orders (P : Cl1) : Prop := ∀ (h : Hs) (js : List Job), js.length ≤ 6 → Cl h → P [eJobs js] h = some (.tup ((bestR js).map eOrd), h)
theorem zipL_map {α : Type} (f g : α → D) : ∀ l : List α, zipL (l.map f) (l.map g) = l.map fun a => .tup [f a, g a]
  | [] => rfl
  | a :: r => by rw [List.map_cons, List.map_cons, List.map_cons, ← zipL_map f g r]; rfl
theorem ok_best_room_orders {c0 c1 : Nat} (hL : 100 < L) (h1 : Sp_orders_of_jobs (C c0)) (h0 : Sp_room_span (C c1)) : Sp_best_room_orders (callD C L (F_best_room_orders c0 c1)) := by
  intro h js hl hc
  refine call_pure rfl rfl hc ?_
  simp only [F_best_room_orders, b_best_room_orders, eJobs, ↓wE_nm, ↓wV_0, ↓wV_s, ↓wE_non, ↓wE_lbl, ↓wE_int, ↓wE_str, ↓wA_nil, ↓wA_cons, ↓wA_star, ↓wE_bin, ↓wE_neg, ↓wIn_i, ↓wE_nt, ↓wBl_b, ↓wE_and, ↓wE_or, ↓wB_one, ↓wB_and, ↓wB_or, ↓wIte_t, ↓wIte_f, ↓wE_cmp, ↓wE_cmp2, ↓wE_ife, ↓wE_call, ↓wE_bi, ↓wE_mth, ↓wE_sub, ↓wE_slc, ↓wE_comp, ↓wE_dct, ↓wE_dnewt, ↓wE_al, ↓wAl_lst, ↓wAl_dk, ↓wAl_dt, ↓wT_nm, ↓wX_0, ↓wX_s, ↓wT_tup, ↓wTs_nil, ↓wTs_cons, ↓wT_sub, ↓wI_seq, ↓wSeq_tup, ↓wSeq_lst, ↓wSeq_ref, ↓wSeq_scr, ↓wI_rng, ↓wRng_1, ↓wRng_2, ↓wI_enum, ↓wEnum_tup, ↓wEnum_lst, ↓wEnum_ref, ↓wI_zip, ↓wZip_tup, ↓wZip_lst, ↓wSs_nil, ↓wSs_cons, ↓wS_asg, ↓wS_par, ↓wP_nil, ↓wP_cons, ↓wS_expr, ↓wS_ret, ↓wS_retN, ↓wS_iff, ↓wIs_t, ↓wIs_f, ↓wS_for, ↓wS_whl, ↓wO_some, ↓wO_none, ↓wO_map, ↓wO_bind, ↓wO_chk, ↓wW_nil, ↓wW_cons, ↓b_addLR, ↓b_addRL, ↓m_append, ↓m_extend, ↓m_pop, ↓st_ref, ↓sb_ref, ↓len_ref, ↓wE_dcomp, ↓wSt_l, ↓wSt_i, ↓wSt_s, ↓wSt_t, ↓wSb_l, ↓wSb_i, ↓wSb_t, ↓wLn_l, ↓wLn_d, ↓wLn_t, ↓wO_ixn, wE_tupP, wE_lstP, plain_nil, plain_cons, wE_lstT, wE_tupT, starry_t, starry_f, decide_true, decide_false, Bool.not_false, Bool.not_true, Bool.true_and, Bool.and_true, Bool.false_and, Bool.and_false, Bool.or_false, Bool.false_or, Bool.or_true, Bool.true_or, Bool.or_self, wO_some, b_add, b_sub, b_mul, b_fdiv, b_mod, b_addT, b_addL, b_mulL, c_lt, c_le, c_gt, c_ge, c_eq, c_ne, c_eqS, c_neS, c_is_int, c_is_non, c_is_tup, c_isnt_int, c_isnt_non, c_isnt_tup, u_lenL, u_lenT, u_abs, u_int, u_intB, u_max2, u_min2, is_map, is_int, is_nil, is_cons, is_app, bs_map, u_sum, u_all, u_any, u_max1, u_min1, u_listT, u_listL, u_listR, u_tupL, u_tupT, u_tupR, u_vals, u_rng1, x_tup, x_lst, x_tupN, x_lstN, x_lstE, x_tupE, x_dkI, x_dkS, wIte_pand, wIte_por, wIte_int, u_repB, u_repN, x_t0, x_l0, wSb_l0, x_t1, x_l1, wSb_l1, x_t2, x_l2, wSb_l2, x_t3, x_l3, wSb_l3, x_t4, x_l4, wSb_l4, x_t5, x_l5, wSb_l5, s_lT0, s_lL0, s_hT0, s_hL0, s_lT1, s_lL1, s_hT1, s_hL1, s_lT2, s_lL2, s_hT2, s_hL2, s_loT, s_loL, s_hiT, s_hiL, s_lohiT, s_lohiL, s_revT, s_revL, getS_t, getS_l, getL_ref, getDk_ref, isL_l, isDk_d, ap_0, ap_k, aps_0, aps_k, mok_append, mok_extend, mok_pop, mok_popat, Option.map_some, Option.map_none, Option.bind_some, Option.isSome_some, List.cons_append, List.nil_append, List.append_nil, List.length_map, List.length_append, List.length_cons, List.length_nil, List.set_cons_zero, List.set_cons_succ, List.getElem?_cons_zero, List.getElem?_cons_succ, Int.toNat_natCast, true_and, and_true, List.append_assoc, Nat.zero_add, Nat.reduceAdd, List.map_cons, List.map_nil, List.replicate, h1 h _ hl hc]
  refine wComp_pure (fun o : List Nat => .int (sp1 js o)) ?_ ?_
  · intro o ho
    have := h0 h js o (ord_lt ho) (ord_nd ho) (by omega) hc
    simp only [↓wE_nm, ↓wV_0, ↓wV_s, ↓wE_non, ↓wE_lbl, ↓wE_int, ↓wE_str, ↓wA_nil, ↓wA_cons, ↓wA_star, ↓wE_bin, ↓wE_neg, ↓wIn_i, ↓wE_nt, ↓wBl_b, ↓wE_and, ↓wE_or, ↓wB_one, ↓wB_and, ↓wB_or, ↓wIte_t, ↓wIte_f, ↓wE_cmp, ↓wE_cmp2, ↓wE_ife, ↓wE_call, ↓wE_bi, ↓wE_mth, ↓wE_sub, ↓wE_slc, ↓wE_comp, ↓wE_dct, ↓wE_dnewt, ↓wE_al, ↓wAl_lst, ↓wAl_dk, ↓wAl_dt, ↓wT_nm, ↓wX_0, ↓wX_s, ↓wT_tup, ↓wTs_nil, ↓wTs_cons, ↓wT_sub, ↓wI_seq, ↓wSeq_tup, ↓wSeq_lst, ↓wSeq_ref, ↓wSeq_scr, ↓wI_rng, ↓wRng_1, ↓wRng_2, ↓wI_enum, ↓wEnum_tup, ↓wEnum_lst, ↓wEnum_ref, ↓wI_zip, ↓wZip_tup, ↓wZip_lst, ↓wSs_nil, ↓wSs_cons, ↓wS_asg, ↓wS_par, ↓wP_nil, ↓wP_cons, ↓wS_expr, ↓wS_ret, ↓wS_retN, ↓wS_iff, ↓wIs_t, ↓wIs_f, ↓wS_for, ↓wS_whl, ↓wO_some, ↓wO_none, ↓wO_map, ↓wO_bind, ↓wO_chk, ↓wW_nil, ↓wW_cons, ↓b_addLR, ↓b_addRL, ↓m_append, ↓m_extend, ↓m_pop, ↓st_ref, ↓sb_ref, ↓len_ref, ↓wE_dcomp, ↓wSt_l, ↓wSt_i, ↓wSt_s, ↓wSt_t, ↓wSb_l, ↓wSb_i, ↓wSb_t, ↓wLn_l, ↓wLn_d, ↓wLn_t, ↓wO_ixn, wE_tupP, wE_lstP, plain_nil, plain_cons, wE_lstT, wE_tupT, starry_t, starry_f, decide_true, decide_false, Bool.not_false, Bool.not_true, Bool.true_and, Bool.and_true, Bool.false_and, Bool.and_false, Bool.or_false, Bool.false_or, Bool.or_true, Bool.true_or, Bool.or_self, wO_some, b_add, b_sub, b_mul, b_fdiv, b_mod, b_addT, b_addL, b_mulL, c_lt, c_le, c_gt, c_ge, c_eq, c_ne, c_eqS, c_neS, c_is_int, c_is_non, c_is_tup, c_isnt_int, c_isnt_non, c_isnt_tup, u_lenL, u_lenT, u_abs, u_int, u_intB, u_max2, u_min2, is_map, is_int, is_nil, is_cons, is_app, bs_map, u_sum, u_all, u_any, u_max1, u_min1, u_listT, u_listL, u_listR, u_tupL, u_tupT, u_tupR, u_vals, u_rng1, x_tup, x_lst, x_tupN, x_lstN, x_lstE, x_tupE, x_dkI, x_dkS, wIte_pand, wIte_por, wIte_int, u_repB, u_repN, x_t0, x_l0, wSb_l0, x_t1, x_l1, wSb_l1, x_t2, x_l2, wSb_l2, x_t3, x_l3, wSb_l3, x_t4, x_l4, wSb_l4, x_t5, x_l5, wSb_l5, s_lT0, s_lL0, s_hT0, s_hL0, s_lT1, s_lL1, s_hT1, s_hL1, s_lT2, s_lL2, s_hT2, s_hL2, s_loT, s_loL, s_hiT, s_hiL, s_lohiT, s_lohiL, s_revT, s_revL, getS_t, getS_l, getL_ref, getDk_ref, isL_l, isDk_d, ap_0, ap_k, aps_0, aps_k, mok_append, mok_extend, mok_pop, mok_popat, Option.map_some, Option.map_none, Option.bind_some, Option.isSome_some, List.cons_append, List.nil_append, List.append_nil, List.length_map, List.length_append, List.length_cons, List.length_nil, List.set_cons_zero, List.set_cons_succ, List.getElem?_cons_zero, List.getElem?_cons_succ, Int.toNat_natCast, true_and, and_true, List.append_assoc, Nat.zero_add, Nat.reduceAdd, eJobs] at this ⊢
    simp only [this, ↓wE_nm, ↓wV_0, ↓wV_s, ↓wE_non, ↓wE_lbl, ↓wE_int, ↓wE_str, ↓wA_nil, ↓wA_cons, ↓wA_star, ↓wE_bin, ↓wE_neg, ↓wIn_i, ↓wE_nt, ↓wBl_b, ↓wE_and, ↓wE_or, ↓wB_one, ↓wB_and, ↓wB_or, ↓wIte_t, ↓wIte_f, ↓wE_cmp, ↓wE_cmp2, ↓wE_ife, ↓wE_call, ↓wE_bi, ↓wE_mth, ↓wE_sub, ↓wE_slc, ↓wE_comp, ↓wE_dct, ↓wE_dnewt, ↓wE_al, ↓wAl_lst, ↓wAl_dk, ↓wAl_dt, ↓wT_nm, ↓wX_0, ↓wX_s, ↓wT_tup, ↓wTs_nil, ↓wTs_cons, ↓wT_sub, ↓wI_seq, ↓wSeq_tup, ↓wSeq_lst, ↓wSeq_ref, ↓wSeq_scr, ↓wI_rng, ↓wRng_1, ↓wRng_2, ↓wI_enum, ↓wEnum_tup, ↓wEnum_lst, ↓wEnum_ref, ↓wI_zip, ↓wZip_tup, ↓wZip_lst, ↓wSs_nil, ↓wSs_cons, ↓wS_asg, ↓wS_par, ↓wP_nil, ↓wP_cons, ↓wS_expr, ↓wS_ret, ↓wS_retN, ↓wS_iff, ↓wIs_t, ↓wIs_f, ↓wS_for, ↓wS_whl, ↓wO_some, ↓wO_none, ↓wO_map, ↓wO_bind, ↓wO_chk, ↓wW_nil, ↓wW_cons, ↓b_addLR, ↓b_addRL, ↓m_append, ↓m_extend, ↓m_pop, ↓st_ref, ↓sb_ref, ↓len_ref, ↓wE_dcomp, ↓wSt_l, ↓wSt_i, ↓wSt_s, ↓wSt_t, ↓wSb_l, ↓wSb_i, ↓wSb_t, ↓wLn_l, ↓wLn_d, ↓wLn_t, ↓wO_ixn, wE_tupP, wE_lstP, plain_nil, plain_cons, wE_lstT, wE_tupT, starry_t, starry_f, decide_true, decide_false, Bool.not_false, Bool.not_true, Bool.true_and, Bool.and_true, Bool.false_and, Bool.and_false, Bool.or_false, Bool.false_or, Bool.or_true, Bool.true_or, Bool.or_self, wO_some, b_add, b_sub, b_mul, b_fdiv, b_mod, b_addT, b_addL, b_mulL, c_lt, c_le, c_gt, c_ge, c_eq, c_ne, c_eqS, c_neS, c_is_int, c_is_non, c_is_tup, c_isnt_int, c_isnt_non, c_isnt_tup, u_lenL, u_lenT, u_abs, u_int, u_intB, u_max2, u_min2, is_map, is_int, is_nil, is_cons, is_app, bs_map, u_sum, u_all, u_any, u_max1, u_min1, u_listT, u_listL, u_listR, u_tupL, u_tupT, u_tupR, u_vals, u_rng1, x_tup, x_lst, x_tupN, x_lstN, x_lstE, x_tupE, x_dkI, x_dkS, wIte_pand, wIte_por, wIte_int, u_repB, u_repN, x_t0, x_l0, wSb_l0, x_t1, x_l1, wSb_l1, x_t2, x_l2, wSb_l2, x_t3, x_l3, wSb_l3, x_t4, x_l4, wSb_l4, x_t5, x_l5, wSb_l5, s_lT0, s_lL0, s_hT0, s_hL0, s_lT1, s_lL1, s_hT1, s_hL1, s_lT2, s_lL2, s_hT2, s_hL2, s_loT, s_loL, s_hiT, s_hiL, s_lohiT, s_lohiL, s_revT, s_revL, getS_t, getS_l, getL_ref, getDk_ref, isL_l, isDk_d, ap_0, ap_k, aps_0, aps_k, mok_append, mok_extend, mok_pop, mok_popat, Option.map_some, Option.map_none, Option.bind_some, Option.isSome_some, List.cons_append, List.nil_append, List.append_nil, List.length_map, List.length_append, List.length_cons, List.length_nil, List.set_cons_zero, List.set_cons_succ, List.getElem?_cons_zero, List.getElem?_cons_succ, Int.toNat_natCast, true_and, and_true, List.append_assoc, Nat.zero_add, Nat.reduceAdd]
    rfl
  simp only [↓wE_nm, ↓wV_0, ↓wV_s, ↓wE_non, ↓wE_lbl, ↓wE_int, ↓wE_str, ↓wA_nil, ↓wA_cons, ↓wA_star, ↓wE_bin, ↓wE_neg, ↓wIn_i, ↓wE_nt, ↓wBl_b, ↓wE_and, ↓wE_or, ↓wB_one, ↓wB_and, ↓wB_or, ↓wIte_t, ↓wIte_f, ↓wE_cmp, ↓wE_cmp2, ↓wE_ife, ↓wE_call, ↓wE_bi, ↓wE_mth, ↓wE_sub, ↓wE_slc, ↓wE_comp, ↓wE_dct, ↓wE_dnewt, ↓wE_al, ↓wAl_lst, ↓wAl_dk, ↓wAl_dt, ↓wT_nm, ↓wX_0, ↓wX_s, ↓wT_tup, ↓wTs_nil, ↓wTs_cons, ↓wT_sub, ↓wI_seq, ↓wSeq_tup, ↓wSeq_lst, ↓wSeq_ref, ↓wSeq_scr, ↓wI_rng, ↓wRng_1, ↓wRng_2, ↓wI_enum, ↓wEnum_tup, ↓wEnum_lst, ↓wEnum_ref, ↓wI_zip, ↓wZip_tup, ↓wZip_lst, ↓wSs_nil, ↓wSs_cons, ↓wS_asg, ↓wS_par, ↓wP_nil, ↓wP_cons, ↓wS_expr, ↓wS_ret, ↓wS_retN, ↓wS_iff, ↓wIs_t, ↓wIs_f, ↓wS_for, ↓wS_whl, ↓wO_some, ↓wO_none, ↓wO_map, ↓wO_bind, ↓wO_chk, ↓wW_nil, ↓wW_cons, ↓b_addLR, ↓b_addRL, ↓m_append, ↓m_extend, ↓m_pop, ↓st_ref, ↓sb_ref, ↓len_ref, ↓wE_dcomp, ↓wSt_l, ↓wSt_i, ↓wSt_s, ↓wSt_t, ↓wSb_l, ↓wSb_i, ↓wSb_t, ↓wLn_l, ↓wLn_d, ↓wLn_t, ↓wO_ixn, wE_tupP, wE_lstP, plain_nil, plain_cons, wE_lstT, wE_tupT, starry_t, starry_f, decide_true, decide_false, Bool.not_false, Bool.not_true, Bool.true_and, Bool.and_true, Bool.false_and, Bool.and_false, Bool.or_false, Bool.false_or, Bool.or_true, Bool.true_or, Bool.or_self, wO_some, b_add, b_sub, b_mul, b_fdiv, b_mod, b_addT, b_addL, b_mulL, c_lt, c_le, c_gt, c_ge, c_eq, c_ne, c_eqS, c_neS, c_is_int, c_is_non, c_is_tup, c_isnt_int, c_isnt_non, c_isnt_tup, u_lenL, u_lenT, u_abs, u_int, u_intB, u_max2, u_min2, is_map, is_int, is_nil, is_cons, is_app, bs_map, u_sum, u_all, u_any, u_max1, u_min1, u_listT, u_listL, u_listR, u_tupL, u_tupT, u_tupR, u_vals, u_rng1, x_tup, x_lst, x_tupN, x_lstN, x_lstE, x_tupE, x_dkI, x_dkS, wIte_pand, wIte_por, wIte_int, u_repB, u_repN, x_t0, x_l0, wSb_l0, x_t1, x_l1, wSb_l1, x_t2, x_l2, wSb_l2, x_t3, x_l3, wSb_l3, x_t4, x_l4, wSb_l4, x_t5, x_l5, wSb_l5, s_lT0, s_lL0, s_hT0, s_hL0, s_lT1, s_lL1, s_hT1, s_hL1, s_lT2, s_lL2, s_hT2, s_hL2, s_loT, s_loL, s_hiT, s_hiL, s_lohiT, s_lohiL, s_revT, s_revL, getS_t, getS_l, getL_ref, getDk_ref, isL_l, isDk_d, ap_0, ap_k, aps_0, aps_k, mok_append, mok_extend, mok_pop, mok_popat, Option.map_some, Option.map_none, Option.bind_some, Option.isSome_some, List.cons_append, List.nil_append, List.append_nil, List.length_map, List.length_append, List.length_cons, List.length_nil, List.set_cons_zero, List.set_cons_succ, List.getElem?_cons_zero, List.getElem?_cons_succ, Int.toNat_natCast, true_and, and_true, List.append_assoc, Nat.zero_add, Nat.reduceAdd, zipL_map]
  refine ⟨fits_of (by have := ords_le hl; omega), wComp_pureIf (fun o : List Nat => decide (sp1 js o = leastR js)) (fun o => eOrd o) ?_ ?_⟩
  · intro o ho
    simp only [↓wE_nm, ↓wV_0, ↓wV_s, ↓wE_non, ↓wE_lbl, ↓wE_int, ↓wE_str, ↓wA_nil, ↓wA_cons, ↓wA_star, ↓wE_bin, ↓wE_neg, ↓wIn_i, ↓wE_nt, ↓wBl_b, ↓wE_and, ↓wE_or, ↓wB_one, ↓wB_and, ↓wB_or, ↓wIte_t, ↓wIte_f, ↓wE_cmp, ↓wE_cmp2, ↓wE_ife, ↓wE_call, ↓wE_bi, ↓wE_mth, ↓wE_sub, ↓wE_slc, ↓wE_comp, ↓wE_dct, ↓wE_dnewt, ↓wE_al, ↓wAl_lst, ↓wAl_dk, ↓wAl_dt, ↓wT_nm, ↓wX_0, ↓wX_s, ↓wT_tup, ↓wTs_nil, ↓wTs_cons, ↓wT_sub, ↓wI_seq, ↓wSeq_tup, ↓wSeq_lst, ↓wSeq_ref, ↓wSeq_scr, ↓wI_rng, ↓wRng_1, ↓wRng_2, ↓wI_enum, ↓wEnum_tup, ↓wEnum_lst, ↓wEnum_ref, ↓wI_zip, ↓wZip_tup, ↓wZip_lst, ↓wSs_nil, ↓wSs_cons, ↓wS_asg, ↓wS_par, ↓wP_nil, ↓wP_cons, ↓wS_expr, ↓wS_ret, ↓wS_retN, ↓wS_iff, ↓wIs_t, ↓wIs_f, ↓wS_for, ↓wS_whl, ↓wO_some, ↓wO_none, ↓wO_map, ↓wO_bind, ↓wO_chk, ↓wW_nil, ↓wW_cons, ↓b_addLR, ↓b_addRL, ↓m_append, ↓m_extend, ↓m_pop, ↓st_ref, ↓sb_ref, ↓len_ref, ↓wE_dcomp, ↓wSt_l, ↓wSt_i, ↓wSt_s, ↓wSt_t, ↓wSb_l, ↓wSb_i, ↓wSb_t, ↓wLn_l, ↓wLn_d, ↓wLn_t, ↓wO_ixn, wE_tupP, wE_lstP, plain_nil, plain_cons, wE_lstT, wE_tupT, starry_t, starry_f, decide_true, decide_false, Bool.not_false, Bool.not_true, Bool.true_and, Bool.and_true, Bool.false_and, Bool.and_false, Bool.or_false, Bool.false_or, Bool.or_true, Bool.true_or, Bool.or_self, wO_some, b_add, b_sub, b_mul, b_fdiv, b_mod, b_addT, b_addL, b_mulL, c_lt, c_le, c_gt, c_ge, c_eq, c_ne, c_eqS, c_neS, c_is_int, c_is_non, c_is_tup, c_isnt_int, c_isnt_non, c_isnt_tup, u_lenL, u_lenT, u_abs, u_int, u_intB, u_max2, u_min2, is_map, is_int, is_nil, is_cons, is_app, bs_map, u_sum, u_all, u_any, u_max1, u_min1, u_listT, u_listL, u_listR, u_tupL, u_tupT, u_tupR, u_vals, u_rng1, x_tup, x_lst, x_tupN, x_lstN, x_lstE, x_tupE, x_dkI, x_dkS, wIte_pand, wIte_por, wIte_int, u_repB, u_repN, x_t0, x_l0, wSb_l0, x_t1, x_l1, wSb_l1, x_t2, x_l2, wSb_l2, x_t3, x_l3, wSb_l3, x_t4, x_l4, wSb_l4, x_t5, x_l5, wSb_l5, s_lT0, s_lL0, s_hT0, s_hL0, s_lT1, s_lL1, s_hT1, s_hL1, s_lT2, s_lL2, s_hT2, s_hL2, s_loT, s_loL, s_hiT, s_hiL, s_lohiT, s_lohiL, s_revT, s_revL, getS_t, getS_l, getL_ref, getDk_ref, isL_l, isDk_d, ap_0, ap_k, aps_0, aps_k, mok_append, mok_extend, mok_pop, mok_popat, Option.map_some, Option.map_none, Option.bind_some, Option.isSome_some, List.cons_append, List.nil_append, List.append_nil, List.length_map, List.length_append, List.length_cons, List.length_nil, List.set_cons_zero, List.set_cons_succ, List.getElem?_cons_zero, List.getElem?_cons_succ, Int.toNat_natCast, true_and, and_true, List.append_assoc, Nat.zero_add, Nat.reduceAdd]
    rw [minO_mn (by simpa using ords_ne _)]
    simp only [↓wE_nm, ↓wV_0, ↓wV_s, ↓wE_non, ↓wE_lbl, ↓wE_int, ↓wE_str, ↓wA_nil, ↓wA_cons, ↓wA_star, ↓wE_bin, ↓wE_neg, ↓wIn_i, ↓wE_nt, ↓wBl_b, ↓wE_and, ↓wE_or, ↓wB_one, ↓wB_and, ↓wB_or, ↓wIte_t, ↓wIte_f, ↓wE_cmp, ↓wE_cmp2, ↓wE_ife, ↓wE_call, ↓wE_bi, ↓wE_mth, ↓wE_sub, ↓wE_slc, ↓wE_comp, ↓wE_dct, ↓wE_dnewt, ↓wE_al, ↓wAl_lst, ↓wAl_dk, ↓wAl_dt, ↓wT_nm, ↓wX_0, ↓wX_s, ↓wT_tup, ↓wTs_nil, ↓wTs_cons, ↓wT_sub, ↓wI_seq, ↓wSeq_tup, ↓wSeq_lst, ↓wSeq_ref, ↓wSeq_scr, ↓wI_rng, ↓wRng_1, ↓wRng_2, ↓wI_enum, ↓wEnum_tup, ↓wEnum_lst, ↓wEnum_ref, ↓wI_zip, ↓wZip_tup, ↓wZip_lst, ↓wSs_nil, ↓wSs_cons, ↓wS_asg, ↓wS_par, ↓wP_nil, ↓wP_cons, ↓wS_expr, ↓wS_ret, ↓wS_retN, ↓wS_iff, ↓wIs_t, ↓wIs_f, ↓wS_for, ↓wS_whl, ↓wO_some, ↓wO_none, ↓wO_map, ↓wO_bind, ↓wO_chk, ↓wW_nil, ↓wW_cons, ↓b_addLR, ↓b_addRL, ↓m_append, ↓m_extend, ↓m_pop, ↓st_ref, ↓sb_ref, ↓len_ref, ↓wE_dcomp, ↓wSt_l, ↓wSt_i, ↓wSt_s, ↓wSt_t, ↓wSb_l, ↓wSb_i, ↓wSb_t, ↓wLn_l, ↓wLn_d, ↓wLn_t, ↓wO_ixn, wE_tupP, wE_lstP, plain_nil, plain_cons, wE_lstT, wE_tupT, starry_t, starry_f, decide_true, decide_false, Bool.not_false, Bool.not_true, Bool.true_and, Bool.and_true, Bool.false_and, Bool.and_false, Bool.or_false, Bool.false_or, Bool.or_true, Bool.true_or, Bool.or_self, wO_some, b_add, b_sub, b_mul, b_fdiv, b_mod, b_addT, b_addL, b_mulL, c_lt, c_le, c_gt, c_ge, c_eq, c_ne, c_eqS, c_neS, c_is_int, c_is_non, c_is_tup, c_isnt_int, c_isnt_non, c_isnt_tup, u_lenL, u_lenT, u_abs, u_int, u_intB, u_max2, u_min2, is_map, is_int, is_nil, is_cons, is_app, bs_map, u_sum, u_all, u_any, u_max1, u_min1, u_listT, u_listL, u_listR, u_tupL, u_tupT, u_tupR, u_vals, u_rng1, x_tup, x_lst, x_tupN, x_lstN, x_lstE, x_tupE, x_dkI, x_dkS, wIte_pand, wIte_por, wIte_int, u_repB, u_repN, x_t0, x_l0, wSb_l0, x_t1, x_l1, wSb_l1, x_t2, x_l2, wSb_l2, x_t3, x_l3, wSb_l3, x_t4, x_l4, wSb_l4, x_t5, x_l5, wSb_l5, s_lT0, s_lL0, s_hT0, s_hL0, s_lT1, s_lL1, s_hT1, s_hL1, s_lT2, s_lL2, s_hT2, s_hL2, s_loT, s_loL, s_hiT, s_hiL, s_lohiT, s_lohiL, s_revT, s_revL, getS_t, getS_l, getL_ref, getDk_ref, isL_l, isDk_d, ap_0, ap_k, aps_0, aps_k, mok_append, mok_extend, mok_pop, mok_popat, Option.map_some, Option.map_none, Option.bind_some, Option.isSome_some, List.cons_append, List.nil_append, List.append_nil, List.length_map, List.length_append, List.length_cons, List.length_nil, List.set_cons_zero, List.set_cons_succ, List.getElem?_cons_zero, List.getElem?_cons_succ, Int.toNat_natCast, true_and, and_true, List.append_assoc, Nat.zero_add, Nat.reduceAdd]
    exact ⟨rfl, fun _ => trivial⟩
  exact ⟨fits_of (by have := ords_le hl; omega), ret_low (.tup (low_ords _))⟩
/-! the law's own ends -/
/-- a place's number when an order has been walked: what stands there, written anew at each job -/
def lE0 (len c : Nat → Int) : Int → (Nat → Int) → List Nat → Nat → Int
  | _, f, [], k => f k
  | g, f, j :: r, k => lE0 len c (max g (c j) + len j) (fun i => if i = j then max g (c j) + len j else f i) r k
def lE (js : List Job) (t : Nat) (c : Nat → Int) (o : List Nat) : Nat → Int := lE0 (ln js t) c 0 zc o
def Sp_law_ends (P : Cl1) : Prop := ∀ (h : Hs) (js : List Job) (a b c : List Nat), (∀ k ∈ a, k < js.length) → (∀ k ∈ b, k < js.length) → (∀ k ∈ c, k < js.length) → a.length ≤ 1000 → b.length ≤ 1000 → c.length ≤ 1000 → js.length ≤ 1000 → Cl h →
  P [eJobs js, .tup [eOrd a, eOrd b, eOrd c]] h = some (.lst [.lst ((List.range js.length).map fun k => .int (lE js 0 zc a k)), .lst ((List.range js.length).map fun k => .int (lE js 1 (lE js 0 zc a) b k)), .lst ((List.range js.length).map fun k => .int (lE js 2 (lE js 1 (lE js 0 zc a) b) c k))], h)
theorem frz_lst {hs : Hs} {b n k : Nat} {l l' : List D} (hk : b ≤ k) (e : hs[k]? = some (.lst l)) (h : l.mapM (frz hs b n) = some l') : frz hs b (n + 1) (.ref k) = some (.lst l') := by
  unfold frz
  have hn : ¬ Low b (.ref k) := fun z => by
    cases z with
    | ref q => omega
  rw [if_neg hn]
  simp only [e, h, Option.map_some]
theorem lE0_app (len c : Nat → Int) : ∀ (a : List Nat) (g : Int) (f : Nat → Int) (x k : Nat), lE0 len c g f (a ++ [x]) k = if k = x then max (lastG len c g a) (c x) + len x else lE0 len c g f a k
  | [], g, f, x, k => rfl
  | j :: a, g, f, x, k => by
    simp only [List.cons_append, lE0, lastG]
    exact lE0_app len c a _ _ x k
def bEndsIn : Sms := .cons (.asg (.nm 7) (.bin .add (.bi .max2 (.cons false (.nm 7) (.cons false (.sub (.nm 2) (.nm 6)) .nil))) (.sub (.sub (.nm 0) (.nm 6)) (.nm 4)))) (.cons (.asg (.sub (.nm 8) (.nm 6)) (.nm 7)) .nil)
theorem ends_loop {H HH : Hs} {n t : Nat} {js : List Job} {o : List Nat} {cf : Nat → Int} {come : D} {os fd o6 : Option D} {N : Ev → Hs → Prop} {R : QE} (hn : n = H.length) (ht : t < 3) (ho : ∀ k ∈ o, k < js.length) (hH : HH = H ++ [.lst ((List.range js.length).map fun _ => .int 0)])
    (hcome : ∀ x k, k < js.length → subD (H ++ [x]) come (.int (k : Nat)) = some (.int (cf k)))
    (post : ∀ o6 g, N [some (.tup (js.map eJob)), os, some come, fd, some (.int t), some (eOrd o), o6, some (.int g), some (.ref n)] (H ++ [.lst ((List.range js.length).map fun k => .int (lE js t cf o k))])) :
    wFor C L (o.map eN, []) (.nm 6) bEndsIn (o.map eN) [some (.tup (js.map eJob)), os, some come, fd, some (.int t), some (eOrd o), o6, some (.int 0), some (.ref n)] HH N R := by
  subst hn hH
  refine wFor_inv (fun done e h' => ∃ o6, e = [some (.tup (js.map eJob)), os, some come, fd, some (.int t), some (eOrd o), o6, some (.int (lastG (ln js t) cf 0 done)), some (.ref H.length)] ∧ h' = H ++ [.lst ((List.range js.length).map fun k => .int (lE0 (ln js t) cf 0 zc done k))]) ⟨_, rfl, rfl⟩ ?_ ?_
  · rintro done x rest e h' hx ⟨o6, rfl, rfl⟩
    have hxl := ho x (by rw [hx]; simp)
    have hf : ∀ h', subD h' (eJob (jAt js x)) (.int t) = some (.int (ln js t x)) := fun h' => sub_fld ht _
    simp only [bEndsIn, ↓wE_nm, ↓wV_0, ↓wV_s, ↓wE_non, ↓wE_lbl, ↓wE_int, ↓wE_str, ↓wA_nil, ↓wA_cons, ↓wA_star, ↓wE_bin, ↓wE_neg, ↓wIn_i, ↓wE_nt, ↓wBl_b, ↓wE_and, ↓wE_or, ↓wB_one, ↓wB_and, ↓wB_or, ↓wIte_t, ↓wIte_f, ↓wE_cmp, ↓wE_cmp2, ↓wE_ife, ↓wE_call, ↓wE_bi, ↓wE_mth, ↓wE_sub, ↓wE_slc, ↓wE_comp, ↓wE_dct, ↓wE_dnewt, ↓wE_al, ↓wAl_lst, ↓wAl_dk, ↓wAl_dt, ↓wT_nm, ↓wX_0, ↓wX_s, ↓wT_tup, ↓wTs_nil, ↓wTs_cons, ↓wT_sub, ↓wI_seq, ↓wSeq_tup, ↓wSeq_lst, ↓wSeq_ref, ↓wSeq_scr, ↓wI_rng, ↓wRng_1, ↓wRng_2, ↓wI_enum, ↓wEnum_tup, ↓wEnum_lst, ↓wEnum_ref, ↓wI_zip, ↓wZip_tup, ↓wZip_lst, ↓wSs_nil, ↓wSs_cons, ↓wS_asg, ↓wS_par, ↓wP_nil, ↓wP_cons, ↓wS_expr, ↓wS_ret, ↓wS_retN, ↓wS_iff, ↓wIs_t, ↓wIs_f, ↓wS_for, ↓wS_whl, ↓wO_some, ↓wO_none, ↓wO_map, ↓wO_bind, ↓wO_chk, ↓wW_nil, ↓wW_cons, ↓b_addLR, ↓b_addRL, ↓m_append, ↓m_extend, ↓m_pop, ↓st_ref, ↓sb_ref, ↓len_ref, ↓wE_dcomp, ↓wSt_l, ↓wSt_i, ↓wSt_s, ↓wSt_t, ↓wSb_l, ↓wSb_i, ↓wSb_t, ↓wLn_l, ↓wLn_d, ↓wLn_t, ↓wO_ixn, wE_tupP, wE_lstP, plain_nil, plain_cons, wE_lstT, wE_tupT, starry_t, starry_f, decide_true, decide_false, Bool.not_false, Bool.not_true, Bool.true_and, Bool.and_true, Bool.false_and, Bool.and_false, Bool.or_false, Bool.false_or, Bool.or_true, Bool.true_or, Bool.or_self, wO_some, b_add, b_sub, b_mul, b_fdiv, b_mod, b_addT, b_addL, b_mulL, c_lt, c_le, c_gt, c_ge, c_eq, c_ne, c_eqS, c_neS, c_is_int, c_is_non, c_is_tup, c_isnt_int, c_isnt_non, c_isnt_tup, u_lenL, u_lenT, u_abs, u_int, u_intB, u_max2, u_min2, is_map, is_int, is_nil, is_cons, is_app, bs_map, u_sum, u_all, u_any, u_max1, u_min1, u_listT, u_listL, u_listR, u_tupL, u_tupT, u_tupR, u_vals, u_rng1, x_tup, x_lst, x_tupN, x_lstN, x_lstE, x_tupE, x_dkI, x_dkS, wIte_pand, wIte_por, wIte_int, u_repB, u_repN, x_t0, x_l0, wSb_l0, x_t1, x_l1, wSb_l1, x_t2, x_l2, wSb_l2, x_t3, x_l3, wSb_l3, x_t4, x_l4, wSb_l4, x_t5, x_l5, wSb_l5, s_lT0, s_lL0, s_hT0, s_hL0, s_lT1, s_lL1, s_hT1, s_hL1, s_lT2, s_lL2, s_hT2, s_hL2, s_loT, s_loL, s_hiT, s_hiL, s_lohiT, s_lohiL, s_revT, s_revL, getS_t, getS_l, getL_ref, getDk_ref, isL_l, isDk_d, ap_0, ap_k, aps_0, aps_k, mok_append, mok_extend, mok_pop, mok_popat, Option.map_some, Option.map_none, Option.bind_some, Option.isSome_some, List.cons_append, List.nil_append, List.append_nil, List.length_map, List.length_append, List.length_cons, List.length_nil, List.set_cons_zero, List.set_cons_succ, List.getElem?_cons_zero, List.getElem?_cons_succ, Int.toNat_natCast, true_and, and_true, List.append_assoc, Nat.zero_add, Nat.reduceAdd, hcome _ _ hxl, List.getElem?_map, jAt_get hxl, hf, List.length_range, fun_set]
    refine ⟨hxl, some (eN x), ?_, ?_⟩
    · rw [lastG_app]
    · congr 3
      apply List.map_congr_left
      intro k _
      rw [lE0_app]
      by_cases e : k = x
      · rw [if_pos e, if_pos e]
      · rw [if_neg e, if_neg e]
  · rintro e h' ⟨o6, rfl, rfl⟩
    exact post _ _
theorem ok_law_ends (hL : 100 < L) : Sp_law_ends (callD C L F_law_ends) := by
  intro h js a b c ha hb hcc la lb lc hl hc
  refine call_pure rfl rfl hc ?_
  have hjz : js.length ≤ sizeLine := fits_of (by omega)
  simp only [F_law_ends, b_law_ends, List.map_cons, List.map_nil, List.replicate, Nat.reduceSub]
  simp only [eJobs, ↓wE_nm, ↓wV_0, ↓wV_s, ↓wE_non, ↓wE_lbl, ↓wE_int, ↓wE_str, ↓wA_nil, ↓wA_cons, ↓wA_star, ↓wE_bin, ↓wE_neg, ↓wIn_i, ↓wE_nt, ↓wBl_b, ↓wE_and, ↓wE_or, ↓wB_one, ↓wB_and, ↓wB_or, ↓wIte_t, ↓wIte_f, ↓wE_cmp, ↓wE_cmp2, ↓wE_ife, ↓wE_call, ↓wE_bi, ↓wE_mth, ↓wE_sub, ↓wE_slc, ↓wE_comp, ↓wE_dct, ↓wE_dnewt, ↓wE_al, ↓wAl_lst, ↓wAl_dk, ↓wAl_dt, ↓wT_nm, ↓wX_0, ↓wX_s, ↓wT_tup, ↓wTs_nil, ↓wTs_cons, ↓wT_sub, ↓wI_seq, ↓wSeq_tup, ↓wSeq_lst, ↓wSeq_ref, ↓wSeq_scr, ↓wI_rng, ↓wRng_1, ↓wRng_2, ↓wI_enum, ↓wEnum_tup, ↓wEnum_lst, ↓wEnum_ref, ↓wI_zip, ↓wZip_tup, ↓wZip_lst, ↓wSs_nil, ↓wSs_cons, ↓wS_asg, ↓wS_par, ↓wP_nil, ↓wP_cons, ↓wS_expr, ↓wS_ret, ↓wS_retN, ↓wS_iff, ↓wIs_t, ↓wIs_f, ↓wS_for, ↓wS_whl, ↓wO_some, ↓wO_none, ↓wO_map, ↓wO_bind, ↓wO_chk, ↓wW_nil, ↓wW_cons, ↓b_addLR, ↓b_addRL, ↓m_append, ↓m_extend, ↓m_pop, ↓st_ref, ↓sb_ref, ↓len_ref, ↓wE_dcomp, ↓wSt_l, ↓wSt_i, ↓wSt_s, ↓wSt_t, ↓wSb_l, ↓wSb_i, ↓wSb_t, ↓wLn_l, ↓wLn_d, ↓wLn_t, ↓wO_ixn, wE_tupP, wE_lstP, plain_nil, plain_cons, wE_lstT, wE_tupT, starry_t, starry_f, decide_true, decide_false, Bool.not_false, Bool.not_true, Bool.true_and, Bool.and_true, Bool.false_and, Bool.and_false, Bool.or_false, Bool.false_or, Bool.or_true, Bool.true_or, Bool.or_self, wO_some, b_add, b_sub, b_mul, b_fdiv, b_mod, b_addT, b_addL, b_mulL, c_lt, c_le, c_gt, c_ge, c_eq, c_ne, c_eqS, c_neS, c_is_int, c_is_non, c_is_tup, c_isnt_int, c_isnt_non, c_isnt_tup, u_lenL, u_lenT, u_abs, u_int, u_intB, u_max2, u_min2, is_map, is_int, is_nil, is_cons, is_app, bs_map, u_sum, u_all, u_any, u_max1, u_min1, u_listT, u_listL, u_listR, u_tupL, u_tupT, u_tupR, u_vals, u_rng1, x_tup, x_lst, x_tupN, x_lstN, x_lstE, x_tupE, x_dkI, x_dkS, wIte_pand, wIte_por, wIte_int, u_repB, u_repN, x_t0, x_l0, wSb_l0, x_t1, x_l1, wSb_l1, x_t2, x_l2, wSb_l2, x_t3, x_l3, wSb_l3, x_t4, x_l4, wSb_l4, x_t5, x_l5, wSb_l5, s_lT0, s_lL0, s_hT0, s_hL0, s_lT1, s_lL1, s_hT1, s_hL1, s_lT2, s_lL2, s_hT2, s_hL2, s_loT, s_loL, s_hiT, s_hiL, s_lohiT, s_lohiL, s_revT, s_revL, getS_t, getS_l, getL_ref, getDk_ref, isL_l, isDk_d, ap_0, ap_k, aps_0, aps_k, mok_append, mok_extend, mok_pop, mok_popat, Option.map_some, Option.map_none, Option.bind_some, Option.isSome_some, List.cons_append, List.nil_append, List.append_nil, List.length_map, List.length_append, List.length_cons, List.length_nil, List.set_cons_zero, List.set_cons_succ, List.getElem?_cons_zero, List.getElem?_cons_succ, Int.toNat_natCast, true_and, and_true, List.append_assoc, Nat.zero_add, Nat.reduceAdd, enumL_nil, enumL_cons, wFor_unroll, wFor_done, i01, i12, fun_rep]
  refine ⟨hjz, hjz, ends_loop (H := h ++ [.lst []]) (t := 0) (cf := zc) (by simp) (by omega) ha (by simp) ?_ ?_⟩
  · intro x k hk
    simp only [↓wE_nm, ↓wV_0, ↓wV_s, ↓wE_non, ↓wE_lbl, ↓wE_int, ↓wE_str, ↓wA_nil, ↓wA_cons, ↓wA_star, ↓wE_bin, ↓wE_neg, ↓wIn_i, ↓wE_nt, ↓wBl_b, ↓wE_and, ↓wE_or, ↓wB_one, ↓wB_and, ↓wB_or, ↓wIte_t, ↓wIte_f, ↓wE_cmp, ↓wE_cmp2, ↓wE_ife, ↓wE_call, ↓wE_bi, ↓wE_mth, ↓wE_sub, ↓wE_slc, ↓wE_comp, ↓wE_dct, ↓wE_dnewt, ↓wE_al, ↓wAl_lst, ↓wAl_dk, ↓wAl_dt, ↓wT_nm, ↓wX_0, ↓wX_s, ↓wT_tup, ↓wTs_nil, ↓wTs_cons, ↓wT_sub, ↓wI_seq, ↓wSeq_tup, ↓wSeq_lst, ↓wSeq_ref, ↓wSeq_scr, ↓wI_rng, ↓wRng_1, ↓wRng_2, ↓wI_enum, ↓wEnum_tup, ↓wEnum_lst, ↓wEnum_ref, ↓wI_zip, ↓wZip_tup, ↓wZip_lst, ↓wSs_nil, ↓wSs_cons, ↓wS_asg, ↓wS_par, ↓wP_nil, ↓wP_cons, ↓wS_expr, ↓wS_ret, ↓wS_retN, ↓wS_iff, ↓wIs_t, ↓wIs_f, ↓wS_for, ↓wS_whl, ↓wO_some, ↓wO_none, ↓wO_map, ↓wO_bind, ↓wO_chk, ↓wW_nil, ↓wW_cons, ↓b_addLR, ↓b_addRL, ↓m_append, ↓m_extend, ↓m_pop, ↓st_ref, ↓sb_ref, ↓len_ref, ↓wE_dcomp, ↓wSt_l, ↓wSt_i, ↓wSt_s, ↓wSt_t, ↓wSb_l, ↓wSb_i, ↓wSb_t, ↓wLn_l, ↓wLn_d, ↓wLn_t, ↓wO_ixn, wE_tupP, wE_lstP, plain_nil, plain_cons, wE_lstT, wE_tupT, starry_t, starry_f, decide_true, decide_false, Bool.not_false, Bool.not_true, Bool.true_and, Bool.and_true, Bool.false_and, Bool.and_false, Bool.or_false, Bool.false_or, Bool.or_true, Bool.true_or, Bool.or_self, wO_some, b_add, b_sub, b_mul, b_fdiv, b_mod, b_addT, b_addL, b_mulL, c_lt, c_le, c_gt, c_ge, c_eq, c_ne, c_eqS, c_neS, c_is_int, c_is_non, c_is_tup, c_isnt_int, c_isnt_non, c_isnt_tup, u_lenL, u_lenT, u_abs, u_int, u_intB, u_max2, u_min2, is_map, is_int, is_nil, is_cons, is_app, bs_map, u_sum, u_all, u_any, u_max1, u_min1, u_listT, u_listL, u_listR, u_tupL, u_tupT, u_tupR, u_vals, u_rng1, x_tup, x_lst, x_tupN, x_lstN, x_lstE, x_tupE, x_dkI, x_dkS, wIte_pand, wIte_por, wIte_int, u_repB, u_repN, x_t0, x_l0, wSb_l0, x_t1, x_l1, wSb_l1, x_t2, x_l2, wSb_l2, x_t3, x_l3, wSb_l3, x_t4, x_l4, wSb_l4, x_t5, x_l5, wSb_l5, s_lT0, s_lL0, s_hT0, s_hL0, s_lT1, s_lL1, s_hT1, s_hL1, s_lT2, s_lL2, s_hT2, s_hL2, s_loT, s_loL, s_hiT, s_hiL, s_lohiT, s_lohiL, s_revT, s_revL, getS_t, getS_l, getL_ref, getDk_ref, isL_l, isDk_d, ap_0, ap_k, aps_0, aps_k, mok_append, mok_extend, mok_pop, mok_popat, Option.map_some, Option.map_none, Option.bind_some, Option.isSome_some, List.cons_append, List.nil_append, List.append_nil, List.length_map, List.length_append, List.length_cons, List.length_nil, List.set_cons_zero, List.set_cons_succ, List.getElem?_cons_zero, List.getElem?_cons_succ, Int.toNat_natCast, true_and, and_true, List.append_assoc, Nat.zero_add, Nat.reduceAdd, List.getElem?_map, List.getElem?_range hk]
    rfl
  have ref : ∀ (hs : Hs) (n k : Nat) (f : Nat → Int), hs[n]? = some (.lst ((List.range js.length).map fun k => .int (f k))) → k < js.length → subD hs (.ref n) (.int (k : Nat)) = some (.int (f k)) := fun hs n k f e hk => by
    rw [x_refL (Q := fun _ => True) e, fun_get _ hk]
  intro o6 g
  simp only [↓wE_nm, ↓wV_0, ↓wV_s, ↓wE_non, ↓wE_lbl, ↓wE_int, ↓wE_str, ↓wA_nil, ↓wA_cons, ↓wA_star, ↓wE_bin, ↓wE_neg, ↓wIn_i, ↓wE_nt, ↓wBl_b, ↓wE_and, ↓wE_or, ↓wB_one, ↓wB_and, ↓wB_or, ↓wIte_t, ↓wIte_f, ↓wE_cmp, ↓wE_cmp2, ↓wE_ife, ↓wE_call, ↓wE_bi, ↓wE_mth, ↓wE_sub, ↓wE_slc, ↓wE_comp, ↓wE_dct, ↓wE_dnewt, ↓wE_al, ↓wAl_lst, ↓wAl_dk, ↓wAl_dt, ↓wT_nm, ↓wX_0, ↓wX_s, ↓wT_tup, ↓wTs_nil, ↓wTs_cons, ↓wT_sub, ↓wI_seq, ↓wSeq_tup, ↓wSeq_lst, ↓wSeq_ref, ↓wSeq_scr, ↓wI_rng, ↓wRng_1, ↓wRng_2, ↓wI_enum, ↓wEnum_tup, ↓wEnum_lst, ↓wEnum_ref, ↓wI_zip, ↓wZip_tup, ↓wZip_lst, ↓wSs_nil, ↓wSs_cons, ↓wS_asg, ↓wS_par, ↓wP_nil, ↓wP_cons, ↓wS_expr, ↓wS_ret, ↓wS_retN, ↓wS_iff, ↓wIs_t, ↓wIs_f, ↓wS_for, ↓wS_whl, ↓wO_some, ↓wO_none, ↓wO_map, ↓wO_bind, ↓wO_chk, ↓wW_nil, ↓wW_cons, ↓b_addLR, ↓b_addRL, ↓m_append, ↓m_extend, ↓m_pop, ↓st_ref, ↓sb_ref, ↓len_ref, ↓wE_dcomp, ↓wSt_l, ↓wSt_i, ↓wSt_s, ↓wSt_t, ↓wSb_l, ↓wSb_i, ↓wSb_t, ↓wLn_l, ↓wLn_d, ↓wLn_t, ↓wO_ixn, wE_tupP, wE_lstP, plain_nil, plain_cons, wE_lstT, wE_tupT, starry_t, starry_f, decide_true, decide_false, Bool.not_false, Bool.not_true, Bool.true_and, Bool.and_true, Bool.false_and, Bool.and_false, Bool.or_false, Bool.false_or, Bool.or_true, Bool.true_or, Bool.or_self, wO_some, b_add, b_sub, b_mul, b_fdiv, b_mod, b_addT, b_addL, b_mulL, c_lt, c_le, c_gt, c_ge, c_eq, c_ne, c_eqS, c_neS, c_is_int, c_is_non, c_is_tup, c_isnt_int, c_isnt_non, c_isnt_tup, u_lenL, u_lenT, u_abs, u_int, u_intB, u_max2, u_min2, is_map, is_int, is_nil, is_cons, is_app, bs_map, u_sum, u_all, u_any, u_max1, u_min1, u_listT, u_listL, u_listR, u_tupL, u_tupT, u_tupR, u_vals, u_rng1, x_tup, x_lst, x_tupN, x_lstN, x_lstE, x_tupE, x_dkI, x_dkS, wIte_pand, wIte_por, wIte_int, u_repB, u_repN, x_t0, x_l0, wSb_l0, x_t1, x_l1, wSb_l1, x_t2, x_l2, wSb_l2, x_t3, x_l3, wSb_l3, x_t4, x_l4, wSb_l4, x_t5, x_l5, wSb_l5, s_lT0, s_lL0, s_hT0, s_hL0, s_lT1, s_lL1, s_hT1, s_hL1, s_lT2, s_lL2, s_hT2, s_hL2, s_loT, s_loL, s_hiT, s_hiL, s_lohiT, s_lohiL, s_revT, s_revL, getS_t, getS_l, getL_ref, getDk_ref, isL_l, isDk_d, ap_0, ap_k, aps_0, aps_k, mok_append, mok_extend, mok_pop, mok_popat, Option.map_some, Option.map_none, Option.bind_some, Option.isSome_some, List.cons_append, List.nil_append, List.append_nil, List.length_map, List.length_append, List.length_cons, List.length_nil, List.set_cons_zero, List.set_cons_succ, List.getElem?_cons_zero, List.getElem?_cons_succ, Int.toNat_natCast, true_and, and_true, List.append_assoc, Nat.zero_add, Nat.reduceAdd, fun_rep, eOrd]
  refine ⟨fits_lt (by omega), hjz, ends_loop (H := h ++ [.lst [.ref (h.length + 1)], .lst ((List.range js.length).map fun k => .int (lE js 0 zc a k))]) (t := 1) (cf := lE js 0 zc a) (by simp) (by omega) hb (by simp) ?_ ?_⟩
  · exact fun x k hk => ref _ _ _ _ (by simp only [↓wE_nm, ↓wV_0, ↓wV_s, ↓wE_non, ↓wE_lbl, ↓wE_int, ↓wE_str, ↓wA_nil, ↓wA_cons, ↓wA_star, ↓wE_bin, ↓wE_neg, ↓wIn_i, ↓wE_nt, ↓wBl_b, ↓wE_and, ↓wE_or, ↓wB_one, ↓wB_and, ↓wB_or, ↓wIte_t, ↓wIte_f, ↓wE_cmp, ↓wE_cmp2, ↓wE_ife, ↓wE_call, ↓wE_bi, ↓wE_mth, ↓wE_sub, ↓wE_slc, ↓wE_comp, ↓wE_dct, ↓wE_dnewt, ↓wE_al, ↓wAl_lst, ↓wAl_dk, ↓wAl_dt, ↓wT_nm, ↓wX_0, ↓wX_s, ↓wT_tup, ↓wTs_nil, ↓wTs_cons, ↓wT_sub, ↓wI_seq, ↓wSeq_tup, ↓wSeq_lst, ↓wSeq_ref, ↓wSeq_scr, ↓wI_rng, ↓wRng_1, ↓wRng_2, ↓wI_enum, ↓wEnum_tup, ↓wEnum_lst, ↓wEnum_ref, ↓wI_zip, ↓wZip_tup, ↓wZip_lst, ↓wSs_nil, ↓wSs_cons, ↓wS_asg, ↓wS_par, ↓wP_nil, ↓wP_cons, ↓wS_expr, ↓wS_ret, ↓wS_retN, ↓wS_iff, ↓wIs_t, ↓wIs_f, ↓wS_for, ↓wS_whl, ↓wO_some, ↓wO_none, ↓wO_map, ↓wO_bind, ↓wO_chk, ↓wW_nil, ↓wW_cons, ↓b_addLR, ↓b_addRL, ↓m_append, ↓m_extend, ↓m_pop, ↓st_ref, ↓sb_ref, ↓len_ref, ↓wE_dcomp, ↓wSt_l, ↓wSt_i, ↓wSt_s, ↓wSt_t, ↓wSb_l, ↓wSb_i, ↓wSb_t, ↓wLn_l, ↓wLn_d, ↓wLn_t, ↓wO_ixn, wE_tupP, wE_lstP, plain_nil, plain_cons, wE_lstT, wE_tupT, starry_t, starry_f, decide_true, decide_false, Bool.not_false, Bool.not_true, Bool.true_and, Bool.and_true, Bool.false_and, Bool.and_false, Bool.or_false, Bool.false_or, Bool.or_true, Bool.true_or, Bool.or_self, wO_some, b_add, b_sub, b_mul, b_fdiv, b_mod, b_addT, b_addL, b_mulL, c_lt, c_le, c_gt, c_ge, c_eq, c_ne, c_eqS, c_neS, c_is_int, c_is_non, c_is_tup, c_isnt_int, c_isnt_non, c_isnt_tup, u_lenL, u_lenT, u_abs, u_int, u_intB, u_max2, u_min2, is_map, is_int, is_nil, is_cons, is_app, bs_map, u_sum, u_all, u_any, u_max1, u_min1, u_listT, u_listL, u_listR, u_tupL, u_tupT, u_tupR, u_vals, u_rng1, x_tup, x_lst, x_tupN, x_lstN, x_lstE, x_tupE, x_dkI, x_dkS, wIte_pand, wIte_por, wIte_int, u_repB, u_repN, x_t0, x_l0, wSb_l0, x_t1, x_l1, wSb_l1, x_t2, x_l2, wSb_l2, x_t3, x_l3, wSb_l3, x_t4, x_l4, wSb_l4, x_t5, x_l5, wSb_l5, s_lT0, s_lL0, s_hT0, s_hL0, s_lT1, s_lL1, s_hT1, s_hL1, s_lT2, s_lL2, s_hT2, s_hL2, s_loT, s_loL, s_hiT, s_hiL, s_lohiT, s_lohiL, s_revT, s_revL, getS_t, getS_l, getL_ref, getDk_ref, isL_l, isDk_d, ap_0, ap_k, aps_0, aps_k, mok_append, mok_extend, mok_pop, mok_popat, Option.map_some, Option.map_none, Option.bind_some, Option.isSome_some, List.cons_append, List.nil_append, List.append_nil, List.length_map, List.length_append, List.length_cons, List.length_nil, List.set_cons_zero, List.set_cons_succ, List.getElem?_cons_zero, List.getElem?_cons_succ, Int.toNat_natCast, true_and, and_true, List.append_assoc, Nat.zero_add, Nat.reduceAdd]) hk
  intro o6 g
  simp only [↓wE_nm, ↓wV_0, ↓wV_s, ↓wE_non, ↓wE_lbl, ↓wE_int, ↓wE_str, ↓wA_nil, ↓wA_cons, ↓wA_star, ↓wE_bin, ↓wE_neg, ↓wIn_i, ↓wE_nt, ↓wBl_b, ↓wE_and, ↓wE_or, ↓wB_one, ↓wB_and, ↓wB_or, ↓wIte_t, ↓wIte_f, ↓wE_cmp, ↓wE_cmp2, ↓wE_ife, ↓wE_call, ↓wE_bi, ↓wE_mth, ↓wE_sub, ↓wE_slc, ↓wE_comp, ↓wE_dct, ↓wE_dnewt, ↓wE_al, ↓wAl_lst, ↓wAl_dk, ↓wAl_dt, ↓wT_nm, ↓wX_0, ↓wX_s, ↓wT_tup, ↓wTs_nil, ↓wTs_cons, ↓wT_sub, ↓wI_seq, ↓wSeq_tup, ↓wSeq_lst, ↓wSeq_ref, ↓wSeq_scr, ↓wI_rng, ↓wRng_1, ↓wRng_2, ↓wI_enum, ↓wEnum_tup, ↓wEnum_lst, ↓wEnum_ref, ↓wI_zip, ↓wZip_tup, ↓wZip_lst, ↓wSs_nil, ↓wSs_cons, ↓wS_asg, ↓wS_par, ↓wP_nil, ↓wP_cons, ↓wS_expr, ↓wS_ret, ↓wS_retN, ↓wS_iff, ↓wIs_t, ↓wIs_f, ↓wS_for, ↓wS_whl, ↓wO_some, ↓wO_none, ↓wO_map, ↓wO_bind, ↓wO_chk, ↓wW_nil, ↓wW_cons, ↓b_addLR, ↓b_addRL, ↓m_append, ↓m_extend, ↓m_pop, ↓st_ref, ↓sb_ref, ↓len_ref, ↓wE_dcomp, ↓wSt_l, ↓wSt_i, ↓wSt_s, ↓wSt_t, ↓wSb_l, ↓wSb_i, ↓wSb_t, ↓wLn_l, ↓wLn_d, ↓wLn_t, ↓wO_ixn, wE_tupP, wE_lstP, plain_nil, plain_cons, wE_lstT, wE_tupT, starry_t, starry_f, decide_true, decide_false, Bool.not_false, Bool.not_true, Bool.true_and, Bool.and_true, Bool.false_and, Bool.and_false, Bool.or_false, Bool.false_or, Bool.or_true, Bool.true_or, Bool.or_self, wO_some, b_add, b_sub, b_mul, b_fdiv, b_mod, b_addT, b_addL, b_mulL, c_lt, c_le, c_gt, c_ge, c_eq, c_ne, c_eqS, c_neS, c_is_int, c_is_non, c_is_tup, c_isnt_int, c_isnt_non, c_isnt_tup, u_lenL, u_lenT, u_abs, u_int, u_intB, u_max2, u_min2, is_map, is_int, is_nil, is_cons, is_app, bs_map, u_sum, u_all, u_any, u_max1, u_min1, u_listT, u_listL, u_listR, u_tupL, u_tupT, u_tupR, u_vals, u_rng1, x_tup, x_lst, x_tupN, x_lstN, x_lstE, x_tupE, x_dkI, x_dkS, wIte_pand, wIte_por, wIte_int, u_repB, u_repN, x_t0, x_l0, wSb_l0, x_t1, x_l1, wSb_l1, x_t2, x_l2, wSb_l2, x_t3, x_l3, wSb_l3, x_t4, x_l4, wSb_l4, x_t5, x_l5, wSb_l5, s_lT0, s_lL0, s_hT0, s_hL0, s_lT1, s_lL1, s_hT1, s_hL1, s_lT2, s_lL2, s_hT2, s_hL2, s_loT, s_loL, s_hiT, s_hiL, s_lohiT, s_lohiL, s_revT, s_revL, getS_t, getS_l, getL_ref, getDk_ref, isL_l, isDk_d, ap_0, ap_k, aps_0, aps_k, mok_append, mok_extend, mok_pop, mok_popat, Option.map_some, Option.map_none, Option.bind_some, Option.isSome_some, List.cons_append, List.nil_append, List.append_nil, List.length_map, List.length_append, List.length_cons, List.length_nil, List.set_cons_zero, List.set_cons_succ, List.getElem?_cons_zero, List.getElem?_cons_succ, Int.toNat_natCast, true_and, and_true, List.append_assoc, Nat.zero_add, Nat.reduceAdd, fun_rep, eOrd]
  refine ⟨fits_lt (by omega), hjz, ends_loop (H := h ++ [.lst [.ref (h.length + 1), .ref (h.length + 2)], .lst ((List.range js.length).map fun k => .int (lE js 0 zc a k)), .lst ((List.range js.length).map fun k => .int (lE js 1 (lE js 0 zc a) b k))]) (t := 2) (cf := lE js 1 (lE js 0 zc a) b) (by simp) (by omega) hcc (by simp) ?_ ?_⟩
  · exact fun x k hk => ref _ _ _ _ (by simp only [↓wE_nm, ↓wV_0, ↓wV_s, ↓wE_non, ↓wE_lbl, ↓wE_int, ↓wE_str, ↓wA_nil, ↓wA_cons, ↓wA_star, ↓wE_bin, ↓wE_neg, ↓wIn_i, ↓wE_nt, ↓wBl_b, ↓wE_and, ↓wE_or, ↓wB_one, ↓wB_and, ↓wB_or, ↓wIte_t, ↓wIte_f, ↓wE_cmp, ↓wE_cmp2, ↓wE_ife, ↓wE_call, ↓wE_bi, ↓wE_mth, ↓wE_sub, ↓wE_slc, ↓wE_comp, ↓wE_dct, ↓wE_dnewt, ↓wE_al, ↓wAl_lst, ↓wAl_dk, ↓wAl_dt, ↓wT_nm, ↓wX_0, ↓wX_s, ↓wT_tup, ↓wTs_nil, ↓wTs_cons, ↓wT_sub, ↓wI_seq, ↓wSeq_tup, ↓wSeq_lst, ↓wSeq_ref, ↓wSeq_scr, ↓wI_rng, ↓wRng_1, ↓wRng_2, ↓wI_enum, ↓wEnum_tup, ↓wEnum_lst, ↓wEnum_ref, ↓wI_zip, ↓wZip_tup, ↓wZip_lst, ↓wSs_nil, ↓wSs_cons, ↓wS_asg, ↓wS_par, ↓wP_nil, ↓wP_cons, ↓wS_expr, ↓wS_ret, ↓wS_retN, ↓wS_iff, ↓wIs_t, ↓wIs_f, ↓wS_for, ↓wS_whl, ↓wO_some, ↓wO_none, ↓wO_map, ↓wO_bind, ↓wO_chk, ↓wW_nil, ↓wW_cons, ↓b_addLR, ↓b_addRL, ↓m_append, ↓m_extend, ↓m_pop, ↓st_ref, ↓sb_ref, ↓len_ref, ↓wE_dcomp, ↓wSt_l, ↓wSt_i, ↓wSt_s, ↓wSt_t, ↓wSb_l, ↓wSb_i, ↓wSb_t, ↓wLn_l, ↓wLn_d, ↓wLn_t, ↓wO_ixn, wE_tupP, wE_lstP, plain_nil, plain_cons, wE_lstT, wE_tupT, starry_t, starry_f, decide_true, decide_false, Bool.not_false, Bool.not_true, Bool.true_and, Bool.and_true, Bool.false_and, Bool.and_false, Bool.or_false, Bool.false_or, Bool.or_true, Bool.true_or, Bool.or_self, wO_some, b_add, b_sub, b_mul, b_fdiv, b_mod, b_addT, b_addL, b_mulL, c_lt, c_le, c_gt, c_ge, c_eq, c_ne, c_eqS, c_neS, c_is_int, c_is_non, c_is_tup, c_isnt_int, c_isnt_non, c_isnt_tup, u_lenL, u_lenT, u_abs, u_int, u_intB, u_max2, u_min2, is_map, is_int, is_nil, is_cons, is_app, bs_map, u_sum, u_all, u_any, u_max1, u_min1, u_listT, u_listL, u_listR, u_tupL, u_tupT, u_tupR, u_vals, u_rng1, x_tup, x_lst, x_tupN, x_lstN, x_lstE, x_tupE, x_dkI, x_dkS, wIte_pand, wIte_por, wIte_int, u_repB, u_repN, x_t0, x_l0, wSb_l0, x_t1, x_l1, wSb_l1, x_t2, x_l2, wSb_l2, x_t3, x_l3, wSb_l3, x_t4, x_l4, wSb_l4, x_t5, x_l5, wSb_l5, s_lT0, s_lL0, s_hT0, s_hL0, s_lT1, s_lL1, s_hT1, s_hL1, s_lT2, s_lL2, s_hT2, s_hL2, s_loT, s_loL, s_hiT, s_hiL, s_lohiT, s_lohiL, s_revT, s_revL, getS_t, getS_l, getL_ref, getDk_ref, isL_l, isDk_d, ap_0, ap_k, aps_0, aps_k, mok_append, mok_extend, mok_pop, mok_popat, Option.map_some, Option.map_none, Option.bind_some, Option.isSome_some, List.cons_append, List.nil_append, List.append_nil, List.length_map, List.length_append, List.length_cons, List.length_nil, List.set_cons_zero, List.set_cons_succ, List.getElem?_cons_zero, List.getElem?_cons_succ, Int.toNat_natCast, true_and, and_true, List.append_assoc, Nat.zero_add, Nat.reduceAdd]) hk
  intro o6 g
  simp only [↓wE_nm, ↓wV_0, ↓wV_s, ↓wE_non, ↓wE_lbl, ↓wE_int, ↓wE_str, ↓wA_nil, ↓wA_cons, ↓wA_star, ↓wE_bin, ↓wE_neg, ↓wIn_i, ↓wE_nt, ↓wBl_b, ↓wE_and, ↓wE_or, ↓wB_one, ↓wB_and, ↓wB_or, ↓wIte_t, ↓wIte_f, ↓wE_cmp, ↓wE_cmp2, ↓wE_ife, ↓wE_call, ↓wE_bi, ↓wE_mth, ↓wE_sub, ↓wE_slc, ↓wE_comp, ↓wE_dct, ↓wE_dnewt, ↓wE_al, ↓wAl_lst, ↓wAl_dk, ↓wAl_dt, ↓wT_nm, ↓wX_0, ↓wX_s, ↓wT_tup, ↓wTs_nil, ↓wTs_cons, ↓wT_sub, ↓wI_seq, ↓wSeq_tup, ↓wSeq_lst, ↓wSeq_ref, ↓wSeq_scr, ↓wI_rng, ↓wRng_1, ↓wRng_2, ↓wI_enum, ↓wEnum_tup, ↓wEnum_lst, ↓wEnum_ref, ↓wI_zip, ↓wZip_tup, ↓wZip_lst, ↓wSs_nil, ↓wSs_cons, ↓wS_asg, ↓wS_par, ↓wP_nil, ↓wP_cons, ↓wS_expr, ↓wS_ret, ↓wS_retN, ↓wS_iff, ↓wIs_t, ↓wIs_f, ↓wS_for, ↓wS_whl, ↓wO_some, ↓wO_none, ↓wO_map, ↓wO_bind, ↓wO_chk, ↓wW_nil, ↓wW_cons, ↓b_addLR, ↓b_addRL, ↓m_append, ↓m_extend, ↓m_pop, ↓st_ref, ↓sb_ref, ↓len_ref, ↓wE_dcomp, ↓wSt_l, ↓wSt_i, ↓wSt_s, ↓wSt_t, ↓wSb_l, ↓wSb_i, ↓wSb_t, ↓wLn_l, ↓wLn_d, ↓wLn_t, ↓wO_ixn, wE_tupP, wE_lstP, plain_nil, plain_cons, wE_lstT, wE_tupT, starry_t, starry_f, decide_true, decide_false, Bool.not_false, Bool.not_true, Bool.true_and, Bool.and_true, Bool.false_and, Bool.and_false, Bool.or_false, Bool.false_or, Bool.or_true, Bool.true_or, Bool.or_self, wO_some, b_add, b_sub, b_mul, b_fdiv, b_mod, b_addT, b_addL, b_mulL, c_lt, c_le, c_gt, c_ge, c_eq, c_ne, c_eqS, c_neS, c_is_int, c_is_non, c_is_tup, c_isnt_int, c_isnt_non, c_isnt_tup, u_lenL, u_lenT, u_abs, u_int, u_intB, u_max2, u_min2, is_map, is_int, is_nil, is_cons, is_app, bs_map, u_sum, u_all, u_any, u_max1, u_min1, u_listT, u_listL, u_listR, u_tupL, u_tupT, u_tupR, u_vals, u_rng1, x_tup, x_lst, x_tupN, x_lstN, x_lstE, x_tupE, x_dkI, x_dkS, wIte_pand, wIte_por, wIte_int, u_repB, u_repN, x_t0, x_l0, wSb_l0, x_t1, x_l1, wSb_l1, x_t2, x_l2, wSb_l2, x_t3, x_l3, wSb_l3, x_t4, x_l4, wSb_l4, x_t5, x_l5, wSb_l5, s_lT0, s_lL0, s_hT0, s_hL0, s_lT1, s_lL1, s_hT1, s_hL1, s_lT2, s_lL2, s_hT2, s_hL2, s_loT, s_loL, s_hiT, s_hiL, s_lohiT, s_lohiL, s_revT, s_revL, getS_t, getS_l, getL_ref, getDk_ref, isL_l, isDk_d, ap_0, ap_k, aps_0, aps_k, mok_append, mok_extend, mok_pop, mok_popat, Option.map_some, Option.map_none, Option.bind_some, Option.isSome_some, List.cons_append, List.nil_append, List.append_nil, List.length_map, List.length_append, List.length_cons, List.length_nil, List.set_cons_zero, List.set_cons_succ, List.getElem?_cons_zero, List.getElem?_cons_succ, Int.toNat_natCast, true_and, and_true, List.append_assoc, Nat.zero_add, Nat.reduceAdd]
  refine ⟨fits_lt (by omega), _, rfl, ?_⟩
  have low : ∀ f : Nat → Int, ∀ x ∈ (List.range js.length).map fun k => D.int (f k), Low h.length x := fun f => low_ofList (fun k => .int _) _
  have nl : ∀ k, ¬ Low h.length (.lst [.ref (h.length + 1), .ref (h.length + 2), .ref (h.length + 3)]) := fun k z => by
    cases z with
    | lst q => cases q _ List.mem_cons_self; omega
  refine frz_lst (Nat.le_refl _) ap_0 ?_
  simp only [List.mapM_cons, List.mapM_nil]
  rw [frz_ref (n := 18) (k := h.length + 1) (by omega) (by simp only [↓wE_nm, ↓wV_0, ↓wV_s, ↓wE_non, ↓wE_lbl, ↓wE_int, ↓wE_str, ↓wA_nil, ↓wA_cons, ↓wA_star, ↓wE_bin, ↓wE_neg, ↓wIn_i, ↓wE_nt, ↓wBl_b, ↓wE_and, ↓wE_or, ↓wB_one, ↓wB_and, ↓wB_or, ↓wIte_t, ↓wIte_f, ↓wE_cmp, ↓wE_cmp2, ↓wE_ife, ↓wE_call, ↓wE_bi, ↓wE_mth, ↓wE_sub, ↓wE_slc, ↓wE_comp, ↓wE_dct, ↓wE_dnewt, ↓wE_al, ↓wAl_lst, ↓wAl_dk, ↓wAl_dt, ↓wT_nm, ↓wX_0, ↓wX_s, ↓wT_tup, ↓wTs_nil, ↓wTs_cons, ↓wT_sub, ↓wI_seq, ↓wSeq_tup, ↓wSeq_lst, ↓wSeq_ref, ↓wSeq_scr, ↓wI_rng, ↓wRng_1, ↓wRng_2, ↓wI_enum, ↓wEnum_tup, ↓wEnum_lst, ↓wEnum_ref, ↓wI_zip, ↓wZip_tup, ↓wZip_lst, ↓wSs_nil, ↓wSs_cons, ↓wS_asg, ↓wS_par, ↓wP_nil, ↓wP_cons, ↓wS_expr, ↓wS_ret, ↓wS_retN, ↓wS_iff, ↓wIs_t, ↓wIs_f, ↓wS_for, ↓wS_whl, ↓wO_some, ↓wO_none, ↓wO_map, ↓wO_bind, ↓wO_chk, ↓wW_nil, ↓wW_cons, ↓b_addLR, ↓b_addRL, ↓m_append, ↓m_extend, ↓m_pop, ↓st_ref, ↓sb_ref, ↓len_ref, ↓wE_dcomp, ↓wSt_l, ↓wSt_i, ↓wSt_s, ↓wSt_t, ↓wSb_l, ↓wSb_i, ↓wSb_t, ↓wLn_l, ↓wLn_d, ↓wLn_t, ↓wO_ixn, wE_tupP, wE_lstP, plain_nil, plain_cons, wE_lstT, wE_tupT, starry_t, starry_f, decide_true, decide_false, Bool.not_false, Bool.not_true, Bool.true_and, Bool.and_true, Bool.false_and, Bool.and_false, Bool.or_false, Bool.false_or, Bool.or_true, Bool.true_or, Bool.or_self, wO_some, b_add, b_sub, b_mul, b_fdiv, b_mod, b_addT, b_addL, b_mulL, c_lt, c_le, c_gt, c_ge, c_eq, c_ne, c_eqS, c_neS, c_is_int, c_is_non, c_is_tup, c_isnt_int, c_isnt_non, c_isnt_tup, u_lenL, u_lenT, u_abs, u_int, u_intB, u_max2, u_min2, is_map, is_int, is_nil, is_cons, is_app, bs_map, u_sum, u_all, u_any, u_max1, u_min1, u_listT, u_listL, u_listR, u_tupL, u_tupT, u_tupR, u_vals, u_rng1, x_tup, x_lst, x_tupN, x_lstN, x_lstE, x_tupE, x_dkI, x_dkS, wIte_pand, wIte_por, wIte_int, u_repB, u_repN, x_t0, x_l0, wSb_l0, x_t1, x_l1, wSb_l1, x_t2, x_l2, wSb_l2, x_t3, x_l3, wSb_l3, x_t4, x_l4, wSb_l4, x_t5, x_l5, wSb_l5, s_lT0, s_lL0, s_hT0, s_hL0, s_lT1, s_lL1, s_hT1, s_hL1, s_lT2, s_lL2, s_hT2, s_hL2, s_loT, s_loL, s_hiT, s_hiL, s_lohiT, s_lohiL, s_revT, s_revL, getS_t, getS_l, getL_ref, getDk_ref, isL_l, isDk_d, ap_0, ap_k, aps_0, aps_k, mok_append, mok_extend, mok_pop, mok_popat, Option.map_some, Option.map_none, Option.bind_some, Option.isSome_some, List.cons_append, List.nil_append, List.append_nil, List.length_map, List.length_append, List.length_cons, List.length_nil, List.set_cons_zero, List.set_cons_succ, List.getElem?_cons_zero, List.getElem?_cons_succ, Int.toNat_natCast, true_and, and_true, List.append_assoc, Nat.zero_add, Nat.reduceAdd]; rfl) (low _), frz_ref (n := 18) (k := h.length + 2) (by omega) (by simp only [↓wE_nm, ↓wV_0, ↓wV_s, ↓wE_non, ↓wE_lbl, ↓wE_int, ↓wE_str, ↓wA_nil, ↓wA_cons, ↓wA_star, ↓wE_bin, ↓wE_neg, ↓wIn_i, ↓wE_nt, ↓wBl_b, ↓wE_and, ↓wE_or, ↓wB_one, ↓wB_and, ↓wB_or, ↓wIte_t, ↓wIte_f, ↓wE_cmp, ↓wE_cmp2, ↓wE_ife, ↓wE_call, ↓wE_bi, ↓wE_mth, ↓wE_sub, ↓wE_slc, ↓wE_comp, ↓wE_dct, ↓wE_dnewt, ↓wE_al, ↓wAl_lst, ↓wAl_dk, ↓wAl_dt, ↓wT_nm, ↓wX_0, ↓wX_s, ↓wT_tup, ↓wTs_nil, ↓wTs_cons, ↓wT_sub, ↓wI_seq, ↓wSeq_tup, ↓wSeq_lst, ↓wSeq_ref, ↓wSeq_scr, ↓wI_rng, ↓wRng_1, ↓wRng_2, ↓wI_enum, ↓wEnum_tup, ↓wEnum_lst, ↓wEnum_ref, ↓wI_zip, ↓wZip_tup, ↓wZip_lst, ↓wSs_nil, ↓wSs_cons, ↓wS_asg, ↓wS_par, ↓wP_nil, ↓wP_cons, ↓wS_expr, ↓wS_ret, ↓wS_retN, ↓wS_iff, ↓wIs_t, ↓wIs_f, ↓wS_for, ↓wS_whl, ↓wO_some, ↓wO_none, ↓wO_map, ↓wO_bind, ↓wO_chk, ↓wW_nil, ↓wW_cons, ↓b_addLR, ↓b_addRL, ↓m_append, ↓m_extend, ↓m_pop, ↓st_ref, ↓sb_ref, ↓len_ref, ↓wE_dcomp, ↓wSt_l, ↓wSt_i, ↓wSt_s, ↓wSt_t, ↓wSb_l, ↓wSb_i, ↓wSb_t, ↓wLn_l, ↓wLn_d, ↓wLn_t, ↓wO_ixn, wE_tupP, wE_lstP, plain_nil, plain_cons, wE_lstT, wE_tupT, starry_t, starry_f, decide_true, decide_false, Bool.not_false, Bool.not_true, Bool.true_and, Bool.and_true, Bool.false_and, Bool.and_false, Bool.or_false, Bool.false_or, Bool.or_true, Bool.true_or, Bool.or_self, wO_some, b_add, b_sub, b_mul, b_fdiv, b_mod, b_addT, b_addL, b_mulL, c_lt, c_le, c_gt, c_ge, c_eq, c_ne, c_eqS, c_neS, c_is_int, c_is_non, c_is_tup, c_isnt_int, c_isnt_non, c_isnt_tup, u_lenL, u_lenT, u_abs, u_int, u_intB, u_max2, u_min2, is_map, is_int, is_nil, is_cons, is_app, bs_map, u_sum, u_all, u_any, u_max1, u_min1, u_listT, u_listL, u_listR, u_tupL, u_tupT, u_tupR, u_vals, u_rng1, x_tup, x_lst, x_tupN, x_lstN, x_lstE, x_tupE, x_dkI, x_dkS, wIte_pand, wIte_por, wIte_int, u_repB, u_repN, x_t0, x_l0, wSb_l0, x_t1, x_l1, wSb_l1, x_t2, x_l2, wSb_l2, x_t3, x_l3, wSb_l3, x_t4, x_l4, wSb_l4, x_t5, x_l5, wSb_l5, s_lT0, s_lL0, s_hT0, s_hL0, s_lT1, s_lL1, s_hT1, s_hL1, s_lT2, s_lL2, s_hT2, s_hL2, s_loT, s_loL, s_hiT, s_hiL, s_lohiT, s_lohiL, s_revT, s_revL, getS_t, getS_l, getL_ref, getDk_ref, isL_l, isDk_d, ap_0, ap_k, aps_0, aps_k, mok_append, mok_extend, mok_pop, mok_popat, Option.map_some, Option.map_none, Option.bind_some, Option.isSome_some, List.cons_append, List.nil_append, List.append_nil, List.length_map, List.length_append, List.length_cons, List.length_nil, List.set_cons_zero, List.set_cons_succ, List.getElem?_cons_zero, List.getElem?_cons_succ, Int.toNat_natCast, true_and, and_true, List.append_assoc, Nat.zero_add, Nat.reduceAdd]; rfl) (low _), frz_ref (n := 18) (k := h.length + 3) (by omega) (by simp only [↓wE_nm, ↓wV_0, ↓wV_s, ↓wE_non, ↓wE_lbl, ↓wE_int, ↓wE_str, ↓wA_nil, ↓wA_cons, ↓wA_star, ↓wE_bin, ↓wE_neg, ↓wIn_i, ↓wE_nt, ↓wBl_b, ↓wE_and, ↓wE_or, ↓wB_one, ↓wB_and, ↓wB_or, ↓wIte_t, ↓wIte_f, ↓wE_cmp, ↓wE_cmp2, ↓wE_ife, ↓wE_call, ↓wE_bi, ↓wE_mth, ↓wE_sub, ↓wE_slc, ↓wE_comp, ↓wE_dct, ↓wE_dnewt, ↓wE_al, ↓wAl_lst, ↓wAl_dk, ↓wAl_dt, ↓wT_nm, ↓wX_0, ↓wX_s, ↓wT_tup, ↓wTs_nil, ↓wTs_cons, ↓wT_sub, ↓wI_seq, ↓wSeq_tup, ↓wSeq_lst, ↓wSeq_ref, ↓wSeq_scr, ↓wI_rng, ↓wRng_1, ↓wRng_2, ↓wI_enum, ↓wEnum_tup, ↓wEnum_lst, ↓wEnum_ref, ↓wI_zip, ↓wZip_tup, ↓wZip_lst, ↓wSs_nil, ↓wSs_cons, ↓wS_asg, ↓wS_par, ↓wP_nil, ↓wP_cons, ↓wS_expr, ↓wS_ret, ↓wS_retN, ↓wS_iff, ↓wIs_t, ↓wIs_f, ↓wS_for, ↓wS_whl, ↓wO_some, ↓wO_none, ↓wO_map, ↓wO_bind, ↓wO_chk, ↓wW_nil, ↓wW_cons, ↓b_addLR, ↓b_addRL, ↓m_append, ↓m_extend, ↓m_pop, ↓st_ref, ↓sb_ref, ↓len_ref, ↓wE_dcomp, ↓wSt_l, ↓wSt_i, ↓wSt_s, ↓wSt_t, ↓wSb_l, ↓wSb_i, ↓wSb_t, ↓wLn_l, ↓wLn_d, ↓wLn_t, ↓wO_ixn, wE_tupP, wE_lstP, plain_nil, plain_cons, wE_lstT, wE_tupT, starry_t, starry_f, decide_true, decide_false, Bool.not_false, Bool.not_true, Bool.true_and, Bool.and_true, Bool.false_and, Bool.and_false, Bool.or_false, Bool.false_or, Bool.or_true, Bool.true_or, Bool.or_self, wO_some, b_add, b_sub, b_mul, b_fdiv, b_mod, b_addT, b_addL, b_mulL, c_lt, c_le, c_gt, c_ge, c_eq, c_ne, c_eqS, c_neS, c_is_int, c_is_non, c_is_tup, c_isnt_int, c_isnt_non, c_isnt_tup, u_lenL, u_lenT, u_abs, u_int, u_intB, u_max2, u_min2, is_map, is_int, is_nil, is_cons, is_app, bs_map, u_sum, u_all, u_any, u_max1, u_min1, u_listT, u_listL, u_listR, u_tupL, u_tupT, u_tupR, u_vals, u_rng1, x_tup, x_lst, x_tupN, x_lstN, x_lstE, x_tupE, x_dkI, x_dkS, wIte_pand, wIte_por, wIte_int, u_repB, u_repN, x_t0, x_l0, wSb_l0, x_t1, x_l1, wSb_l1, x_t2, x_l2, wSb_l2, x_t3, x_l3, wSb_l3, x_t4, x_l4, wSb_l4, x_t5, x_l5, wSb_l5, s_lT0, s_lL0, s_hT0, s_hL0, s_lT1, s_lL1, s_hT1, s_hL1, s_lT2, s_lL2, s_hT2, s_hL2, s_loT, s_loL, s_hiT, s_hiL, s_lohiT, s_lohiL, s_revT, s_revL, getS_t, getS_l, getL_ref, getDk_ref, isL_l, isDk_d, ap_0, ap_k, aps_0, aps_k, mok_append, mok_extend, mok_pop, mok_popat, Option.map_some, Option.map_none, Option.bind_some, Option.isSome_some, List.cons_append, List.nil_append, List.append_nil, List.length_map, List.length_append, List.length_cons, List.length_nil, List.set_cons_zero, List.set_cons_succ, List.getElem?_cons_zero, List.getElem?_cons_succ, Int.toNat_natCast, true_and, and_true, List.append_assoc, Nat.zero_add, Nat.reduceAdd]; rfl) (low _)]
  rfl
theorem lE0_out (len c : Nat → Int) : ∀ (o : List Nat) (g : Int) (f : Nat → Int) (k : Nat), k ∉ o → lE0 len c g f o k = f k
  | [], _, _, _, _ => rfl
  | j :: r, g, f, k, h => by
    simp only [lE0]
    rw [lE0_out len c r _ _ k fun z => h (List.mem_cons_of_mem _ z), if_neg fun z => h (by rw [z]; exact List.mem_cons_self)]
theorem getK_cons {p : Nat × Int} {r : List (Nat × Int)} {k : Nat} : getK (p :: r) k = if p.1 = k then p.2 else getK r k := by
  unfold getK
  rw [List.find?_cons]
  by_cases e : p.1 = k
  · simp [e]
  · have : (p.1 == k) = false := by simpa using e
    simp only [this, if_neg e]
theorem lE0_getK (len c : Nat → Int) : ∀ (o : List Nat) (g : Int) (f : Nat → Int) (k : Nat), o.Nodup → k ∈ o → lE0 len c g f o k = getK (endsL len c g o) k
  | j :: r, g, f, k, hn, hk => by
    have hn' := List.nodup_cons.mp hn
    simp only [lE0, endsL, getK_cons]
    by_cases e : j = k
    · subst e
      rw [if_pos rfl, lE0_out _ _ _ _ _ _ hn'.1, if_pos rfl]
    · rw [if_neg e]
      rcases List.mem_cons.mp hk with h | h
      · exact absurd h.symm e
      · exact lE0_getK len c r _ _ k hn'.2 h
theorem lE_endF {js : List Job} {t : Nat} {c c' : Nat → Int} {o : List Nat} (hn : o.Nodup) {k : Nat} (hk : k ∈ o) (hcc : ∀ j ∈ o, c j = c' j) : lE js t c o k = endF (ln js t) c' o k := by
  unfold lE endF
  rw [lE0_getK _ _ _ _ _ _ hn hk, endsL_congr fun j hj => ⟨rfl, hcc j hj⟩]
theorem mxI_mem : ∀ (l : List Int) (a : Int), mxI a l = a ∨ mxI a l ∈ l
  | [], a => .inl rfl
  | b :: r, a => by
    simp only [mxI]
    rcases mxI_mem r (max a b) with h | h
    · rw [h]
      rcases Int.le_total b a with z | z
      · left; omega
      · right
        have : max a b = b := by omega
        rw [this]
        exact List.mem_cons_self
    · exact .inr (List.mem_cons_of_mem _ h)
theorem mxI_ub : ∀ (l : List Int) (a : Int), ∀ x ∈ l, x ≤ mxI a l
  | b :: r, a, x, hx => by
    simp only [mxI]
    rcases List.mem_cons.mp hx with rfl | hx
    · have := mxI_le r (max a x)
      omega
    · exact mxI_ub r _ x hx
/-- the greatest of a list with a nought behind it -/
theorem maxO_zero {l l' : List Int} (h : ∀ x, x ∈ l ↔ x ∈ l') : maxO (l ++ [0]) = some (.int (mxI 0 l')) := by
  have key : ∀ (i : Int) (r : List Int), l ++ [0] = i :: r → mxI i r = mxI 0 l' := by
    intro i r e
    have hm : ∀ x, x ∈ i :: r ↔ (x ∈ l' ∨ x = 0) := fun x => by
      rw [← e, List.mem_append, h x, List.mem_singleton]
    apply Int.le_antisymm
    · rcases mxI_mem r i with z | z
      · rw [z]
        rcases (hm i).mp List.mem_cons_self with z | z
        · exact mxI_ub _ _ _ z
        · rw [z]; exact mxI_le _ _
      · rcases (hm _).mp (List.mem_cons_of_mem _ z) with z | z
        · exact mxI_ub _ _ _ z
        · rw [z]; exact mxI_le _ _
    · rcases mxI_mem l' 0 with z | z
      · rw [z]
        rcases List.mem_cons.mp ((hm 0).mpr (.inr rfl)) with q | q
        · rw [q]; exact mxI_le _ _
        · exact mxI_ub _ _ _ q
      · rcases List.mem_cons.mp ((hm _).mpr (.inl z)) with q | q
        · rw [q]; exact mxI_le _ _
        · exact mxI_ub _ _ _ q
  cases hl : l ++ [0] with
  | nil => simp at hl
  | cons i r =>
    show some (D.int (maxI i r)) = _
    rw [maxI_mx, key i r hl]
def PermR (n : Nat) (o : List Nat) : Prop := o.Perm (List.range n)
theorem PermR.lt {n : Nat} {o : List Nat} (h : PermR n o) : ∀ k ∈ o, k < n := fun k hk => List.mem_range.mp ((show o.Perm _ from h).mem_iff.mp hk)
theorem PermR.nd {n : Nat} {o : List Nat} (h : PermR n o) : o.Nodup := (show o.Perm _ from h).nodup_iff.mpr List.nodup_range
theorem PermR.mem {n : Nat} {o : List Nat} (h : PermR n o) {k : Nat} (hk : k < n) : k ∈ o := (show o.Perm _ from h).mem_iff.mpr (List.mem_range.mpr hk)
theorem PermR.len {n : Nat} {o : List Nat} (h : PermR n o) : o.length = n := by rw [(show o.Perm _ from h).length_eq, List.length_range]
theorem last_spO {js : List Job} {a b c : List Nat} (ha : PermR js.length a) (hb : PermR js.length b) (hc : PermR js.length c) : maxO (((List.range js.length).map (lE js 2 (lE js 1 (lE js 0 zc a) b) c)) ++ [0]) = some (.int (spO js a b c)) := by
  have h1 : ∀ k, k < js.length → lE js 0 zc a k = e1F js a k := fun k hk => lE_endF ha.nd (ha.mem hk) fun _ _ => rfl
  have h2 : ∀ k, k < js.length → lE js 1 (lE js 0 zc a) b k = e2F js a b k := fun k hk => lE_endF hb.nd (hb.mem hk) fun j hj => h1 j (hb.lt j hj)
  have h3 : ∀ k, k < js.length → lE js 2 (lE js 1 (lE js 0 zc a) b) c k = getK (e3L js a b c) k := fun k hk => lE_endF hc.nd (hc.mem hk) fun j hj => h2 j (hc.lt j hj)
  unfold spO
  apply maxO_zero
  intro x
  constructor
  · intro hx
    obtain ⟨k, hk, rfl⟩ := List.mem_map.mp hx
    have hk' := List.mem_range.mp hk
    rw [h3 k hk']
    exact List.mem_map.mpr ⟨_, getK_mem (by unfold e3L; rw [endsL_fst]; exact hc.mem hk'), rfl⟩
  · intro hx
    obtain ⟨p, hp, rfl⟩ := List.mem_map.mp hx
    have hpc : p.1 ∈ c := by
      have : p.1 ∈ (e3L js a b c).map (·.1) := List.mem_map.mpr ⟨p, hp, rfl⟩
      unfold e3L at this
      rwa [endsL_fst] at this
    refine List.mem_map.mpr ⟨p.1, List.mem_range.mpr (hc.lt _ hpc), ?_⟩
    rw [h3 _ (hc.lt _ hpc)]
    have hz := zip_endF (len := ln js 2) (c := e2F js a b) hc.nd
    have hp2 : p ∈ c.map fun k => (k, endF (ln js 2) (e2F js a b) c k) := by
      rw [hz]
      have h1 : c.zip ((endsL (ln js 2) (e2F js a b) 0 c).map (·.2)) = e3L js a b c := by
        conv => lhs; lhs; rw [← endsL_fst (ln js 2) (e2F js a b) c 0]
        exact zip_self _
      rw [h1]
      exact hp
    obtain ⟨k, _, rfl⟩ := List.mem_map.mp hp2
    rfl
def Sp_law_span (P : Cl1) : Prop := ∀ (h : Hs) (js : List Job) (o : List Nat), PermR js.length o → js.length ≤ 1000 → Cl h → P [eJobs js, eOrd o] h = some (.int (sp1 js o), h)
theorem ok_law_span {c0 : Nat} (hL : 100 < L) (hp : Sp_law_ends (C c0)) : Sp_law_span (callD C L (F_law_span c0)) := by
  intro h js o ho hl hc
  have hol := ho.len
  refine call_pure rfl rfl hc ?_
  simp only [F_law_span, b_law_span, List.map_cons, List.map_nil, List.replicate, Nat.reduceSub]
  simp only [eJobs, ↓wE_nm, ↓wV_0, ↓wV_s, ↓wE_non, ↓wE_lbl, ↓wE_int, ↓wE_str, ↓wA_nil, ↓wA_cons, ↓wA_star, ↓wE_bin, ↓wE_neg, ↓wIn_i, ↓wE_nt, ↓wBl_b, ↓wE_and, ↓wE_or, ↓wB_one, ↓wB_and, ↓wB_or, ↓wIte_t, ↓wIte_f, ↓wE_cmp, ↓wE_cmp2, ↓wE_ife, ↓wE_call, ↓wE_bi, ↓wE_mth, ↓wE_sub, ↓wE_slc, ↓wE_comp, ↓wE_dct, ↓wE_dnewt, ↓wE_al, ↓wAl_lst, ↓wAl_dk, ↓wAl_dt, ↓wT_nm, ↓wX_0, ↓wX_s, ↓wT_tup, ↓wTs_nil, ↓wTs_cons, ↓wT_sub, ↓wI_seq, ↓wSeq_tup, ↓wSeq_lst, ↓wSeq_ref, ↓wSeq_scr, ↓wI_rng, ↓wRng_1, ↓wRng_2, ↓wI_enum, ↓wEnum_tup, ↓wEnum_lst, ↓wEnum_ref, ↓wI_zip, ↓wZip_tup, ↓wZip_lst, ↓wSs_nil, ↓wSs_cons, ↓wS_asg, ↓wS_par, ↓wP_nil, ↓wP_cons, ↓wS_expr, ↓wS_ret, ↓wS_retN, ↓wS_iff, ↓wIs_t, ↓wIs_f, ↓wS_for, ↓wS_whl, ↓wO_some, ↓wO_none, ↓wO_map, ↓wO_bind, ↓wO_chk, ↓wW_nil, ↓wW_cons, ↓b_addLR, ↓b_addRL, ↓m_append, ↓m_extend, ↓m_pop, ↓st_ref, ↓sb_ref, ↓len_ref, ↓wE_dcomp, ↓wSt_l, ↓wSt_i, ↓wSt_s, ↓wSt_t, ↓wSb_l, ↓wSb_i, ↓wSb_t, ↓wLn_l, ↓wLn_d, ↓wLn_t, ↓wO_ixn, wE_tupP, wE_lstP, plain_nil, plain_cons, wE_lstT, wE_tupT, starry_t, starry_f, decide_true, decide_false, Bool.not_false, Bool.not_true, Bool.true_and, Bool.and_true, Bool.false_and, Bool.and_false, Bool.or_false, Bool.false_or, Bool.or_true, Bool.true_or, Bool.or_self, wO_some, b_add, b_sub, b_mul, b_fdiv, b_mod, b_addT, b_addL, b_mulL, c_lt, c_le, c_gt, c_ge, c_eq, c_ne, c_eqS, c_neS, c_is_int, c_is_non, c_is_tup, c_isnt_int, c_isnt_non, c_isnt_tup, u_lenL, u_lenT, u_abs, u_int, u_intB, u_max2, u_min2, is_map, is_int, is_nil, is_cons, is_app, bs_map, u_sum, u_all, u_any, u_max1, u_min1, u_listT, u_listL, u_listR, u_tupL, u_tupT, u_tupR, u_vals, u_rng1, x_tup, x_lst, x_tupN, x_lstN, x_lstE, x_tupE, x_dkI, x_dkS, wIte_pand, wIte_por, wIte_int, u_repB, u_repN, x_t0, x_l0, wSb_l0, x_t1, x_l1, wSb_l1, x_t2, x_l2, wSb_l2, x_t3, x_l3, wSb_l3, x_t4, x_l4, wSb_l4, x_t5, x_l5, wSb_l5, s_lT0, s_lL0, s_hT0, s_hL0, s_lT1, s_lL1, s_hT1, s_hL1, s_lT2, s_lL2, s_hT2, s_hL2, s_loT, s_loL, s_hiT, s_hiL, s_lohiT, s_lohiL, s_revT, s_revL, getS_t, getS_l, getL_ref, getDk_ref, isL_l, isDk_d, ap_0, ap_k, aps_0, aps_k, mok_append, mok_extend, mok_pop, mok_popat, Option.map_some, Option.map_none, Option.bind_some, Option.isSome_some, List.cons_append, List.nil_append, List.append_nil, List.length_map, List.length_append, List.length_cons, List.length_nil, List.set_cons_zero, List.set_cons_succ, List.getElem?_cons_zero, List.getElem?_cons_succ, Int.toNat_natCast, true_and, and_true, List.append_assoc, Nat.zero_add, Nat.reduceAdd, eOrd]
  have := hp h js o o o ho.lt ho.lt ho.lt (by omega) (by omega) (by omega) hl hc
  simp only [eJobs, eOrd] at this
  simp only [this, ↓wE_nm, ↓wV_0, ↓wV_s, ↓wE_non, ↓wE_lbl, ↓wE_int, ↓wE_str, ↓wA_nil, ↓wA_cons, ↓wA_star, ↓wE_bin, ↓wE_neg, ↓wIn_i, ↓wE_nt, ↓wBl_b, ↓wE_and, ↓wE_or, ↓wB_one, ↓wB_and, ↓wB_or, ↓wIte_t, ↓wIte_f, ↓wE_cmp, ↓wE_cmp2, ↓wE_ife, ↓wE_call, ↓wE_bi, ↓wE_mth, ↓wE_sub, ↓wE_slc, ↓wE_comp, ↓wE_dct, ↓wE_dnewt, ↓wE_al, ↓wAl_lst, ↓wAl_dk, ↓wAl_dt, ↓wT_nm, ↓wX_0, ↓wX_s, ↓wT_tup, ↓wTs_nil, ↓wTs_cons, ↓wT_sub, ↓wI_seq, ↓wSeq_tup, ↓wSeq_lst, ↓wSeq_ref, ↓wSeq_scr, ↓wI_rng, ↓wRng_1, ↓wRng_2, ↓wI_enum, ↓wEnum_tup, ↓wEnum_lst, ↓wEnum_ref, ↓wI_zip, ↓wZip_tup, ↓wZip_lst, ↓wSs_nil, ↓wSs_cons, ↓wS_asg, ↓wS_par, ↓wP_nil, ↓wP_cons, ↓wS_expr, ↓wS_ret, ↓wS_retN, ↓wS_iff, ↓wIs_t, ↓wIs_f, ↓wS_for, ↓wS_whl, ↓wO_some, ↓wO_none, ↓wO_map, ↓wO_bind, ↓wO_chk, ↓wW_nil, ↓wW_cons, ↓b_addLR, ↓b_addRL, ↓m_append, ↓m_extend, ↓m_pop, ↓st_ref, ↓sb_ref, ↓len_ref, ↓wE_dcomp, ↓wSt_l, ↓wSt_i, ↓wSt_s, ↓wSt_t, ↓wSb_l, ↓wSb_i, ↓wSb_t, ↓wLn_l, ↓wLn_d, ↓wLn_t, ↓wO_ixn, wE_tupP, wE_lstP, plain_nil, plain_cons, wE_lstT, wE_tupT, starry_t, starry_f, decide_true, decide_false, Bool.not_false, Bool.not_true, Bool.true_and, Bool.and_true, Bool.false_and, Bool.and_false, Bool.or_false, Bool.false_or, Bool.or_true, Bool.true_or, Bool.or_self, wO_some, b_add, b_sub, b_mul, b_fdiv, b_mod, b_addT, b_addL, b_mulL, c_lt, c_le, c_gt, c_ge, c_eq, c_ne, c_eqS, c_neS, c_is_int, c_is_non, c_is_tup, c_isnt_int, c_isnt_non, c_isnt_tup, u_lenL, u_lenT, u_abs, u_int, u_intB, u_max2, u_min2, is_map, is_int, is_nil, is_cons, is_app, bs_map, u_sum, u_all, u_any, u_max1, u_min1, u_listT, u_listL, u_listR, u_tupL, u_tupT, u_tupR, u_vals, u_rng1, x_tup, x_lst, x_tupN, x_lstN, x_lstE, x_tupE, x_dkI, x_dkS, wIte_pand, wIte_por, wIte_int, u_repB, u_repN, x_t0, x_l0, wSb_l0, x_t1, x_l1, wSb_l1, x_t2, x_l2, wSb_l2, x_t3, x_l3, wSb_l3, x_t4, x_l4, wSb_l4, x_t5, x_l5, wSb_l5, s_lT0, s_lL0, s_hT0, s_hL0, s_lT1, s_lL1, s_hT1, s_hL1, s_lT2, s_lL2, s_hT2, s_hL2, s_loT, s_loL, s_hiT, s_hiL, s_lohiT, s_lohiL, s_revT, s_revL, getS_t, getS_l, getL_ref, getDk_ref, isL_l, isDk_d, ap_0, ap_k, aps_0, aps_k, mok_append, mok_extend, mok_pop, mok_popat, Option.map_some, Option.map_none, Option.bind_some, Option.isSome_some, List.cons_append, List.nil_append, List.append_nil, List.length_map, List.length_append, List.length_cons, List.length_nil, List.set_cons_zero, List.set_cons_succ, List.getElem?_cons_zero, List.getElem?_cons_succ, Int.toNat_natCast, true_and, and_true, List.append_assoc, Nat.zero_add, Nat.reduceAdd, x_lst2, List.length_range, last_spO ho ho ho]
  exact ⟨fits_of (by omega), ret_low (.int _)⟩
def Sp_law_small (P : Cl1) : Prop := ∀ (h : Hs) (js : List Job), js.length ≤ 1000 → Cl h → P [eJobs js] h = some (.bl (small js), h)
theorem ok_law_small (hL : 100 < L) : Sp_law_small (callD C L F_law_small) := by
  intro h js hl hc
  refine call_pure rfl rfl hc ?_
  have hjz : js.length ≤ sizeLine := fits_of (by omega)
  simp only [F_law_small, b_law_small, List.map_cons, List.map_nil, List.replicate, Nat.reduceSub]
  simp only [eJobs, ↓wE_nm, ↓wV_0, ↓wV_s, ↓wE_non, ↓wE_lbl, ↓wE_int, ↓wE_str, ↓wA_nil, ↓wA_cons, ↓wA_star, ↓wE_bin, ↓wE_neg, ↓wIn_i, ↓wE_nt, ↓wBl_b, ↓wE_and, ↓wE_or, ↓wB_one, ↓wB_and, ↓wB_or, ↓wIte_t, ↓wIte_f, ↓wE_cmp, ↓wE_cmp2, ↓wE_ife, ↓wE_call, ↓wE_bi, ↓wE_mth, ↓wE_sub, ↓wE_slc, ↓wE_comp, ↓wE_dct, ↓wE_dnewt, ↓wE_al, ↓wAl_lst, ↓wAl_dk, ↓wAl_dt, ↓wT_nm, ↓wX_0, ↓wX_s, ↓wT_tup, ↓wTs_nil, ↓wTs_cons, ↓wT_sub, ↓wI_seq, ↓wSeq_tup, ↓wSeq_lst, ↓wSeq_ref, ↓wSeq_scr, ↓wI_rng, ↓wRng_1, ↓wRng_2, ↓wI_enum, ↓wEnum_tup, ↓wEnum_lst, ↓wEnum_ref, ↓wI_zip, ↓wZip_tup, ↓wZip_lst, ↓wSs_nil, ↓wSs_cons, ↓wS_asg, ↓wS_par, ↓wP_nil, ↓wP_cons, ↓wS_expr, ↓wS_ret, ↓wS_retN, ↓wS_iff, ↓wIs_t, ↓wIs_f, ↓wS_for, ↓wS_whl, ↓wO_some, ↓wO_none, ↓wO_map, ↓wO_bind, ↓wO_chk, ↓wW_nil, ↓wW_cons, ↓b_addLR, ↓b_addRL, ↓m_append, ↓m_extend, ↓m_pop, ↓st_ref, ↓sb_ref, ↓len_ref, ↓wE_dcomp, ↓wSt_l, ↓wSt_i, ↓wSt_s, ↓wSt_t, ↓wSb_l, ↓wSb_i, ↓wSb_t, ↓wLn_l, ↓wLn_d, ↓wLn_t, ↓wO_ixn, wE_tupP, wE_lstP, plain_nil, plain_cons, wE_lstT, wE_tupT, starry_t, starry_f, decide_true, decide_false, Bool.not_false, Bool.not_true, Bool.true_and, Bool.and_true, Bool.false_and, Bool.and_false, Bool.or_false, Bool.false_or, Bool.or_true, Bool.true_or, Bool.or_self, wO_some, b_add, b_sub, b_mul, b_fdiv, b_mod, b_addT, b_addL, b_mulL, c_lt, c_le, c_gt, c_ge, c_eq, c_ne, c_eqS, c_neS, c_is_int, c_is_non, c_is_tup, c_isnt_int, c_isnt_non, c_isnt_tup, u_lenL, u_lenT, u_abs, u_int, u_intB, u_max2, u_min2, is_map, is_int, is_nil, is_cons, is_app, bs_map, u_sum, u_all, u_any, u_max1, u_min1, u_listT, u_listL, u_listR, u_tupL, u_tupT, u_tupR, u_vals, u_rng1, x_tup, x_lst, x_tupN, x_lstN, x_lstE, x_tupE, x_dkI, x_dkS, wIte_pand, wIte_por, wIte_int, u_repB, u_repN, x_t0, x_l0, wSb_l0, x_t1, x_l1, wSb_l1, x_t2, x_l2, wSb_l2, x_t3, x_l3, wSb_l3, x_t4, x_l4, wSb_l4, x_t5, x_l5, wSb_l5, s_lT0, s_lL0, s_hT0, s_hL0, s_lT1, s_lL1, s_hT1, s_hL1, s_lT2, s_lL2, s_hT2, s_hL2, s_loT, s_loL, s_hiT, s_hiL, s_lohiT, s_lohiL, s_revT, s_revL, getS_t, getS_l, getL_ref, getDk_ref, isL_l, isDk_d, ap_0, ap_k, aps_0, aps_k, mok_append, mok_extend, mok_pop, mok_popat, Option.map_some, Option.map_none, Option.bind_some, Option.isSome_some, List.cons_append, List.nil_append, List.append_nil, List.length_map, List.length_append, List.length_cons, List.length_nil, List.set_cons_zero, List.set_cons_succ, List.getElem?_cons_zero, List.getElem?_cons_succ, Int.toNat_natCast, true_and, and_true, List.append_assoc, Nat.zero_add, Nat.reduceAdd, eOrd]
  refine wComp_pure (fun j : Job => .int j.2.1) ?_ ?_
  · intro j _
    simp only [↓wE_nm, ↓wV_0, ↓wV_s, ↓wE_non, ↓wE_lbl, ↓wE_int, ↓wE_str, ↓wA_nil, ↓wA_cons, ↓wA_star, ↓wE_bin, ↓wE_neg, ↓wIn_i, ↓wE_nt, ↓wBl_b, ↓wE_and, ↓wE_or, ↓wB_one, ↓wB_and, ↓wB_or, ↓wIte_t, ↓wIte_f, ↓wE_cmp, ↓wE_cmp2, ↓wE_ife, ↓wE_call, ↓wE_bi, ↓wE_mth, ↓wE_sub, ↓wE_slc, ↓wE_comp, ↓wE_dct, ↓wE_dnewt, ↓wE_al, ↓wAl_lst, ↓wAl_dk, ↓wAl_dt, ↓wT_nm, ↓wX_0, ↓wX_s, ↓wT_tup, ↓wTs_nil, ↓wTs_cons, ↓wT_sub, ↓wI_seq, ↓wSeq_tup, ↓wSeq_lst, ↓wSeq_ref, ↓wSeq_scr, ↓wI_rng, ↓wRng_1, ↓wRng_2, ↓wI_enum, ↓wEnum_tup, ↓wEnum_lst, ↓wEnum_ref, ↓wI_zip, ↓wZip_tup, ↓wZip_lst, ↓wSs_nil, ↓wSs_cons, ↓wS_asg, ↓wS_par, ↓wP_nil, ↓wP_cons, ↓wS_expr, ↓wS_ret, ↓wS_retN, ↓wS_iff, ↓wIs_t, ↓wIs_f, ↓wS_for, ↓wS_whl, ↓wO_some, ↓wO_none, ↓wO_map, ↓wO_bind, ↓wO_chk, ↓wW_nil, ↓wW_cons, ↓b_addLR, ↓b_addRL, ↓m_append, ↓m_extend, ↓m_pop, ↓st_ref, ↓sb_ref, ↓len_ref, ↓wE_dcomp, ↓wSt_l, ↓wSt_i, ↓wSt_s, ↓wSt_t, ↓wSb_l, ↓wSb_i, ↓wSb_t, ↓wLn_l, ↓wLn_d, ↓wLn_t, ↓wO_ixn, wE_tupP, wE_lstP, plain_nil, plain_cons, wE_lstT, wE_tupT, starry_t, starry_f, decide_true, decide_false, Bool.not_false, Bool.not_true, Bool.true_and, Bool.and_true, Bool.false_and, Bool.and_false, Bool.or_false, Bool.false_or, Bool.or_true, Bool.true_or, Bool.or_self, wO_some, b_add, b_sub, b_mul, b_fdiv, b_mod, b_addT, b_addL, b_mulL, c_lt, c_le, c_gt, c_ge, c_eq, c_ne, c_eqS, c_neS, c_is_int, c_is_non, c_is_tup, c_isnt_int, c_isnt_non, c_isnt_tup, u_lenL, u_lenT, u_abs, u_int, u_intB, u_max2, u_min2, is_map, is_int, is_nil, is_cons, is_app, bs_map, u_sum, u_all, u_any, u_max1, u_min1, u_listT, u_listL, u_listR, u_tupL, u_tupT, u_tupR, u_vals, u_rng1, x_tup, x_lst, x_tupN, x_lstN, x_lstE, x_tupE, x_dkI, x_dkS, wIte_pand, wIte_por, wIte_int, u_repB, u_repN, x_t0, x_l0, wSb_l0, x_t1, x_l1, wSb_l1, x_t2, x_l2, wSb_l2, x_t3, x_l3, wSb_l3, x_t4, x_l4, wSb_l4, x_t5, x_l5, wSb_l5, s_lT0, s_lL0, s_hT0, s_hL0, s_lT1, s_lL1, s_hT1, s_hL1, s_lT2, s_lL2, s_hT2, s_hL2, s_loT, s_loL, s_hiT, s_hiL, s_lohiT, s_lohiL, s_revT, s_revL, getS_t, getS_l, getL_ref, getDk_ref, isL_l, isDk_d, ap_0, ap_k, aps_0, aps_k, mok_append, mok_extend, mok_pop, mok_popat, Option.map_some, Option.map_none, Option.bind_some, Option.isSome_some, List.cons_append, List.nil_append, List.append_nil, List.length_map, List.length_append, List.length_cons, List.length_nil, List.set_cons_zero, List.set_cons_succ, List.getElem?_cons_zero, List.getElem?_cons_succ, Int.toNat_natCast, true_and, and_true, List.append_assoc, Nat.zero_add, Nat.reduceAdd, eJob]
  simp only [↓wE_nm, ↓wV_0, ↓wV_s, ↓wE_non, ↓wE_lbl, ↓wE_int, ↓wE_str, ↓wA_nil, ↓wA_cons, ↓wA_star, ↓wE_bin, ↓wE_neg, ↓wIn_i, ↓wE_nt, ↓wBl_b, ↓wE_and, ↓wE_or, ↓wB_one, ↓wB_and, ↓wB_or, ↓wIte_t, ↓wIte_f, ↓wE_cmp, ↓wE_cmp2, ↓wE_ife, ↓wE_call, ↓wE_bi, ↓wE_mth, ↓wE_sub, ↓wE_slc, ↓wE_comp, ↓wE_dct, ↓wE_dnewt, ↓wE_al, ↓wAl_lst, ↓wAl_dk, ↓wAl_dt, ↓wT_nm, ↓wX_0, ↓wX_s, ↓wT_tup, ↓wTs_nil, ↓wTs_cons, ↓wT_sub, ↓wI_seq, ↓wSeq_tup, ↓wSeq_lst, ↓wSeq_ref, ↓wSeq_scr, ↓wI_rng, ↓wRng_1, ↓wRng_2, ↓wI_enum, ↓wEnum_tup, ↓wEnum_lst, ↓wEnum_ref, ↓wI_zip, ↓wZip_tup, ↓wZip_lst, ↓wSs_nil, ↓wSs_cons, ↓wS_asg, ↓wS_par, ↓wP_nil, ↓wP_cons, ↓wS_expr, ↓wS_ret, ↓wS_retN, ↓wS_iff, ↓wIs_t, ↓wIs_f, ↓wS_for, ↓wS_whl, ↓wO_some, ↓wO_none, ↓wO_map, ↓wO_bind, ↓wO_chk, ↓wW_nil, ↓wW_cons, ↓b_addLR, ↓b_addRL, ↓m_append, ↓m_extend, ↓m_pop, ↓st_ref, ↓sb_ref, ↓len_ref, ↓wE_dcomp, ↓wSt_l, ↓wSt_i, ↓wSt_s, ↓wSt_t, ↓wSb_l, ↓wSb_i, ↓wSb_t, ↓wLn_l, ↓wLn_d, ↓wLn_t, ↓wO_ixn, wE_tupP, wE_lstP, plain_nil, plain_cons, wE_lstT, wE_tupT, starry_t, starry_f, decide_true, decide_false, Bool.not_false, Bool.not_true, Bool.true_and, Bool.and_true, Bool.false_and, Bool.and_false, Bool.or_false, Bool.false_or, Bool.or_true, Bool.true_or, Bool.or_self, wO_some, b_add, b_sub, b_mul, b_fdiv, b_mod, b_addT, b_addL, b_mulL, c_lt, c_le, c_gt, c_ge, c_eq, c_ne, c_eqS, c_neS, c_is_int, c_is_non, c_is_tup, c_isnt_int, c_isnt_non, c_isnt_tup, u_lenL, u_lenT, u_abs, u_int, u_intB, u_max2, u_min2, is_map, is_int, is_nil, is_cons, is_app, bs_map, u_sum, u_all, u_any, u_max1, u_min1, u_listT, u_listL, u_listR, u_tupL, u_tupT, u_tupR, u_vals, u_rng1, x_tup, x_lst, x_tupN, x_lstN, x_lstE, x_tupE, x_dkI, x_dkS, wIte_pand, wIte_por, wIte_int, u_repB, u_repN, x_t0, x_l0, wSb_l0, x_t1, x_l1, wSb_l1, x_t2, x_l2, wSb_l2, x_t3, x_l3, wSb_l3, x_t4, x_l4, wSb_l4, x_t5, x_l5, wSb_l5, s_lT0, s_lL0, s_hT0, s_hL0, s_lT1, s_lL1, s_hT1, s_hL1, s_lT2, s_lL2, s_hT2, s_hL2, s_loT, s_loL, s_hiT, s_hiL, s_lohiT, s_lohiL, s_revT, s_revL, getS_t, getS_l, getL_ref, getDk_ref, isL_l, isDk_d, ap_0, ap_k, aps_0, aps_k, mok_append, mok_extend, mok_pop, mok_popat, Option.map_some, Option.map_none, Option.bind_some, Option.isSome_some, List.cons_append, List.nil_append, List.append_nil, List.length_map, List.length_append, List.length_cons, List.length_nil, List.set_cons_zero, List.set_cons_succ, List.getElem?_cons_zero, List.getElem?_cons_succ, Int.toNat_natCast, true_and, and_true, List.append_assoc, Nat.zero_add, Nat.reduceAdd]
  have hm : maxO ((js.map fun j => j.2.1) ++ [0]) = some (.int (mostB js)) := by
    unfold mostB
    rw [maxI_mx]
    exact maxO_zero fun x => Iff.rfl
  have e1 : ∀ (l : List Job) (h' : Hs), cmpD h' .eq (.lst (l.map fun _ => D.int 1)) (.lst []) = some l.isEmpty := fun l h' => by
    rw [c_eqT (eq_lst (k := 0) (eqL_r0 fun x hx => ?_)) (by omega)]
    · cases l <;> rfl
    · obtain ⟨_, _, rfl⟩ := List.mem_map.mp hx
      exact ⟨_, dt_int⟩
  rw [hm]
  simp only [↓wE_nm, ↓wV_0, ↓wV_s, ↓wE_non, ↓wE_lbl, ↓wE_int, ↓wE_str, ↓wA_nil, ↓wA_cons, ↓wA_star, ↓wE_bin, ↓wE_neg, ↓wIn_i, ↓wE_nt, ↓wBl_b, ↓wE_and, ↓wE_or, ↓wB_one, ↓wB_and, ↓wB_or, ↓wIte_t, ↓wIte_f, ↓wE_cmp, ↓wE_cmp2, ↓wE_ife, ↓wE_call, ↓wE_bi, ↓wE_mth, ↓wE_sub, ↓wE_slc, ↓wE_comp, ↓wE_dct, ↓wE_dnewt, ↓wE_al, ↓wAl_lst, ↓wAl_dk, ↓wAl_dt, ↓wT_nm, ↓wX_0, ↓wX_s, ↓wT_tup, ↓wTs_nil, ↓wTs_cons, ↓wT_sub, ↓wI_seq, ↓wSeq_tup, ↓wSeq_lst, ↓wSeq_ref, ↓wSeq_scr, ↓wI_rng, ↓wRng_1, ↓wRng_2, ↓wI_enum, ↓wEnum_tup, ↓wEnum_lst, ↓wEnum_ref, ↓wI_zip, ↓wZip_tup, ↓wZip_lst, ↓wSs_nil, ↓wSs_cons, ↓wS_asg, ↓wS_par, ↓wP_nil, ↓wP_cons, ↓wS_expr, ↓wS_ret, ↓wS_retN, ↓wS_iff, ↓wIs_t, ↓wIs_f, ↓wS_for, ↓wS_whl, ↓wO_some, ↓wO_none, ↓wO_map, ↓wO_bind, ↓wO_chk, ↓wW_nil, ↓wW_cons, ↓b_addLR, ↓b_addRL, ↓m_append, ↓m_extend, ↓m_pop, ↓st_ref, ↓sb_ref, ↓len_ref, ↓wE_dcomp, ↓wSt_l, ↓wSt_i, ↓wSt_s, ↓wSt_t, ↓wSb_l, ↓wSb_i, ↓wSb_t, ↓wLn_l, ↓wLn_d, ↓wLn_t, ↓wO_ixn, wE_tupP, wE_lstP, plain_nil, plain_cons, wE_lstT, wE_tupT, starry_t, starry_f, decide_true, decide_false, Bool.not_false, Bool.not_true, Bool.true_and, Bool.and_true, Bool.false_and, Bool.and_false, Bool.or_false, Bool.false_or, Bool.or_true, Bool.true_or, Bool.or_self, wO_some, b_add, b_sub, b_mul, b_fdiv, b_mod, b_addT, b_addL, b_mulL, c_lt, c_le, c_gt, c_ge, c_eq, c_ne, c_eqS, c_neS, c_is_int, c_is_non, c_is_tup, c_isnt_int, c_isnt_non, c_isnt_tup, u_lenL, u_lenT, u_abs, u_int, u_intB, u_max2, u_min2, is_map, is_int, is_nil, is_cons, is_app, bs_map, u_sum, u_all, u_any, u_max1, u_min1, u_listT, u_listL, u_listR, u_tupL, u_tupT, u_tupR, u_vals, u_rng1, x_tup, x_lst, x_tupN, x_lstN, x_lstE, x_tupE, x_dkI, x_dkS, wIte_pand, wIte_por, wIte_int, u_repB, u_repN, x_t0, x_l0, wSb_l0, x_t1, x_l1, wSb_l1, x_t2, x_l2, wSb_l2, x_t3, x_l3, wSb_l3, x_t4, x_l4, wSb_l4, x_t5, x_l5, wSb_l5, s_lT0, s_lL0, s_hT0, s_hL0, s_lT1, s_lL1, s_hT1, s_hL1, s_lT2, s_lL2, s_hT2, s_hL2, s_loT, s_loL, s_hiT, s_hiL, s_lohiT, s_lohiL, s_revT, s_revL, getS_t, getS_l, getL_ref, getDk_ref, isL_l, isDk_d, ap_0, ap_k, aps_0, aps_k, mok_append, mok_extend, mok_pop, mok_popat, Option.map_some, Option.map_none, Option.bind_some, Option.isSome_some, List.cons_append, List.nil_append, List.append_nil, List.length_map, List.length_append, List.length_cons, List.length_nil, List.set_cons_zero, List.set_cons_succ, List.getElem?_cons_zero, List.getElem?_cons_succ, Int.toNat_natCast, true_and, and_true, List.append_assoc, Nat.zero_add, Nat.reduceAdd]
  have fe : ∀ (m : Int) (p : Job → Int) (l : List Job), (l.filter fun j => decide (p j < m)).isEmpty = l.all fun j => decide (m ≤ p j) := fun m p l => by
    induction l with
    | nil => rfl
    | cons j r ih =>
      rw [List.all_cons, ← ih, List.filter_cons]
      by_cases e : p j < m
      · rw [if_pos (by simpa using e), decide_eq_false (by omega : ¬ m ≤ p j)]
        rfl
      · rw [if_neg (by simpa using e), decide_eq_true (by omega : m ≤ p j), Bool.true_and]
  refine ⟨hjz, fits_of (by omega), wComp_pureIf (fun j : Job => decide (j.1 < mostB js)) (fun _ => .int 1) ?_ ?_⟩
  · intro j _
    simp only [↓wE_nm, ↓wV_0, ↓wV_s, ↓wE_non, ↓wE_lbl, ↓wE_int, ↓wE_str, ↓wA_nil, ↓wA_cons, ↓wA_star, ↓wE_bin, ↓wE_neg, ↓wIn_i, ↓wE_nt, ↓wBl_b, ↓wE_and, ↓wE_or, ↓wB_one, ↓wB_and, ↓wB_or, ↓wIte_t, ↓wIte_f, ↓wE_cmp, ↓wE_cmp2, ↓wE_ife, ↓wE_call, ↓wE_bi, ↓wE_mth, ↓wE_sub, ↓wE_slc, ↓wE_comp, ↓wE_dct, ↓wE_dnewt, ↓wE_al, ↓wAl_lst, ↓wAl_dk, ↓wAl_dt, ↓wT_nm, ↓wX_0, ↓wX_s, ↓wT_tup, ↓wTs_nil, ↓wTs_cons, ↓wT_sub, ↓wI_seq, ↓wSeq_tup, ↓wSeq_lst, ↓wSeq_ref, ↓wSeq_scr, ↓wI_rng, ↓wRng_1, ↓wRng_2, ↓wI_enum, ↓wEnum_tup, ↓wEnum_lst, ↓wEnum_ref, ↓wI_zip, ↓wZip_tup, ↓wZip_lst, ↓wSs_nil, ↓wSs_cons, ↓wS_asg, ↓wS_par, ↓wP_nil, ↓wP_cons, ↓wS_expr, ↓wS_ret, ↓wS_retN, ↓wS_iff, ↓wIs_t, ↓wIs_f, ↓wS_for, ↓wS_whl, ↓wO_some, ↓wO_none, ↓wO_map, ↓wO_bind, ↓wO_chk, ↓wW_nil, ↓wW_cons, ↓b_addLR, ↓b_addRL, ↓m_append, ↓m_extend, ↓m_pop, ↓st_ref, ↓sb_ref, ↓len_ref, ↓wE_dcomp, ↓wSt_l, ↓wSt_i, ↓wSt_s, ↓wSt_t, ↓wSb_l, ↓wSb_i, ↓wSb_t, ↓wLn_l, ↓wLn_d, ↓wLn_t, ↓wO_ixn, wE_tupP, wE_lstP, plain_nil, plain_cons, wE_lstT, wE_tupT, starry_t, starry_f, decide_true, decide_false, Bool.not_false, Bool.not_true, Bool.true_and, Bool.and_true, Bool.false_and, Bool.and_false, Bool.or_false, Bool.false_or, Bool.or_true, Bool.true_or, Bool.or_self, wO_some, b_add, b_sub, b_mul, b_fdiv, b_mod, b_addT, b_addL, b_mulL, c_lt, c_le, c_gt, c_ge, c_eq, c_ne, c_eqS, c_neS, c_is_int, c_is_non, c_is_tup, c_isnt_int, c_isnt_non, c_isnt_tup, u_lenL, u_lenT, u_abs, u_int, u_intB, u_max2, u_min2, is_map, is_int, is_nil, is_cons, is_app, bs_map, u_sum, u_all, u_any, u_max1, u_min1, u_listT, u_listL, u_listR, u_tupL, u_tupT, u_tupR, u_vals, u_rng1, x_tup, x_lst, x_tupN, x_lstN, x_lstE, x_tupE, x_dkI, x_dkS, wIte_pand, wIte_por, wIte_int, u_repB, u_repN, x_t0, x_l0, wSb_l0, x_t1, x_l1, wSb_l1, x_t2, x_l2, wSb_l2, x_t3, x_l3, wSb_l3, x_t4, x_l4, wSb_l4, x_t5, x_l5, wSb_l5, s_lT0, s_lL0, s_hT0, s_hL0, s_lT1, s_lL1, s_hT1, s_hL1, s_lT2, s_lL2, s_hT2, s_hL2, s_loT, s_loL, s_hiT, s_hiL, s_lohiT, s_lohiL, s_revT, s_revL, getS_t, getS_l, getL_ref, getDk_ref, isL_l, isDk_d, ap_0, ap_k, aps_0, aps_k, mok_append, mok_extend, mok_pop, mok_popat, Option.map_some, Option.map_none, Option.bind_some, Option.isSome_some, List.cons_append, List.nil_append, List.append_nil, List.length_map, List.length_append, List.length_cons, List.length_nil, List.set_cons_zero, List.set_cons_succ, List.getElem?_cons_zero, List.getElem?_cons_succ, Int.toNat_natCast, true_and, and_true, List.append_assoc, Nat.zero_add, Nat.reduceAdd, eJob]
    exact fun _ => trivial
  simp only [e1, ↓wE_nm, ↓wV_0, ↓wV_s, ↓wE_non, ↓wE_lbl, ↓wE_int, ↓wE_str, ↓wA_nil, ↓wA_cons, ↓wA_star, ↓wE_bin, ↓wE_neg, ↓wIn_i, ↓wE_nt, ↓wBl_b, ↓wE_and, ↓wE_or, ↓wB_one, ↓wB_and, ↓wB_or, ↓wIte_t, ↓wIte_f, ↓wE_cmp, ↓wE_cmp2, ↓wE_ife, ↓wE_call, ↓wE_bi, ↓wE_mth, ↓wE_sub, ↓wE_slc, ↓wE_comp, ↓wE_dct, ↓wE_dnewt, ↓wE_al, ↓wAl_lst, ↓wAl_dk, ↓wAl_dt, ↓wT_nm, ↓wX_0, ↓wX_s, ↓wT_tup, ↓wTs_nil, ↓wTs_cons, ↓wT_sub, ↓wI_seq, ↓wSeq_tup, ↓wSeq_lst, ↓wSeq_ref, ↓wSeq_scr, ↓wI_rng, ↓wRng_1, ↓wRng_2, ↓wI_enum, ↓wEnum_tup, ↓wEnum_lst, ↓wEnum_ref, ↓wI_zip, ↓wZip_tup, ↓wZip_lst, ↓wSs_nil, ↓wSs_cons, ↓wS_asg, ↓wS_par, ↓wP_nil, ↓wP_cons, ↓wS_expr, ↓wS_ret, ↓wS_retN, ↓wS_iff, ↓wIs_t, ↓wIs_f, ↓wS_for, ↓wS_whl, ↓wO_some, ↓wO_none, ↓wO_map, ↓wO_bind, ↓wO_chk, ↓wW_nil, ↓wW_cons, ↓b_addLR, ↓b_addRL, ↓m_append, ↓m_extend, ↓m_pop, ↓st_ref, ↓sb_ref, ↓len_ref, ↓wE_dcomp, ↓wSt_l, ↓wSt_i, ↓wSt_s, ↓wSt_t, ↓wSb_l, ↓wSb_i, ↓wSb_t, ↓wLn_l, ↓wLn_d, ↓wLn_t, ↓wO_ixn, wE_tupP, wE_lstP, plain_nil, plain_cons, wE_lstT, wE_tupT, starry_t, starry_f, decide_true, decide_false, Bool.not_false, Bool.not_true, Bool.true_and, Bool.and_true, Bool.false_and, Bool.and_false, Bool.or_false, Bool.false_or, Bool.or_true, Bool.true_or, Bool.or_self, wO_some, b_add, b_sub, b_mul, b_fdiv, b_mod, b_addT, b_addL, b_mulL, c_lt, c_le, c_gt, c_ge, c_eq, c_ne, c_eqS, c_neS, c_is_int, c_is_non, c_is_tup, c_isnt_int, c_isnt_non, c_isnt_tup, u_lenL, u_lenT, u_abs, u_int, u_intB, u_max2, u_min2, is_map, is_int, is_nil, is_cons, is_app, bs_map, u_sum, u_all, u_any, u_max1, u_min1, u_listT, u_listL, u_listR, u_tupL, u_tupT, u_tupR, u_vals, u_rng1, x_tup, x_lst, x_tupN, x_lstN, x_lstE, x_tupE, x_dkI, x_dkS, wIte_pand, wIte_por, wIte_int, u_repB, u_repN, x_t0, x_l0, wSb_l0, x_t1, x_l1, wSb_l1, x_t2, x_l2, wSb_l2, x_t3, x_l3, wSb_l3, x_t4, x_l4, wSb_l4, x_t5, x_l5, wSb_l5, s_lT0, s_lL0, s_hT0, s_hL0, s_lT1, s_lL1, s_hT1, s_hL1, s_lT2, s_lL2, s_hT2, s_hL2, s_loT, s_loL, s_hiT, s_hiL, s_lohiT, s_lohiL, s_revT, s_revL, getS_t, getS_l, getL_ref, getDk_ref, isL_l, isDk_d, ap_0, ap_k, aps_0, aps_k, mok_append, mok_extend, mok_pop, mok_popat, Option.map_some, Option.map_none, Option.bind_some, Option.isSome_some, List.cons_append, List.nil_append, List.append_nil, List.length_map, List.length_append, List.length_cons, List.length_nil, List.set_cons_zero, List.set_cons_succ, List.getElem?_cons_zero, List.getElem?_cons_succ, Int.toNat_natCast, true_and, and_true, List.append_assoc, Nat.zero_add, Nat.reduceAdd, fe]
  refine ⟨hjz, wIte_split (fun h1 => ?_) fun h1 => ?_⟩
  · have : small js = true := by
      unfold small
      rw [h1, Bool.true_or]
    rw [this]
    exact ret_low (.bl _)
  · refine wComp_pureIf (fun j : Job => decide (j.2.2 < mostB js)) (fun _ => .int 1) ?_ ?_
    · intro j _
      simp only [↓wE_nm, ↓wV_0, ↓wV_s, ↓wE_non, ↓wE_lbl, ↓wE_int, ↓wE_str, ↓wA_nil, ↓wA_cons, ↓wA_star, ↓wE_bin, ↓wE_neg, ↓wIn_i, ↓wE_nt, ↓wBl_b, ↓wE_and, ↓wE_or, ↓wB_one, ↓wB_and, ↓wB_or, ↓wIte_t, ↓wIte_f, ↓wE_cmp, ↓wE_cmp2, ↓wE_ife, ↓wE_call, ↓wE_bi, ↓wE_mth, ↓wE_sub, ↓wE_slc, ↓wE_comp, ↓wE_dct, ↓wE_dnewt, ↓wE_al, ↓wAl_lst, ↓wAl_dk, ↓wAl_dt, ↓wT_nm, ↓wX_0, ↓wX_s, ↓wT_tup, ↓wTs_nil, ↓wTs_cons, ↓wT_sub, ↓wI_seq, ↓wSeq_tup, ↓wSeq_lst, ↓wSeq_ref, ↓wSeq_scr, ↓wI_rng, ↓wRng_1, ↓wRng_2, ↓wI_enum, ↓wEnum_tup, ↓wEnum_lst, ↓wEnum_ref, ↓wI_zip, ↓wZip_tup, ↓wZip_lst, ↓wSs_nil, ↓wSs_cons, ↓wS_asg, ↓wS_par, ↓wP_nil, ↓wP_cons, ↓wS_expr, ↓wS_ret, ↓wS_retN, ↓wS_iff, ↓wIs_t, ↓wIs_f, ↓wS_for, ↓wS_whl, ↓wO_some, ↓wO_none, ↓wO_map, ↓wO_bind, ↓wO_chk, ↓wW_nil, ↓wW_cons, ↓b_addLR, ↓b_addRL, ↓m_append, ↓m_extend, ↓m_pop, ↓st_ref, ↓sb_ref, ↓len_ref, ↓wE_dcomp, ↓wSt_l, ↓wSt_i, ↓wSt_s, ↓wSt_t, ↓wSb_l, ↓wSb_i, ↓wSb_t, ↓wLn_l, ↓wLn_d, ↓wLn_t, ↓wO_ixn, wE_tupP, wE_lstP, plain_nil, plain_cons, wE_lstT, wE_tupT, starry_t, starry_f, decide_true, decide_false, Bool.not_false, Bool.not_true, Bool.true_and, Bool.and_true, Bool.false_and, Bool.and_false, Bool.or_false, Bool.false_or, Bool.or_true, Bool.true_or, Bool.or_self, wO_some, b_add, b_sub, b_mul, b_fdiv, b_mod, b_addT, b_addL, b_mulL, c_lt, c_le, c_gt, c_ge, c_eq, c_ne, c_eqS, c_neS, c_is_int, c_is_non, c_is_tup, c_isnt_int, c_isnt_non, c_isnt_tup, u_lenL, u_lenT, u_abs, u_int, u_intB, u_max2, u_min2, is_map, is_int, is_nil, is_cons, is_app, bs_map, u_sum, u_all, u_any, u_max1, u_min1, u_listT, u_listL, u_listR, u_tupL, u_tupT, u_tupR, u_vals, u_rng1, x_tup, x_lst, x_tupN, x_lstN, x_lstE, x_tupE, x_dkI, x_dkS, wIte_pand, wIte_por, wIte_int, u_repB, u_repN, x_t0, x_l0, wSb_l0, x_t1, x_l1, wSb_l1, x_t2, x_l2, wSb_l2, x_t3, x_l3, wSb_l3, x_t4, x_l4, wSb_l4, x_t5, x_l5, wSb_l5, s_lT0, s_lL0, s_hT0, s_hL0, s_lT1, s_lL1, s_hT1, s_hL1, s_lT2, s_lL2, s_hT2, s_hL2, s_loT, s_loL, s_hiT, s_hiL, s_lohiT, s_lohiL, s_revT, s_revL, getS_t, getS_l, getL_ref, getDk_ref, isL_l, isDk_d, ap_0, ap_k, aps_0, aps_k, mok_append, mok_extend, mok_pop, mok_popat, Option.map_some, Option.map_none, Option.bind_some, Option.isSome_some, List.cons_append, List.nil_append, List.append_nil, List.length_map, List.length_append, List.length_cons, List.length_nil, List.set_cons_zero, List.set_cons_succ, List.getElem?_cons_zero, List.getElem?_cons_succ, Int.toNat_natCast, true_and, and_true, List.append_assoc, Nat.zero_add, Nat.reduceAdd, eJob]
      exact fun _ => trivial
    simp only [e1, ↓wE_nm, ↓wV_0, ↓wV_s, ↓wE_non, ↓wE_lbl, ↓wE_int, ↓wE_str, ↓wA_nil, ↓wA_cons, ↓wA_star, ↓wE_bin, ↓wE_neg, ↓wIn_i, ↓wE_nt, ↓wBl_b, ↓wE_and, ↓wE_or, ↓wB_one, ↓wB_and, ↓wB_or, ↓wIte_t, ↓wIte_f, ↓wE_cmp, ↓wE_cmp2, ↓wE_ife, ↓wE_call, ↓wE_bi, ↓wE_mth, ↓wE_sub, ↓wE_slc, ↓wE_comp, ↓wE_dct, ↓wE_dnewt, ↓wE_al, ↓wAl_lst, ↓wAl_dk, ↓wAl_dt, ↓wT_nm, ↓wX_0, ↓wX_s, ↓wT_tup, ↓wTs_nil, ↓wTs_cons, ↓wT_sub, ↓wI_seq, ↓wSeq_tup, ↓wSeq_lst, ↓wSeq_ref, ↓wSeq_scr, ↓wI_rng, ↓wRng_1, ↓wRng_2, ↓wI_enum, ↓wEnum_tup, ↓wEnum_lst, ↓wEnum_ref, ↓wI_zip, ↓wZip_tup, ↓wZip_lst, ↓wSs_nil, ↓wSs_cons, ↓wS_asg, ↓wS_par, ↓wP_nil, ↓wP_cons, ↓wS_expr, ↓wS_ret, ↓wS_retN, ↓wS_iff, ↓wIs_t, ↓wIs_f, ↓wS_for, ↓wS_whl, ↓wO_some, ↓wO_none, ↓wO_map, ↓wO_bind, ↓wO_chk, ↓wW_nil, ↓wW_cons, ↓b_addLR, ↓b_addRL, ↓m_append, ↓m_extend, ↓m_pop, ↓st_ref, ↓sb_ref, ↓len_ref, ↓wE_dcomp, ↓wSt_l, ↓wSt_i, ↓wSt_s, ↓wSt_t, ↓wSb_l, ↓wSb_i, ↓wSb_t, ↓wLn_l, ↓wLn_d, ↓wLn_t, ↓wO_ixn, wE_tupP, wE_lstP, plain_nil, plain_cons, wE_lstT, wE_tupT, starry_t, starry_f, decide_true, decide_false, Bool.not_false, Bool.not_true, Bool.true_and, Bool.and_true, Bool.false_and, Bool.and_false, Bool.or_false, Bool.false_or, Bool.or_true, Bool.true_or, Bool.or_self, wO_some, b_add, b_sub, b_mul, b_fdiv, b_mod, b_addT, b_addL, b_mulL, c_lt, c_le, c_gt, c_ge, c_eq, c_ne, c_eqS, c_neS, c_is_int, c_is_non, c_is_tup, c_isnt_int, c_isnt_non, c_isnt_tup, u_lenL, u_lenT, u_abs, u_int, u_intB, u_max2, u_min2, is_map, is_int, is_nil, is_cons, is_app, bs_map, u_sum, u_all, u_any, u_max1, u_min1, u_listT, u_listL, u_listR, u_tupL, u_tupT, u_tupR, u_vals, u_rng1, x_tup, x_lst, x_tupN, x_lstN, x_lstE, x_tupE, x_dkI, x_dkS, wIte_pand, wIte_por, wIte_int, u_repB, u_repN, x_t0, x_l0, wSb_l0, x_t1, x_l1, wSb_l1, x_t2, x_l2, wSb_l2, x_t3, x_l3, wSb_l3, x_t4, x_l4, wSb_l4, x_t5, x_l5, wSb_l5, s_lT0, s_lL0, s_hT0, s_hL0, s_lT1, s_lL1, s_hT1, s_hL1, s_lT2, s_lL2, s_hT2, s_hL2, s_loT, s_loL, s_hiT, s_hiL, s_lohiT, s_lohiL, s_revT, s_revL, getS_t, getS_l, getL_ref, getDk_ref, isL_l, isDk_d, ap_0, ap_k, aps_0, aps_k, mok_append, mok_extend, mok_pop, mok_popat, Option.map_some, Option.map_none, Option.bind_some, Option.isSome_some, List.cons_append, List.nil_append, List.append_nil, List.length_map, List.length_append, List.length_cons, List.length_nil, List.set_cons_zero, List.set_cons_succ, List.getElem?_cons_zero, List.getElem?_cons_succ, Int.toNat_natCast, true_and, and_true, List.append_assoc, Nat.zero_add, Nat.reduceAdd, fe]
    refine ⟨hjz, ?_⟩
    have : js.all (fun j => decide (mostB js ≤ j.2.2)) = small js := by
      unfold small
      rw [h1, Bool.false_or]
    rw [this]
    exact ret_low (.bl _)
end
end QR

set_option Elab.async false
set_option linter.all false
set_option maxRecDepth 100000
set_option maxHeartbeats 8000000
/-! R3: what the laws of rooms lean on -/
namespace QR
open PySem PySem.Spec PyProof.Rows L2 Z
theorem clr0 : ClR [] := fun o ho => by cases ho
theorem eN_inv (D0 : List Nat) : ∀ l' : List D, l'.Perm (D0.map eN) → ∃ o : List Nat, o.Perm D0 ∧ l' = o.map eN := by
  intro l' hp
  have key : ∀ l' : List D, (∀ x ∈ l', ∃ k : Nat, x = eN k) → ∃ o : List Nat, l' = o.map eN := by
    intro l'
    induction l' with
    | nil => exact fun _ => ⟨[], rfl⟩
    | cons x r ih =>
      intro h
      obtain ⟨k, rfl⟩ := h x List.mem_cons_self
      obtain ⟨o, rfl⟩ := ih fun y hy => h y (List.mem_cons_of_mem _ hy)
      exact ⟨k :: o, rfl⟩
  obtain ⟨o, rfl⟩ := key l' fun x hx => by
    obtain ⟨k, _, rfl⟩ := List.mem_map.mp (hp.mem_iff.mp hx)
    exact ⟨k, rfl⟩
  refine ⟨o, ?_, rfl⟩
  have hd : ∀ l : List Nat, (l.map eN).map (fun | .int i => i.toNat | _ => 0) = l := by
    intro l
    rw [List.map_map]
    conv => rhs; rw [← List.map_id l]
    apply List.map_congr_left
    intro k _
    show ((k : Int)).toNat = k
    omega
  have := hp.map (fun | D.int i => i.toNat | _ => 0)
  rwa [hd, hd] at this
theorem mixed_nat {P : Cl1} (h : Sp_law_mixed P) {s : Sc} (hs : s.cells.length ≤ 64) {n : Nat} (hn : n ≤ 1000) {rest : Hs} (hr : ClR rest) :
    ∃ (o : List Nat) (s' : Sc), P [.ref 1, .lst ((List.range n).map eN)] (s.hs rest) = some (.lst (o.map eN), s'.hs rest) ∧ PermR n o ∧ s'.cells.length ≤ 64 := by
  obtain ⟨l', s', q, hp, hc⟩ := h s hs ((List.range n).map eN) (by rw [List.length_map, List.length_range]; exact hn) (fun b => low_ofList (fun k => .int _) _) rest hr
  obtain ⟨o, ho, rfl⟩ := eN_inv _ _ hp
  exact ⟨o, s', q, ho, hc⟩
theorem sel_ok {js : List Job} (hj : ∀ j ∈ js, JobOk j) {o : List Nat} (ho : ∀ k ∈ o, k < js.length) : ∀ j ∈ sel js o, JobOk j := fun j hj' => by
  unfold sel at hj'
  obtain ⟨k, hk, rfl⟩ := List.mem_map.mp hj'
  exact hj _ (List.mem_of_getElem? (jAt_get (ho k hk)))
theorem sp1_S3 {js : List Job} (hj : ∀ j ∈ js, JobOk j) {o : List Nat} (ho : PermR js.length o) : sp1 js o = S3 0 0 0 (sel js o) := spO_S3 js ho.nd fun k hk => by
  obtain ⟨⟨a1, _⟩, _, ⟨c1, _⟩⟩ := hj _ (List.mem_of_getElem? (jAt_get (ho.lt k hk)))
  omega
theorem told_R (js : List Job) : PermR js.length (told js) := told_perm js
theorem ords_R {n : Nat} {o : List Nat} (h : o ∈ ords n n) : PermR n o := ords_ok h
theorem mem_ordsR {n : Nat} {o : List Nat} (h : PermR n o) : o ∈ ords n n := mem_ords.mpr ⟨h.nd, h.len, h.lt⟩
theorem W_sp1 {js : List Job} (hj : ∀ j ∈ js, JobOk j) {o : List Nat} (ho : PermR js.length o) : W 0 0 (sel js (told js)) ≤ sp1 js o := by
  rw [sp1_S3 hj ho]
  exact Int.le_trans (told_least js ho) (W_le_S3 _ 0 0 0 0 (Int.le_refl _))
/-! numbers are small -/
theorem S3_bd : ∀ (r : List Job) (f g h : Int), 0 ≤ h → (∀ j ∈ r, JobOk j) → 0 ≤ S3 f g h r ∧ S3 f g h r ≤ max f (max g h) + 72 * r.length
  | [], f, g, h, h0, _ => by simp only [S3, List.length_nil]; omega
  | (a, b, c) :: r, f, g, h, h0, hj => by
    obtain ⟨⟨a1, a2⟩, ⟨b1, b2⟩, ⟨c1, c2⟩⟩ := hj (a, b, c) List.mem_cons_self
    simp only at a1 a2 b1 b2 c1 c2
    have := S3_bd r (f + a) (max g (f + a) + b) (max h (max g (f + a) + b) + c) (by omega) fun x hx => hj x (List.mem_cons_of_mem _ hx)
    simp only [S3, List.length_cons]
    omega
theorem sel_len (js : List Job) (o : List Nat) : (sel js o).length = o.length := by unfold sel; rw [List.length_map]
theorem sp1_bd {js : List Job} (hj : ∀ j ∈ js, JobOk j) {o : List Nat} (ho : PermR js.length o) : 0 ≤ sp1 js o ∧ sp1 js o ≤ 72 * js.length := by
  rw [sp1_S3 hj ho]
  have := S3_bd (sel js o) 0 0 0 (by omega) (sel_ok hj ho.lt)
  rw [sel_len, ho.len] at this
  omega
theorem W_bd {js : List Job} (hj : ∀ j ∈ js, JobOk j) {o : List Nat} (ho : PermR js.length o) : 0 ≤ W 0 0 (sel js o) ∧ W 0 0 (sel js o) ≤ 72 * js.length := by
  have h1 := W_le_S3 (sel js o) 0 0 0 0 (Int.le_refl _)
  have h2 := sp1_bd hj ho
  rw [sp1_S3 hj ho] at h2
  have h3 : 0 ≤ W 0 0 (sel js o) := W_ge _ 0 0 fun j hj' => by
    obtain ⟨_, _, c1, _⟩ := sel_ok hj ho.lt j hj'
    omega
  omega
/-! small middles -/
theorem S3_small1 {m : Int} : ∀ (r : List Job) (f g h : Int), g ≤ f + m → (∀ j ∈ r, m ≤ j.1 ∧ j.2.1 ≤ m) → S3 f g h r = W f h r
  | [], _, _, _, _, _ => rfl
  | (a, b, c) :: r, f, g, h, hg, hj => by
    obtain ⟨h1, h2⟩ := hj (a, b, c) List.mem_cons_self
    simp only at h1 h2
    simp only [S3, W]
    have e : max g (f + a) = f + a := by omega
    rw [e]
    exact S3_small1 r _ _ _ (by omega) fun x hx => hj x (List.mem_cons_of_mem _ hx)
theorem S3_small2 {m : Int} : ∀ (r : List Job) (f g h : Int), (g ≤ f ∨ g + m ≤ h) → (∀ j ∈ r, m ≤ j.2.2 ∧ j.2.1 ≤ m ∧ 0 ≤ j.1) → S3 f g h r = W f h r
  | [], _, _, _, _, _ => rfl
  | (a, b, c) :: r, f, g, h, hg, hj => by
    obtain ⟨h1, h2, h3⟩ := hj (a, b, c) List.mem_cons_self
    simp only at h1 h2 h3
    simp only [S3, W]
    have e : max h (max g (f + a) + b) = max h (f + a + b) := by omega
    rw [e]
    exact S3_small2 r _ _ _ (by omega) fun x hx => hj x (List.mem_cons_of_mem _ hx)
theorem mostB_ub {js : List Job} {j : Job} (h : j ∈ js) : j.2.1 ≤ mostB js := by
  unfold mostB
  rw [maxI_mx]
  exact mxI_ub _ _ _ (List.mem_map.mpr ⟨j, h, rfl⟩)
theorem sel_mem {js : List Job} {o : List Nat} (ho : ∀ k ∈ o, k < js.length) : ∀ j ∈ sel js o, j ∈ js := fun j hj' => by
  unfold sel at hj'
  obtain ⟨k, hk, rfl⟩ := List.mem_map.mp hj'
  exact List.mem_of_getElem? (jAt_get (ho k hk))
theorem small_sp {js : List Job} (hj : ∀ j ∈ js, JobOk j) (hs : small js = true) {o : List Nat} (ho : PermR js.length o) : sp1 js o = W 0 0 (sel js o) := by
  rw [sp1_S3 hj ho]
  have h0 : 0 ≤ mostB js := by
    unfold mostB
    rw [maxI_mx]
    exact mxI_le _ _
  unfold small at hs
  rw [Bool.or_eq_true, List.all_eq_true, List.all_eq_true] at hs
  rcases hs with h | h
  · refine S3_small1 (m := mostB js) _ 0 0 0 (by omega) fun j hj' => ?_
    have hm := sel_mem ho.lt j hj'
    exact ⟨by simpa using h j hm, mostB_ub hm⟩
  · refine S3_small2 (m := mostB js) _ 0 0 0 (.inl (Int.le_refl _)) fun j hj' => ?_
    have hm := sel_mem ho.lt j hj'
    obtain ⟨⟨a1, _⟩, _⟩ := hj j hm
    exact ⟨by simpa using h j hm, mostB_ub hm, by omega⟩
theorem leastR_mem {js : List Job} : ∃ o, PermR js.length o ∧ leastR js = sp1 js o := by
  have := mnI_mem (l := (ords js.length js.length).map (sp1 js)) (by simpa using ords_ne _)
  obtain ⟨o, ho, e⟩ := List.mem_map.mp this
  exact ⟨o, ords_R ho, e.symm⟩
theorem leastR_le {js : List Job} {o : List Nat} (ho : PermR js.length o) : leastR js ≤ sp1 js o := mnI_le (List.mem_map.mpr ⟨o, mem_ordsR ho, rfl⟩)
theorem W_leastR {js : List Job} (hj : ∀ j ∈ js, JobOk j) : W 0 0 (sel js (told js)) ≤ leastR js := by
  obtain ⟨o, ho, e⟩ := leastR_mem (js := js)
  rw [e]
  exact W_sp1 hj ho
theorem small_least {js : List Job} (hj : ∀ j ∈ js, JobOk j) (hs : small js = true) : leastR js = W 0 0 (sel js (told js)) := by
  apply Int.le_antisymm
  · rw [← small_sp hj hs (told_R js)]
    exact leastR_le (told_R js)
  · exact W_leastR hj
end QR
namespace QR
open PySem PySem.Spec PyProof.Rows L2 Z
theorem law_ans {C : Cal} {L : Nat} {F : Fn} {ls : List Int} (hk : F.keep = false) (hn : F.np = 1) (w : wSs C L F.body ([D.scr ls].map some ++ List.replicate (F.nn - F.np) none) [] (fun _ _ => False) fun d _ => d = .bl true) : ∃ hs, callD C L F [.scr ls] [] = some (.bl true, hs) := by
  have := call_run (C := C) (L := L) (F := F) (ds := [.scr ls]) (h := []) (Q := fun d _ => d = .bl true) (by rw [hn]; rfl) (wSs_mono w (fun _ _ q => q.elim) fun d h' q => by
    subst q
    rw [hk]
    refine ⟨(.bl true, []), ?_, rfl⟩
    unfold fin
    rw [if_neg Bool.false_ne_true, frz_low (.bl true)]
    exact chk_pos fun o ho => by cases ho)
  obtain ⟨⟨d, h'⟩, q, rfl⟩ := this
  exact ⟨h', q⟩
end QR

set_option Elab.async false
set_option linter.all false
set_option maxRecDepth 100000
set_option maxHeartbeats 8000000
namespace K88
open PySem PySem.Spec PyProof.Rows L2 Z QR
def lw0 : Sms := (.cons (.ret (.bool true (.cmp .is (.call 10 (.cons false (.tup (.cons false (.tup (.cons false (.lint 1) (.cons false (.lint 5) (.cons false (.lint 1) .nil)))) .nil)) .nil)) (.lbl false)) (.cons false (.cmp .eq (.call 9 (.cons false (.tup (.cons false (.tup (.cons false (.lint 1) (.cons false (.lint 5) (.cons false (.lint 1) .nil)))) (.cons false (.tup (.cons false (.lint 1) (.cons false (.lint 5) (.cons false (.lint 1) .nil)))) .nil))) .nil)) (.lint 8)) .nil))) .nil)
def lw1 : Sms := (.cons (.iff (.bool false (.bool true (.nm 6) (.cons false (.cmp .ne (.call 4 (.cons false (.nm 4) (.cons false (.call 8 (.cons false (.nm 4) .nil)) .nil))) (.call 9 (.cons false (.nm 4) .nil))) .nil)) (.cons false (.cmp .ne (.bi .repr (.cons false (.nm 4) .nil)) (.nm 7)) .nil)) (.cons (.ret (.lbl false)) .nil) .nil) .nil)
def lw2 : Sms := (.cons (.iff (.bool true (.nm 6) (.cons false (.cmp .ne (.comp (.lint 1) (.tup (.cons (.nm 12) (.cons (.nm 13) .nil))) (.zip false (.nm 8) (.nm 9)) (.cons false (.cmp .ne (.nm 13) (.call 20 (.cons false (.nm 4) (.cons false (.nm 12) .nil)))) .nil) [12, 13]) (.lst .nil)) .nil)) (.cons (.ret (.lbl false)) .nil) .nil) .nil)
def lw3 : Sms := (.cons (.iff (.bool true (.nm 6) (.cons false (.bool false (.cmp .ne (.nm 10) (.call 9 (.cons false (.nm 4) .nil))) (.cons false (.cmp .notin (.call 8 (.cons false (.nm 4) .nil)) (.nm 11)) .nil)) .nil)) (.cons (.ret (.lbl false)) .nil) .nil) lw2)
def lw4 : Sms := (.cons (.iff (.cmp .ne (.bi .repr (.cons false (.call 13 (.cons false (.nm 4) .nil)) .nil)) (.bi .repr (.cons false (.nm 11) .nil))) (.cons (.ret (.lbl false)) .nil) .nil) lw3)
def lw5 : Sms := (.cons (.asg (.nm 11) (.bi .tuple (.cons false (.comp (.nm 12) (.tup (.cons (.nm 12) (.cons (.nm 13) .nil))) (.zip false (.nm 8) (.nm 9)) (.cons false (.cmp .eq (.nm 13) (.nm 10)) .nil) [12, 13]) .nil))) lw4)
def lw6 : Sms := (.cons (.iff (.bool false (.cmp .ne (.bi .repr (.cons false (.call 12 (.cons false (.nm 4) .nil)) .nil)) (.bi .repr (.cons false (.nm 10) .nil))) (.cons false (.cmp .lt (.nm 10) (.call 9 (.cons false (.nm 4) .nil))) .nil)) (.cons (.ret (.lbl false)) .nil) .nil) lw5)
def lw7 : Sms := (.cons (.asg (.nm 10) (.bi .min1 (.cons false (.nm 9) .nil))) lw6)
def lw8 : Sms := (.cons (.asg (.nm 9) (.comp (.call 19 (.cons false (.nm 4) (.cons false (.nm 12) .nil))) (.nm 12) (.seq (.nm 8)) .nil [12])) lw7)
def lw9 : Sms := (.cons (.asg (.nm 8) (.call 21 (.cons false (.nm 3) .nil))) lw8)
def lw10 : Sms := (.cons (.iff (.cmp .lt (.nm 3) (.lint 7)) lw9 .nil) lw1)
def lw11 : Sms := (.cons (.iff (.bool true (.nm 6) (.cons false (.cmp .ne (.call 4 (.cons false (.nm 4) (.cons false (.nm 5) .nil))) (.call 6 (.cons false (.nm 4) (.cons false (.nm 5) .nil)))) .nil)) (.cons (.ret (.lbl false)) .nil) .nil) lw10)
def lw12 : Sms := (.cons (.asg (.nm 5) (.bi .tuple (.cons false (.call 16 (.cons false (.nm 1) (.cons false (.bi .lrng (.cons false (.nm 3) .nil)) .nil))) .nil))) lw11)
def lw13 : Sms := (.cons (.iff (.cmp .ne (.bi .repr (.cons false (.call 10 (.cons false (.nm 4) .nil)) .nil)) (.bi .repr (.cons false (.nm 6) .nil))) (.cons (.ret (.lbl false)) .nil) .nil) lw12)
def lw14 : Sms := (.cons (.par [6, 7] (.cons false (.call 22 (.cons false (.nm 4) .nil)) (.cons false (.bi .repr (.cons false (.nm 4) .nil)) .nil))) lw13)
def lw15 : Sms := (.cons (.asg (.nm 4) (.call 17 (.cons false (.nm 1) (.cons false (.nm 3) .nil)))) lw14)
def lw16 : Sms := (.cons (.asg (.nm 3) (.call 15 (.cons false (.nm 1) (.cons false (.sub (.lst (.cons false (.lint 5) (.cons false (.lint 6) (.cons false (.lint 7) (.cons false (.lint 41) .nil))))) (.nm 2)) .nil)))) lw15)
def lw17 : Sms := (.cons (.forr (.nm 2) (.rng (.cons false (.lint 4) .nil)) lw16) lw0)
def lw18 : Sms := (.cons (.asg (.nm 1) (.call 14 (.cons false (.nm 0) .nil))) lw17)
def b_law : Sms := lw18
def F_law : Fn := ⟨1, 14, false, b_law⟩
def st (i : Nat) : Stmt := PySem.Challenge.pw_jobsinturn_k88_whole_small_middles.main.body.getD i (.Pass ⟨0, 0, 0, 0⟩)
def fns : List Fn := [⟨1, 7, false, bJohnson⟩, F_ends_in_room, (F_ends_by_rooms 1), (F_rooms_span 2), (F_room_span 3), ⟨4, 7, false, bWay⟩, ⟨2, 3, false, bWideSpan 5⟩, ⟨1, 4, false, bPairs⟩, ⟨1, 1, false, bTro 0 7⟩, ⟨1, 1, false, bWb 6 8⟩, F_is_small_middle, ⟨1, 6, false, bOrders⟩, (F_least_room_span 4 11), (F_best_room_orders 11 4), ⟨1, 3, true, bSource⟩, ⟨2, 4, false, bPick⟩, ⟨2, 4, false, bMixed 15⟩, ⟨2, 9, false, bJobs 15⟩, F_law_ends, (F_law_span 18), ⟨2, 5, false, bWide⟩, ⟨1, 6, false, bLawOrders⟩, F_law_small, F_law]
def nms : List Str := [(PySem.Str.ofString "johnson_order"), (PySem.Str.ofString "ends_in_room"), (PySem.Str.ofString "ends_by_rooms"), (PySem.Str.ofString "rooms_span"), (PySem.Str.ofString "room_span"), (PySem.Str.ofString "way_length"), (PySem.Str.ofString "wide_span"), (PySem.Str.ofString "pairs_of_rooms"), (PySem.Str.ofString "told_room_order"), (PySem.Str.ofString "wide_bound"), (PySem.Str.ofString "is_small_middle"), (PySem.Str.ofString "orders_of_jobs"), (PySem.Str.ofString "least_room_span"), (PySem.Str.ofString "best_room_orders"), (PySem.Str.ofString "_law_source"), (PySem.Str.ofString "_law_pick"), (PySem.Str.ofString "_law_mixed"), (PySem.Str.ofString "_law_jobs"), (PySem.Str.ofString "_law_ends"), (PySem.Str.ofString "_law_span"), (PySem.Str.ofString "_law_wide"), (PySem.Str.ofString "_law_orders"), (PySem.Str.ofString "_law_small"), (PySem.Str.ofString "law")]
def Γ : Nat → Option Str := fun i => nms[i]?
theorem fs0 : FnS fns Γ 0 (st 1) (PySem.Str.ofString "johnson_order") [(PySem.Str.ofString "jobs"), (PySem.Str.ofString "ahead"), (PySem.Str.ofString "behind"), (PySem.Str.ofString "k"), (PySem.Str.ofString "number"), (PySem.Str.ofString "a"), (PySem.Str.ofString "b")] [(PySem.Str.ofString "jobs")] :=
  ⟨⟨rfl, rfl, rfl, by decide +kernel, rfl, by decide +kernel, by decide +kernel⟩, fun _ _ _ _ _ _ us hl => match us, hl with | [_], _ => rfl, ⟨_, rfl, rfl, rfl, by decide +kernel⟩⟩
theorem fs1 : FnS fns Γ 1 (st 3) (PySem.Str.ofString "ends_in_room") [(PySem.Str.ofString "lengths"), (PySem.Str.ofString "order"), (PySem.Str.ofString "come"), (PySem.Str.ofString "job"), (PySem.Str.ofString "found"), (PySem.Str.ofString "hour")] [(PySem.Str.ofString "lengths"), (PySem.Str.ofString "order"), (PySem.Str.ofString "come")] :=
  ⟨⟨rfl, rfl, rfl, by decide +kernel, rfl, by decide +kernel, by decide +kernel⟩, fun _ _ _ _ _ _ us hl => match us, hl with | [_, _, _], _ => rfl, ⟨_, rfl, rfl, rfl, by decide +kernel⟩⟩
theorem fs2 : FnS fns Γ 2 (st 4) (PySem.Str.ofString "ends_by_rooms") [(PySem.Str.ofString "jobs"), (PySem.Str.ofString "orders"), (PySem.Str.ofString "found"), (PySem.Str.ofString "come"), (PySem.Str.ofString "room"), (PySem.Str.ofString "order"), (PySem.Str.ofString "job")] [(PySem.Str.ofString "jobs"), (PySem.Str.ofString "orders")] :=
  ⟨⟨rfl, rfl, rfl, by decide +kernel, rfl, by decide +kernel, by decide +kernel⟩, fun _ _ _ _ _ _ us hl => match us, hl with | [_, _], _ => rfl, ⟨_, rfl, rfl, rfl, by decide +kernel⟩⟩
theorem fs3 : FnS fns Γ 3 (st 5) (PySem.Str.ofString "rooms_span") [(PySem.Str.ofString "jobs"), (PySem.Str.ofString "orders")] [(PySem.Str.ofString "jobs"), (PySem.Str.ofString "orders")] :=
  ⟨⟨rfl, rfl, rfl, by decide +kernel, rfl, by decide +kernel, by decide +kernel⟩, fun _ _ _ _ _ _ us hl => match us, hl with | [_, _], _ => rfl, ⟨_, rfl, rfl, rfl, by decide +kernel⟩⟩
theorem fs4 : FnS fns Γ 4 (st 6) (PySem.Str.ofString "room_span") [(PySem.Str.ofString "jobs"), (PySem.Str.ofString "order")] [(PySem.Str.ofString "jobs"), (PySem.Str.ofString "order")] :=
  ⟨⟨rfl, rfl, rfl, by decide +kernel, rfl, by decide +kernel, by decide +kernel⟩, fun _ _ _ _ _ _ us hl => match us, hl with | [_, _], _ => rfl, ⟨_, rfl, rfl, rfl, by decide +kernel⟩⟩
theorem fs5 : FnS fns Γ 5 (st 7) (PySem.Str.ofString "way_length") [(PySem.Str.ofString "jobs"), (PySem.Str.ofString "order"), (PySem.Str.ofString "u"), (PySem.Str.ofString "v"), (PySem.Str.ofString "first"), (PySem.Str.ofString "middle"), (PySem.Str.ofString "job")] [(PySem.Str.ofString "jobs"), (PySem.Str.ofString "order"), (PySem.Str.ofString "u"), (PySem.Str.ofString "v")] :=
  ⟨⟨rfl, rfl, rfl, by decide +kernel, rfl, by decide +kernel, by decide +kernel⟩, fun _ _ _ _ _ _ us hl => match us, hl with | [_, _, _, _], _ => rfl, ⟨_, rfl, rfl, rfl, by decide +kernel⟩⟩
theorem fs6 : FnS fns Γ 6 (st 8) (PySem.Str.ofString "wide_span") [(PySem.Str.ofString "jobs"), (PySem.Str.ofString "order"), (PySem.Str.ofString "u")] [(PySem.Str.ofString "jobs"), (PySem.Str.ofString "order")] :=
  ⟨⟨rfl, rfl, rfl, by decide +kernel, rfl, by decide +kernel, by decide +kernel⟩, fun _ _ _ _ _ _ us hl => match us, hl with | [_, _], _ => rfl, ⟨_, rfl, rfl, rfl, by decide +kernel⟩⟩
theorem fs7 : FnS fns Γ 7 (st 10) (PySem.Str.ofString "pairs_of_rooms") [(PySem.Str.ofString "jobs"), (PySem.Str.ofString "a"), (PySem.Str.ofString "b"), (PySem.Str.ofString "c")] [(PySem.Str.ofString "jobs")] :=
  ⟨⟨rfl, rfl, rfl, by decide +kernel, rfl, by decide +kernel, by decide +kernel⟩, fun _ _ _ _ _ _ us hl => match us, hl with | [_], _ => rfl, ⟨_, rfl, rfl, rfl, by decide +kernel⟩⟩
theorem fs8 : FnS fns Γ 8 (st 11) (PySem.Str.ofString "told_room_order") [(PySem.Str.ofString "jobs")] [(PySem.Str.ofString "jobs")] :=
  ⟨⟨rfl, rfl, rfl, by decide +kernel, rfl, by decide +kernel, by decide +kernel⟩, fun _ _ _ _ _ _ us hl => match us, hl with | [_], _ => rfl, ⟨_, rfl, rfl, rfl, by decide +kernel⟩⟩
theorem fs9 : FnS fns Γ 9 (st 12) (PySem.Str.ofString "wide_bound") [(PySem.Str.ofString "jobs")] [(PySem.Str.ofString "jobs")] :=
  ⟨⟨rfl, rfl, rfl, by decide +kernel, rfl, by decide +kernel, by decide +kernel⟩, fun _ _ _ _ _ _ us hl => match us, hl with | [_], _ => rfl, ⟨_, rfl, rfl, rfl, by decide +kernel⟩⟩
theorem fs10 : FnS fns Γ 10 (st 13) (PySem.Str.ofString "is_small_middle") [(PySem.Str.ofString "jobs"), (PySem.Str.ofString "most"), (PySem.Str.ofString "a"), (PySem.Str.ofString "b"), (PySem.Str.ofString "c")] [(PySem.Str.ofString "jobs")] :=
  ⟨⟨rfl, rfl, rfl, by decide +kernel, rfl, by decide +kernel, by decide +kernel⟩, fun _ _ _ _ _ _ us hl => match us, hl with | [_], _ => rfl, ⟨_, rfl, rfl, rfl, by decide +kernel⟩⟩
theorem fs11 : FnS fns Γ 11 (st 15) (PySem.Str.ofString "orders_of_jobs") [(PySem.Str.ofString "n"), (PySem.Str.ofString "found"), (PySem.Str.ofString "lap"), (PySem.Str.ofString "late"), (PySem.Str.ofString "order"), (PySem.Str.ofString "job")] [(PySem.Str.ofString "n")] :=
  ⟨⟨rfl, rfl, rfl, by decide +kernel, rfl, by decide +kernel, by decide +kernel⟩, fun _ _ _ _ _ _ us hl => match us, hl with | [_], _ => rfl, ⟨_, rfl, rfl, rfl, by decide +kernel⟩⟩
theorem fs12 : FnS fns Γ 12 (st 16) (PySem.Str.ofString "least_room_span") [(PySem.Str.ofString "jobs"), (PySem.Str.ofString "order")] [(PySem.Str.ofString "jobs")] :=
  ⟨⟨rfl, rfl, rfl, by decide +kernel, rfl, by decide +kernel, by decide +kernel⟩, fun _ _ _ _ _ _ us hl => match us, hl with | [_], _ => rfl, ⟨_, rfl, rfl, rfl, by decide +kernel⟩⟩
theorem fs13 : FnS fns Γ 13 (st 17) (PySem.Str.ofString "best_room_orders") [(PySem.Str.ofString "jobs"), (PySem.Str.ofString "orders"), (PySem.Str.ofString "spans"), (PySem.Str.ofString "order"), (PySem.Str.ofString "span")] [(PySem.Str.ofString "jobs")] :=
  ⟨⟨rfl, rfl, rfl, by decide +kernel, rfl, by decide +kernel, by decide +kernel⟩, fun _ _ _ _ _ _ us hl => match us, hl with | [_], _ => rfl, ⟨_, rfl, rfl, rfl, by decide +kernel⟩⟩
theorem fs14 : FnS fns Γ 14 (st 19) (PySem.Str.ofString "_law_source") [(PySem.Str.ofString "script"), (PySem.Str.ofString "mixed"), (PySem.Str.ofString "cell")] [(PySem.Str.ofString "script")] :=
  ⟨⟨rfl, rfl, rfl, by decide +kernel, rfl, by decide +kernel, by decide +kernel⟩, fun _ _ _ _ _ _ us hl => match us, hl with | [_], _ => rfl, ⟨_, rfl, rfl, rfl, by decide +kernel⟩⟩
theorem fs15 : FnS fns Γ 15 (st 20) (PySem.Str.ofString "_law_pick") [(PySem.Str.ofString "source"), (PySem.Str.ofString "many"), (PySem.Str.ofString "left"), (PySem.Str.ofString "mixed")] [(PySem.Str.ofString "source"), (PySem.Str.ofString "many")] :=
  ⟨⟨rfl, rfl, rfl, by decide +kernel, rfl, by decide +kernel, by decide +kernel⟩, fun _ _ _ _ _ _ us hl => match us, hl with | [_, _], _ => rfl, ⟨_, rfl, rfl, rfl, by decide +kernel⟩⟩
theorem fs16 : FnS fns Γ 16 (st 21) (PySem.Str.ofString "_law_mixed") [(PySem.Str.ofString "source"), (PySem.Str.ofString "things"), (PySem.Str.ofString "rest"), (PySem.Str.ofString "lap")] [(PySem.Str.ofString "source"), (PySem.Str.ofString "things")] :=
  ⟨⟨rfl, rfl, rfl, by decide +kernel, rfl, by decide +kernel, by decide +kernel⟩, fun _ _ _ _ _ _ us hl => match us, hl with | [_, _], _ => rfl, ⟨_, rfl, rfl, rfl, by decide +kernel⟩⟩
theorem fs17 : FnS fns Γ 17 (st 22) (PySem.Str.ofString "_law_jobs") [(PySem.Str.ofString "source"), (PySem.Str.ofString "n"), (PySem.Str.ofString "found"), (PySem.Str.ofString "job"), (PySem.Str.ofString "way"), (PySem.Str.ofString "far"), (PySem.Str.ofString "a"), (PySem.Str.ofString "c"), (PySem.Str.ofString "b")] [(PySem.Str.ofString "source"), (PySem.Str.ofString "n")] :=
  ⟨⟨rfl, rfl, rfl, by decide +kernel, rfl, by decide +kernel, by decide +kernel⟩, fun _ _ _ _ _ _ us hl => match us, hl with | [_, _], _ => rfl, ⟨_, rfl, rfl, rfl, by decide +kernel⟩⟩
theorem fs18 : FnS fns Γ 18 (st 23) (PySem.Str.ofString "_law_ends") [(PySem.Str.ofString "jobs"), (PySem.Str.ofString "orders"), (PySem.Str.ofString "come"), (PySem.Str.ofString "found"), (PySem.Str.ofString "room"), (PySem.Str.ofString "order"), (PySem.Str.ofString "job"), (PySem.Str.ofString "hour"), (PySem.Str.ofString "ends")] [(PySem.Str.ofString "jobs"), (PySem.Str.ofString "orders")] :=
  ⟨⟨rfl, rfl, rfl, by decide +kernel, rfl, by decide +kernel, by decide +kernel⟩, fun _ _ _ _ _ _ us hl => match us, hl with | [_, _], _ => rfl, ⟨_, rfl, rfl, rfl, by decide +kernel⟩⟩
theorem fs19 : FnS fns Γ 19 (st 24) (PySem.Str.ofString "_law_span") [(PySem.Str.ofString "jobs"), (PySem.Str.ofString "order")] [(PySem.Str.ofString "jobs"), (PySem.Str.ofString "order")] :=
  ⟨⟨rfl, rfl, rfl, by decide +kernel, rfl, by decide +kernel, by decide +kernel⟩, fun _ _ _ _ _ _ us hl => match us, hl with | [_, _], _ => rfl, ⟨_, rfl, rfl, rfl, by decide +kernel⟩⟩
theorem fs20 : FnS fns Γ 20 (st 25) (PySem.Str.ofString "_law_wide") [(PySem.Str.ofString "jobs"), (PySem.Str.ofString "order"), (PySem.Str.ofString "job"), (PySem.Str.ofString "first"), (PySem.Str.ofString "last")] [(PySem.Str.ofString "jobs"), (PySem.Str.ofString "order")] :=
  ⟨⟨rfl, rfl, rfl, by decide +kernel, rfl, by decide +kernel, by decide +kernel⟩, fun _ _ _ _ _ _ us hl => match us, hl with | [_, _], _ => rfl, ⟨_, rfl, rfl, rfl, by decide +kernel⟩⟩
theorem fs21 : FnS fns Γ 21 (st 26) (PySem.Str.ofString "_law_orders") [(PySem.Str.ofString "n"), (PySem.Str.ofString "found"), (PySem.Str.ofString "lap"), (PySem.Str.ofString "late"), (PySem.Str.ofString "order"), (PySem.Str.ofString "job")] [(PySem.Str.ofString "n")] :=
  ⟨⟨rfl, rfl, rfl, by decide +kernel, rfl, by decide +kernel, by decide +kernel⟩, fun _ _ _ _ _ _ us hl => match us, hl with | [_], _ => rfl, ⟨_, rfl, rfl, rfl, by decide +kernel⟩⟩
theorem fs22 : FnS fns Γ 22 (st 27) (PySem.Str.ofString "_law_small") [(PySem.Str.ofString "jobs"), (PySem.Str.ofString "most"), (PySem.Str.ofString "job"), (PySem.Str.ofString "a"), (PySem.Str.ofString "b"), (PySem.Str.ofString "c")] [(PySem.Str.ofString "jobs")] :=
  ⟨⟨rfl, rfl, rfl, by decide +kernel, rfl, by decide +kernel, by decide +kernel⟩, fun _ _ _ _ _ _ us hl => match us, hl with | [_], _ => rfl, ⟨_, rfl, rfl, rfl, by decide +kernel⟩⟩
theorem fs23 : FnS fns Γ 23 (st 28) (PySem.Str.ofString "law") [(PySem.Str.ofString "script"), (PySem.Str.ofString "source"), (PySem.Str.ofString "lap"), (PySem.Str.ofString "n"), (PySem.Str.ofString "jobs"), (PySem.Str.ofString "order"), (PySem.Str.ofString "small"), (PySem.Str.ofString "kept"), (PySem.Str.ofString "orders"), (PySem.Str.ofString "spans"), (PySem.Str.ofString "least"), (PySem.Str.ofString "best"), (PySem.Str.ofString "one"), (PySem.Str.ofString "span")] [(PySem.Str.ofString "script")] :=
  ⟨⟨rfl, rfl, rfl, by decide +kernel, rfl, by decide +kernel, by decide +kernel⟩, fun _ _ _ _ _ _ us hl => match us, hl with | [_], _ => rfl, ⟨_, rfl, rfl, rfl, by decide +kernel⟩⟩

abbrev LL : Nat := 1000000000
theorem hLL : 100 < LL := by decide
theorem at_johnson_order (n : Nat) : Sp_johnson_order (calls fns LL (n + 1) 0) := by
  rw [calls_fn (F := ⟨1, 7, false, bJohnson⟩) rfl]
  exact ok_johnson_order hLL 
theorem c_johnson_order : Sp_johnson_order (calls fns LL 23 0) := at_johnson_order 22
theorem at_ends_in_room (n : Nat) : Sp_ends_in_room (calls fns LL (n + 1) 1) := by
  rw [calls_fn (F := F_ends_in_room) rfl]
  exact ok_ends_in_room hLL 
theorem c_ends_in_room : Sp_ends_in_room (calls fns LL 23 1) := at_ends_in_room 22
theorem at_way_length (n : Nat) : Sp_way_length (calls fns LL (n + 1) 5) := by
  rw [calls_fn (F := ⟨4, 7, false, bWay⟩) rfl]
  exact ok_way_length hLL 
theorem c_way_length : Sp_way_length (calls fns LL 23 5) := at_way_length 22
theorem at_pairs_of_rooms (n : Nat) : Sp_pairs_of_rooms (calls fns LL (n + 1) 7) := by
  rw [calls_fn (F := ⟨1, 4, false, bPairs⟩) rfl]
  exact ok_pairs_of_rooms hLL 
theorem c_pairs_of_rooms : Sp_pairs_of_rooms (calls fns LL 23 7) := at_pairs_of_rooms 22
theorem at_is_small_middle (n : Nat) : Sp_is_small_middle (calls fns LL (n + 1) 10) := by
  rw [calls_fn (F := F_is_small_middle) rfl]
  exact ok_is_small_middle hLL 
theorem c_is_small_middle : Sp_is_small_middle (calls fns LL 23 10) := at_is_small_middle 22
theorem at_orders_of_jobs (n : Nat) : Sp_orders_of_jobs (calls fns LL (n + 1) 11) := by
  rw [calls_fn (F := ⟨1, 6, false, bOrders⟩) rfl]
  exact ok_orders_of_jobs hLL 
theorem c_orders_of_jobs : Sp_orders_of_jobs (calls fns LL 23 11) := at_orders_of_jobs 22
theorem at_law_source (n : Nat) : Sp_law_source2 (calls fns LL (n + 1) 14) := by
  rw [calls_fn (F := ⟨1, 3, true, bSource⟩) rfl]
  exact ok_law_source2 hLL 
theorem c_law_source : Sp_law_source2 (calls fns LL 23 14) := at_law_source 22
theorem at_law_pick (n : Nat) : Sp_law_pick2 (calls fns LL (n + 1) 15) := by
  rw [calls_fn (F := ⟨2, 4, false, bPick⟩) rfl]
  exact ok_law_pick2 hLL 
theorem c_law_pick : Sp_law_pick2 (calls fns LL 23 15) := at_law_pick 22
theorem at_law_ends (n : Nat) : Sp_law_ends (calls fns LL (n + 1) 18) := by
  rw [calls_fn (F := F_law_ends) rfl]
  exact ok_law_ends hLL 
theorem c_law_ends : Sp_law_ends (calls fns LL 23 18) := at_law_ends 22
theorem at_law_wide (n : Nat) : Sp_law_wide (calls fns LL (n + 1) 20) := by
  rw [calls_fn (F := ⟨2, 5, false, bWide⟩) rfl]
  exact ok_law_wide hLL 
theorem c_law_wide : Sp_law_wide (calls fns LL 23 20) := at_law_wide 22
theorem at_law_orders (n : Nat) : Sp_law_orders2 (calls fns LL (n + 1) 21) := by
  rw [calls_fn (F := ⟨1, 6, false, bLawOrders⟩) rfl]
  exact ok_law_orders2 hLL 
theorem c_law_orders : Sp_law_orders2 (calls fns LL 23 21) := at_law_orders 22
theorem at_law_small (n : Nat) : Sp_law_small (calls fns LL (n + 1) 22) := by
  rw [calls_fn (F := F_law_small) rfl]
  exact ok_law_small hLL 
theorem c_law_small : Sp_law_small (calls fns LL 23 22) := at_law_small 22
theorem at_ends_by_rooms (n : Nat) : Sp_ends_by_rooms (calls fns LL (n + 2) 2) := by
  rw [calls_fn (F := (F_ends_by_rooms 1)) rfl]
  exact ok_ends_by_rooms hLL (at_ends_in_room (n + 0))
theorem c_ends_by_rooms : Sp_ends_by_rooms (calls fns LL 23 2) := at_ends_by_rooms 21
theorem at_wide_span (n : Nat) : Sp_wide_span (calls fns LL (n + 2) 6) := by
  rw [calls_fn (F := ⟨2, 3, false, bWideSpan 5⟩) rfl]
  exact ok_wide_span hLL (at_way_length (n + 0))
theorem c_wide_span : Sp_wide_span (calls fns LL 23 6) := at_wide_span 21
theorem at_told_room_order (n : Nat) : Sp_told_room_order (calls fns LL (n + 2) 8) := by
  rw [calls_fn (F := ⟨1, 1, false, bTro 0 7⟩) rfl]
  exact ok_told_room_order hLL (at_johnson_order (n + 0)) (at_pairs_of_rooms (n + 0))
theorem c_told_room_order : Sp_told_room_order (calls fns LL 23 8) := at_told_room_order 21
theorem at_law_mixed (n : Nat) : Sp_law_mixed (calls fns LL (n + 2) 16) := by
  rw [calls_fn (F := ⟨2, 4, false, bMixed 15⟩) rfl]
  exact ok_law_mixed hLL (at_law_pick (n + 0))
theorem c_law_mixed : Sp_law_mixed (calls fns LL 23 16) := at_law_mixed 21
theorem at_law_jobs (n : Nat) : Sp_law_jobs2 (calls fns LL (n + 2) 17) := by
  rw [calls_fn (F := ⟨2, 9, false, bJobs 15⟩) rfl]
  exact ok_law_jobs2 hLL (at_law_pick (n + 0))
theorem c_law_jobs : Sp_law_jobs2 (calls fns LL 23 17) := at_law_jobs 21
theorem at_law_span (n : Nat) : Sp_law_span (calls fns LL (n + 2) 19) := by
  rw [calls_fn (F := (F_law_span 18)) rfl]
  exact ok_law_span hLL (at_law_ends (n + 0))
theorem c_law_span : Sp_law_span (calls fns LL 23 19) := at_law_span 21
theorem at_rooms_span (n : Nat) : Sp_rooms_span (calls fns LL (n + 3) 3) := by
  rw [calls_fn (F := (F_rooms_span 2)) rfl]
  exact ok_rooms_span hLL (at_ends_by_rooms (n + 0))
theorem c_rooms_span : Sp_rooms_span (calls fns LL 23 3) := at_rooms_span 20
theorem at_wide_bound (n : Nat) : Sp_wide_bound (calls fns LL (n + 3) 9) := by
  rw [calls_fn (F := ⟨1, 1, false, bWb 6 8⟩) rfl]
  exact ok_wide_bound hLL (at_wide_span (n + 0)) (at_told_room_order (n + 0))
theorem c_wide_bound : Sp_wide_bound (calls fns LL 23 9) := at_wide_bound 20
theorem at_room_span (n : Nat) : Sp_room_span (calls fns LL (n + 4) 4) := by
  rw [calls_fn (F := (F_room_span 3)) rfl]
  exact ok_room_span hLL (at_rooms_span (n + 0))
theorem c_room_span : Sp_room_span (calls fns LL 23 4) := at_room_span 19
theorem at_least_room_span (n : Nat) : Sp_least_room_span (calls fns LL (n + 5) 12) := by
  rw [calls_fn (F := (F_least_room_span 4 11)) rfl]
  exact ok_least_room_span hLL (at_room_span (n + 0)) (at_orders_of_jobs (n + 3))
theorem c_least_room_span : Sp_least_room_span (calls fns LL 23 12) := at_least_room_span 18
theorem at_best_room_orders (n : Nat) : Sp_best_room_orders (calls fns LL (n + 5) 13) := by
  rw [calls_fn (F := (F_best_room_orders 11 4)) rfl]
  exact ok_best_room_orders hLL (at_orders_of_jobs (n + 3)) (at_room_span (n + 0))
theorem c_best_room_orders : Sp_best_room_orders (calls fns LL 23 13) := at_best_room_orders 18

end K88

set_option Elab.async false
set_option linter.all false
set_option maxRecDepth 100000
set_option maxHeartbeats 8000000
namespace K88
open PySem PySem.Spec PyProof.Rows L2 Z QR
def Bad : QE := fun _ _ => False
theorem lap_ok {N : Ev → Hs → Prop} {R : QE} (s : Sc) (hs : s.cells.length ≤ 64) (t : Nat) (ht : t < 4) (p0 : Option D) (p3 p4 p5 p6 p7 p8 p9 p10 p11 p12 p13 : Option D)
    (post : ∀ (s' : Sc) (p3 p4 p5 p6 p7 p8 p9 p10 p11 p12 p13 : Option D), s'.cells.length ≤ 64 → N [p0, some (.ref 1), some (eN t), p3, p4, p5, p6, p7, p8, p9, p10, p11, p12, p13] (s'.hs [])) :
    wSs (calls fns LL 23) LL lw16 [p0, some (.ref 1), some (eN t), p3, p4, p5, p6, p7, p8, p9, p10, p11, p12, p13] (s.hs []) N R := by
  obtain ⟨many, hm, hb⟩ : ∃ many : Int, ([.int 5, .int 6, .int 7, .int 41] : List D)[t]? = some (.int many) ∧ (5 ≤ many ∧ many ≤ 41) := by
    match t, ht with
    | 0, _ => exact ⟨5, rfl, by omega⟩
    | 1, _ => exact ⟨6, rfl, by omega⟩
    | 2, _ => exact ⟨7, rfl, by omega⟩
    | 3, _ => exact ⟨41, rfl, by omega⟩
  simp only [lw16, ↓wE_nm, ↓wV_0, ↓wV_s, ↓wE_non, ↓wE_lbl, ↓wE_int, ↓wE_str, ↓wA_nil, ↓wA_cons, ↓wA_star, ↓wE_bin, ↓wE_neg, ↓wIn_i, ↓wE_nt, ↓wBl_b, ↓wE_and, ↓wE_or, ↓wB_one, ↓wB_and, ↓wB_or, ↓wIte_t, ↓wIte_f, ↓wE_cmp, ↓wE_cmp2, ↓wE_ife, ↓wE_call, ↓wE_bi, ↓wE_mth, ↓wE_sub, ↓wE_slc, ↓wE_comp, ↓wE_dct, ↓wE_dnewt, ↓wE_al, ↓wAl_lst, ↓wAl_dk, ↓wAl_dt, ↓wT_nm, ↓wX_0, ↓wX_s, ↓wT_tup, ↓wTs_nil, ↓wTs_cons, ↓wT_sub, ↓wI_seq, ↓wSeq_tup, ↓wSeq_lst, ↓wSeq_ref, ↓wSeq_scr, ↓wI_rng, ↓wRng_1, ↓wRng_2, ↓wI_enum, ↓wEnum_tup, ↓wEnum_lst, ↓wEnum_ref, ↓wI_zip, ↓wZip_tup, ↓wZip_lst, ↓wSs_nil, ↓wSs_cons, ↓wS_asg, ↓wS_par, ↓wP_nil, ↓wP_cons, ↓wS_expr, ↓wS_ret, ↓wS_retN, ↓wS_iff, ↓wIs_t, ↓wIs_f, ↓wS_for, ↓wS_whl, ↓wO_some, ↓wO_none, ↓wO_map, ↓wO_bind, ↓wO_chk, ↓wW_nil, ↓wW_cons, ↓b_addLR, ↓b_addRL, ↓m_append, ↓m_extend, ↓m_pop, ↓st_ref, ↓sb_ref, ↓len_ref, ↓wE_dcomp, ↓wSt_l, ↓wSt_i, ↓wSt_s, ↓wSt_t, ↓wSb_l, ↓wSb_i, ↓wSb_t, ↓wLn_l, ↓wLn_d, ↓wLn_t, ↓wO_ixn, wE_tupP, wE_lstP, plain_nil, plain_cons, wE_lstT, wE_tupT, starry_t, starry_f, decide_true, decide_false, Bool.not_false, Bool.not_true, Bool.true_and, Bool.and_true, Bool.false_and, Bool.and_false, Bool.or_false, Bool.false_or, Bool.or_true, Bool.true_or, Bool.or_self, wO_some, b_add, b_sub, b_mul, b_fdiv, b_mod, b_addT, b_addL, b_mulL, c_lt, c_le, c_gt, c_ge, c_eq, c_ne, c_eqS, c_neS, c_is_int, c_is_non, c_is_tup, c_isnt_int, c_isnt_non, c_isnt_tup, u_lenL, u_lenT, u_abs, u_int, u_intB, u_max2, u_min2, is_map, is_int, is_nil, is_cons, is_app, bs_map, u_sum, u_all, u_any, u_max1, u_min1, u_listT, u_listL, u_listR, u_tupL, u_tupT, u_tupR, u_vals, u_rng1, x_tup, x_lst, x_tupN, x_lstN, x_lstE, x_tupE, x_dkI, x_dkS, wIte_pand, wIte_por, wIte_int, u_repB, u_repN, x_t0, x_l0, wSb_l0, x_t1, x_l1, wSb_l1, x_t2, x_l2, wSb_l2, x_t3, x_l3, wSb_l3, x_t4, x_l4, wSb_l4, x_t5, x_l5, wSb_l5, s_lT0, s_lL0, s_hT0, s_hL0, s_lT1, s_lL1, s_hT1, s_hL1, s_lT2, s_lL2, s_hT2, s_hL2, s_loT, s_loL, s_hiT, s_hiL, s_lohiT, s_lohiL, s_revT, s_revL, getS_t, getS_l, getL_ref, getDk_ref, isL_l, isDk_d, ap_0, ap_k, aps_0, aps_k, mok_append, mok_extend, mok_pop, mok_popat, Option.map_some, Option.map_none, Option.bind_some, Option.isSome_some, List.cons_append, List.nil_append, List.append_nil, List.length_map, List.length_append, List.length_cons, List.length_nil, List.set_cons_zero, List.set_cons_succ, List.getElem?_cons_zero, List.getElem?_cons_succ, Int.toNat_natCast, true_and, and_true, List.append_assoc, Nat.zero_add, Nat.reduceAdd, hm]
  obtain ⟨r, s1, q1, r0, r1, _, hc1⟩ := c_law_pick s hs many (by omega) [] clr0
  have hr := r1 (by omega)
  obtain ⟨k, rfl⟩ : ∃ k : Nat, r = k := ⟨r.toNat, by omega⟩
  simp only [q1, ↓wE_nm, ↓wV_0, ↓wV_s, ↓wE_non, ↓wE_lbl, ↓wE_int, ↓wE_str, ↓wA_nil, ↓wA_cons, ↓wA_star, ↓wE_bin, ↓wE_neg, ↓wIn_i, ↓wE_nt, ↓wBl_b, ↓wE_and, ↓wE_or, ↓wB_one, ↓wB_and, ↓wB_or, ↓wIte_t, ↓wIte_f, ↓wE_cmp, ↓wE_cmp2, ↓wE_ife, ↓wE_call, ↓wE_bi, ↓wE_mth, ↓wE_sub, ↓wE_slc, ↓wE_comp, ↓wE_dct, ↓wE_dnewt, ↓wE_al, ↓wAl_lst, ↓wAl_dk, ↓wAl_dt, ↓wT_nm, ↓wX_0, ↓wX_s, ↓wT_tup, ↓wTs_nil, ↓wTs_cons, ↓wT_sub, ↓wI_seq, ↓wSeq_tup, ↓wSeq_lst, ↓wSeq_ref, ↓wSeq_scr, ↓wI_rng, ↓wRng_1, ↓wRng_2, ↓wI_enum, ↓wEnum_tup, ↓wEnum_lst, ↓wEnum_ref, ↓wI_zip, ↓wZip_tup, ↓wZip_lst, ↓wSs_nil, ↓wSs_cons, ↓wS_asg, ↓wS_par, ↓wP_nil, ↓wP_cons, ↓wS_expr, ↓wS_ret, ↓wS_retN, ↓wS_iff, ↓wIs_t, ↓wIs_f, ↓wS_for, ↓wS_whl, ↓wO_some, ↓wO_none, ↓wO_map, ↓wO_bind, ↓wO_chk, ↓wW_nil, ↓wW_cons, ↓b_addLR, ↓b_addRL, ↓m_append, ↓m_extend, ↓m_pop, ↓st_ref, ↓sb_ref, ↓len_ref, ↓wE_dcomp, ↓wSt_l, ↓wSt_i, ↓wSt_s, ↓wSt_t, ↓wSb_l, ↓wSb_i, ↓wSb_t, ↓wLn_l, ↓wLn_d, ↓wLn_t, ↓wO_ixn, wE_tupP, wE_lstP, plain_nil, plain_cons, wE_lstT, wE_tupT, starry_t, starry_f, decide_true, decide_false, Bool.not_false, Bool.not_true, Bool.true_and, Bool.and_true, Bool.false_and, Bool.and_false, Bool.or_false, Bool.false_or, Bool.or_true, Bool.true_or, Bool.or_self, wO_some, b_add, b_sub, b_mul, b_fdiv, b_mod, b_addT, b_addL, b_mulL, c_lt, c_le, c_gt, c_ge, c_eq, c_ne, c_eqS, c_neS, c_is_int, c_is_non, c_is_tup, c_isnt_int, c_isnt_non, c_isnt_tup, u_lenL, u_lenT, u_abs, u_int, u_intB, u_max2, u_min2, is_map, is_int, is_nil, is_cons, is_app, bs_map, u_sum, u_all, u_any, u_max1, u_min1, u_listT, u_listL, u_listR, u_tupL, u_tupT, u_tupR, u_vals, u_rng1, x_tup, x_lst, x_tupN, x_lstN, x_lstE, x_tupE, x_dkI, x_dkS, wIte_pand, wIte_por, wIte_int, u_repB, u_repN, x_t0, x_l0, wSb_l0, x_t1, x_l1, wSb_l1, x_t2, x_l2, wSb_l2, x_t3, x_l3, wSb_l3, x_t4, x_l4, wSb_l4, x_t5, x_l5, wSb_l5, s_lT0, s_lL0, s_hT0, s_hL0, s_lT1, s_lL1, s_hT1, s_hL1, s_lT2, s_lL2, s_hT2, s_hL2, s_loT, s_loL, s_hiT, s_hiL, s_lohiT, s_lohiL, s_revT, s_revL, getS_t, getS_l, getL_ref, getDk_ref, isL_l, isDk_d, ap_0, ap_k, aps_0, aps_k, mok_append, mok_extend, mok_pop, mok_popat, Option.map_some, Option.map_none, Option.bind_some, Option.isSome_some, List.cons_append, List.nil_append, List.append_nil, List.length_map, List.length_append, List.length_cons, List.length_nil, List.set_cons_zero, List.set_cons_succ, List.getElem?_cons_zero, List.getElem?_cons_succ, Int.toNat_natCast, true_and, and_true, List.append_assoc, Nat.zero_add, Nat.reduceAdd, lw15]
  obtain ⟨js, s2, q2, hlen, hj, hc2⟩ := c_law_jobs s1 hc1 k (by omega) [] clr0
  subst hlen
  have hjl : js.length ≤ 40 := by omega
  have hcl : Cl (s2.hs []) := cl_hs clr0
  have rj := u_repr (shw_fit (fit_jobs hj) (by omega) (by omega))
  simp only [q2, ↓wE_nm, ↓wV_0, ↓wV_s, ↓wE_non, ↓wE_lbl, ↓wE_int, ↓wE_str, ↓wA_nil, ↓wA_cons, ↓wA_star, ↓wE_bin, ↓wE_neg, ↓wIn_i, ↓wE_nt, ↓wBl_b, ↓wE_and, ↓wE_or, ↓wB_one, ↓wB_and, ↓wB_or, ↓wIte_t, ↓wIte_f, ↓wE_cmp, ↓wE_cmp2, ↓wE_ife, ↓wE_call, ↓wE_bi, ↓wE_mth, ↓wE_sub, ↓wE_slc, ↓wE_comp, ↓wE_dct, ↓wE_dnewt, ↓wE_al, ↓wAl_lst, ↓wAl_dk, ↓wAl_dt, ↓wT_nm, ↓wX_0, ↓wX_s, ↓wT_tup, ↓wTs_nil, ↓wTs_cons, ↓wT_sub, ↓wI_seq, ↓wSeq_tup, ↓wSeq_lst, ↓wSeq_ref, ↓wSeq_scr, ↓wI_rng, ↓wRng_1, ↓wRng_2, ↓wI_enum, ↓wEnum_tup, ↓wEnum_lst, ↓wEnum_ref, ↓wI_zip, ↓wZip_tup, ↓wZip_lst, ↓wSs_nil, ↓wSs_cons, ↓wS_asg, ↓wS_par, ↓wP_nil, ↓wP_cons, ↓wS_expr, ↓wS_ret, ↓wS_retN, ↓wS_iff, ↓wIs_t, ↓wIs_f, ↓wS_for, ↓wS_whl, ↓wO_some, ↓wO_none, ↓wO_map, ↓wO_bind, ↓wO_chk, ↓wW_nil, ↓wW_cons, ↓b_addLR, ↓b_addRL, ↓m_append, ↓m_extend, ↓m_pop, ↓st_ref, ↓sb_ref, ↓len_ref, ↓wE_dcomp, ↓wSt_l, ↓wSt_i, ↓wSt_s, ↓wSt_t, ↓wSb_l, ↓wSb_i, ↓wSb_t, ↓wLn_l, ↓wLn_d, ↓wLn_t, ↓wO_ixn, wE_tupP, wE_lstP, plain_nil, plain_cons, wE_lstT, wE_tupT, starry_t, starry_f, decide_true, decide_false, Bool.not_false, Bool.not_true, Bool.true_and, Bool.and_true, Bool.false_and, Bool.and_false, Bool.or_false, Bool.false_or, Bool.or_true, Bool.true_or, Bool.or_self, wO_some, b_add, b_sub, b_mul, b_fdiv, b_mod, b_addT, b_addL, b_mulL, c_lt, c_le, c_gt, c_ge, c_eq, c_ne, c_eqS, c_neS, c_is_int, c_is_non, c_is_tup, c_isnt_int, c_isnt_non, c_isnt_tup, u_lenL, u_lenT, u_abs, u_int, u_intB, u_max2, u_min2, is_map, is_int, is_nil, is_cons, is_app, bs_map, u_sum, u_all, u_any, u_max1, u_min1, u_listT, u_listL, u_listR, u_tupL, u_tupT, u_tupR, u_vals, u_rng1, x_tup, x_lst, x_tupN, x_lstN, x_lstE, x_tupE, x_dkI, x_dkS, wIte_pand, wIte_por, wIte_int, u_repB, u_repN, x_t0, x_l0, wSb_l0, x_t1, x_l1, wSb_l1, x_t2, x_l2, wSb_l2, x_t3, x_l3, wSb_l3, x_t4, x_l4, wSb_l4, x_t5, x_l5, wSb_l5, s_lT0, s_lL0, s_hT0, s_hL0, s_lT1, s_lL1, s_hT1, s_hL1, s_lT2, s_lL2, s_hT2, s_hL2, s_loT, s_loL, s_hiT, s_hiL, s_lohiT, s_lohiL, s_revT, s_revL, getS_t, getS_l, getL_ref, getDk_ref, isL_l, isDk_d, ap_0, ap_k, aps_0, aps_k, mok_append, mok_extend, mok_pop, mok_popat, Option.map_some, Option.map_none, Option.bind_some, Option.isSome_some, List.cons_append, List.nil_append, List.append_nil, List.length_map, List.length_append, List.length_cons, List.length_nil, List.set_cons_zero, List.set_cons_succ, List.getElem?_cons_zero, List.getElem?_cons_succ, Int.toNat_natCast, true_and, and_true, List.append_assoc, Nat.zero_add, Nat.reduceAdd, lw14, c_law_small _ js (by omega) hcl, rj]
  simp only [lw13, ↓wE_nm, ↓wV_0, ↓wV_s, ↓wE_non, ↓wE_lbl, ↓wE_int, ↓wE_str, ↓wA_nil, ↓wA_cons, ↓wA_star, ↓wE_bin, ↓wE_neg, ↓wIn_i, ↓wE_nt, ↓wBl_b, ↓wE_and, ↓wE_or, ↓wB_one, ↓wB_and, ↓wB_or, ↓wIte_t, ↓wIte_f, ↓wE_cmp, ↓wE_cmp2, ↓wE_ife, ↓wE_call, ↓wE_bi, ↓wE_mth, ↓wE_sub, ↓wE_slc, ↓wE_comp, ↓wE_dct, ↓wE_dnewt, ↓wE_al, ↓wAl_lst, ↓wAl_dk, ↓wAl_dt, ↓wT_nm, ↓wX_0, ↓wX_s, ↓wT_tup, ↓wTs_nil, ↓wTs_cons, ↓wT_sub, ↓wI_seq, ↓wSeq_tup, ↓wSeq_lst, ↓wSeq_ref, ↓wSeq_scr, ↓wI_rng, ↓wRng_1, ↓wRng_2, ↓wI_enum, ↓wEnum_tup, ↓wEnum_lst, ↓wEnum_ref, ↓wI_zip, ↓wZip_tup, ↓wZip_lst, ↓wSs_nil, ↓wSs_cons, ↓wS_asg, ↓wS_par, ↓wP_nil, ↓wP_cons, ↓wS_expr, ↓wS_ret, ↓wS_retN, ↓wS_iff, ↓wIs_t, ↓wIs_f, ↓wS_for, ↓wS_whl, ↓wO_some, ↓wO_none, ↓wO_map, ↓wO_bind, ↓wO_chk, ↓wW_nil, ↓wW_cons, ↓b_addLR, ↓b_addRL, ↓m_append, ↓m_extend, ↓m_pop, ↓st_ref, ↓sb_ref, ↓len_ref, ↓wE_dcomp, ↓wSt_l, ↓wSt_i, ↓wSt_s, ↓wSt_t, ↓wSb_l, ↓wSb_i, ↓wSb_t, ↓wLn_l, ↓wLn_d, ↓wLn_t, ↓wO_ixn, wE_tupP, wE_lstP, plain_nil, plain_cons, wE_lstT, wE_tupT, starry_t, starry_f, decide_true, decide_false, Bool.not_false, Bool.not_true, Bool.true_and, Bool.and_true, Bool.false_and, Bool.and_false, Bool.or_false, Bool.false_or, Bool.or_true, Bool.true_or, Bool.or_self, wO_some, b_add, b_sub, b_mul, b_fdiv, b_mod, b_addT, b_addL, b_mulL, c_lt, c_le, c_gt, c_ge, c_eq, c_ne, c_eqS, c_neS, c_is_int, c_is_non, c_is_tup, c_isnt_int, c_isnt_non, c_isnt_tup, u_lenL, u_lenT, u_abs, u_int, u_intB, u_max2, u_min2, is_map, is_int, is_nil, is_cons, is_app, bs_map, u_sum, u_all, u_any, u_max1, u_min1, u_listT, u_listL, u_listR, u_tupL, u_tupT, u_tupR, u_vals, u_rng1, x_tup, x_lst, x_tupN, x_lstN, x_lstE, x_tupE, x_dkI, x_dkS, wIte_pand, wIte_por, wIte_int, u_repB, u_repN, x_t0, x_l0, wSb_l0, x_t1, x_l1, wSb_l1, x_t2, x_l2, wSb_l2, x_t3, x_l3, wSb_l3, x_t4, x_l4, wSb_l4, x_t5, x_l5, wSb_l5, s_lT0, s_lL0, s_hT0, s_hL0, s_lT1, s_lL1, s_hT1, s_hL1, s_lT2, s_lL2, s_hT2, s_hL2, s_loT, s_loL, s_hiT, s_hiL, s_lohiT, s_lohiL, s_revT, s_revL, getS_t, getS_l, getL_ref, getDk_ref, isL_l, isDk_d, ap_0, ap_k, aps_0, aps_k, mok_append, mok_extend, mok_pop, mok_popat, Option.map_some, Option.map_none, Option.bind_some, Option.isSome_some, List.cons_append, List.nil_append, List.append_nil, List.length_map, List.length_append, List.length_cons, List.length_nil, List.set_cons_zero, List.set_cons_succ, List.getElem?_cons_zero, List.getElem?_cons_succ, Int.toNat_natCast, true_and, and_true, List.append_assoc, Nat.zero_add, Nat.reduceAdd, c_is_small_middle _ js (by omega) hcl, decide_true]
  simp only [lw12, ↓wE_nm, ↓wV_0, ↓wV_s, ↓wE_non, ↓wE_lbl, ↓wE_int, ↓wE_str, ↓wA_nil, ↓wA_cons, ↓wA_star, ↓wE_bin, ↓wE_neg, ↓wIn_i, ↓wE_nt, ↓wBl_b, ↓wE_and, ↓wE_or, ↓wB_one, ↓wB_and, ↓wB_or, ↓wIte_t, ↓wIte_f, ↓wE_cmp, ↓wE_cmp2, ↓wE_ife, ↓wE_call, ↓wE_bi, ↓wE_mth, ↓wE_sub, ↓wE_slc, ↓wE_comp, ↓wE_dct, ↓wE_dnewt, ↓wE_al, ↓wAl_lst, ↓wAl_dk, ↓wAl_dt, ↓wT_nm, ↓wX_0, ↓wX_s, ↓wT_tup, ↓wTs_nil, ↓wTs_cons, ↓wT_sub, ↓wI_seq, ↓wSeq_tup, ↓wSeq_lst, ↓wSeq_ref, ↓wSeq_scr, ↓wI_rng, ↓wRng_1, ↓wRng_2, ↓wI_enum, ↓wEnum_tup, ↓wEnum_lst, ↓wEnum_ref, ↓wI_zip, ↓wZip_tup, ↓wZip_lst, ↓wSs_nil, ↓wSs_cons, ↓wS_asg, ↓wS_par, ↓wP_nil, ↓wP_cons, ↓wS_expr, ↓wS_ret, ↓wS_retN, ↓wS_iff, ↓wIs_t, ↓wIs_f, ↓wS_for, ↓wS_whl, ↓wO_some, ↓wO_none, ↓wO_map, ↓wO_bind, ↓wO_chk, ↓wW_nil, ↓wW_cons, ↓b_addLR, ↓b_addRL, ↓m_append, ↓m_extend, ↓m_pop, ↓st_ref, ↓sb_ref, ↓len_ref, ↓wE_dcomp, ↓wSt_l, ↓wSt_i, ↓wSt_s, ↓wSt_t, ↓wSb_l, ↓wSb_i, ↓wSb_t, ↓wLn_l, ↓wLn_d, ↓wLn_t, ↓wO_ixn, wE_tupP, wE_lstP, plain_nil, plain_cons, wE_lstT, wE_tupT, starry_t, starry_f, decide_true, decide_false, Bool.not_false, Bool.not_true, Bool.true_and, Bool.and_true, Bool.false_and, Bool.and_false, Bool.or_false, Bool.false_or, Bool.or_true, Bool.true_or, Bool.or_self, wO_some, b_add, b_sub, b_mul, b_fdiv, b_mod, b_addT, b_addL, b_mulL, c_lt, c_le, c_gt, c_ge, c_eq, c_ne, c_eqS, c_neS, c_is_int, c_is_non, c_is_tup, c_isnt_int, c_isnt_non, c_isnt_tup, u_lenL, u_lenT, u_abs, u_int, u_intB, u_max2, u_min2, is_map, is_int, is_nil, is_cons, is_app, bs_map, u_sum, u_all, u_any, u_max1, u_min1, u_listT, u_listL, u_listR, u_tupL, u_tupT, u_tupR, u_vals, u_rng1, x_tup, x_lst, x_tupN, x_lstN, x_lstE, x_tupE, x_dkI, x_dkS, wIte_pand, wIte_por, wIte_int, u_repB, u_repN, x_t0, x_l0, wSb_l0, x_t1, x_l1, wSb_l1, x_t2, x_l2, wSb_l2, x_t3, x_l3, wSb_l3, x_t4, x_l4, wSb_l4, x_t5, x_l5, wSb_l5, s_lT0, s_lL0, s_hT0, s_hL0, s_lT1, s_lL1, s_hT1, s_hL1, s_lT2, s_lL2, s_hT2, s_hL2, s_loT, s_loL, s_hiT, s_hiL, s_lohiT, s_lohiL, s_revT, s_revL, getS_t, getS_l, getL_ref, getDk_ref, isL_l, isDk_d, ap_0, ap_k, aps_0, aps_k, mok_append, mok_extend, mok_pop, mok_popat, Option.map_some, Option.map_none, Option.bind_some, Option.isSome_some, List.cons_append, List.nil_append, List.append_nil, List.length_map, List.length_append, List.length_cons, List.length_nil, List.set_cons_zero, List.set_cons_succ, List.getElem?_cons_zero, List.getElem?_cons_succ, Int.toNat_natCast, true_and, and_true, List.append_assoc, Nat.zero_add, Nat.reduceAdd, rng0]
  refine ⟨RgOk.of_le (by omega) (by omega) (by omega) (by omega), ?_⟩
  obtain ⟨o, s3, q3, ho, hc3⟩ := mixed_nat c_law_mixed hc2 (n := js.length) (by omega) clr0
  have hcl3 : Cl (s3.hs []) := cl_hs clr0
  have hol := ho.len
  have sp : ∀ (o : List Nat) (h : Hs), PermR js.length o → Cl h → calls fns LL 23 4 [eJobs js, eOrd o] h = some (.int (sp1 js o), h) := fun o h ho hc => c_room_span h js o ho.lt ho.nd (by omega) hc
  have wd : ∀ (o : List Nat) (h : Hs), PermR js.length o → Cl h → calls fns LL 23 6 [eJobs js, eOrd o] h = some (.int (W 0 0 (sel js o)), h) := fun o h ho hc => c_wide_span h js o ho.lt (by have := ho.len; omega) hj hc
  have wb : ∀ h, Cl h → calls fns LL 23 9 [eJobs js] h = some (.int (W 0 0 (sel js (told js))), h) := fun h hc => c_wide_bound h js (by omega) hj hc
  have tl : ∀ h, Cl h → calls fns LL 23 8 [eJobs js] h = some (eOrd (told js), h) := fun h hc => c_told_room_order h js (by omega) hc
  have eo : ∀ o : List Nat, D.tup (o.map eN) = eOrd o := fun o => rfl
  have sm : (small js && !decide (sp1 js o = W 0 0 (sel js o))) = false := by
    cases hb : small js with
    | false => rfl
    | true => simp [small_sp hj hb ho]
  simp only [q3, ↓wE_nm, ↓wV_0, ↓wV_s, ↓wE_non, ↓wE_lbl, ↓wE_int, ↓wE_str, ↓wA_nil, ↓wA_cons, ↓wA_star, ↓wE_bin, ↓wE_neg, ↓wIn_i, ↓wE_nt, ↓wBl_b, ↓wE_and, ↓wE_or, ↓wB_one, ↓wB_and, ↓wB_or, ↓wIte_t, ↓wIte_f, ↓wE_cmp, ↓wE_cmp2, ↓wE_ife, ↓wE_call, ↓wE_bi, ↓wE_mth, ↓wE_sub, ↓wE_slc, ↓wE_comp, ↓wE_dct, ↓wE_dnewt, ↓wE_al, ↓wAl_lst, ↓wAl_dk, ↓wAl_dt, ↓wT_nm, ↓wX_0, ↓wX_s, ↓wT_tup, ↓wTs_nil, ↓wTs_cons, ↓wT_sub, ↓wI_seq, ↓wSeq_tup, ↓wSeq_lst, ↓wSeq_ref, ↓wSeq_scr, ↓wI_rng, ↓wRng_1, ↓wRng_2, ↓wI_enum, ↓wEnum_tup, ↓wEnum_lst, ↓wEnum_ref, ↓wI_zip, ↓wZip_tup, ↓wZip_lst, ↓wSs_nil, ↓wSs_cons, ↓wS_asg, ↓wS_par, ↓wP_nil, ↓wP_cons, ↓wS_expr, ↓wS_ret, ↓wS_retN, ↓wS_iff, ↓wIs_t, ↓wIs_f, ↓wS_for, ↓wS_whl, ↓wO_some, ↓wO_none, ↓wO_map, ↓wO_bind, ↓wO_chk, ↓wW_nil, ↓wW_cons, ↓b_addLR, ↓b_addRL, ↓m_append, ↓m_extend, ↓m_pop, ↓st_ref, ↓sb_ref, ↓len_ref, ↓wE_dcomp, ↓wSt_l, ↓wSt_i, ↓wSt_s, ↓wSt_t, ↓wSb_l, ↓wSb_i, ↓wSb_t, ↓wLn_l, ↓wLn_d, ↓wLn_t, ↓wO_ixn, wE_tupP, wE_lstP, plain_nil, plain_cons, wE_lstT, wE_tupT, starry_t, starry_f, decide_true, decide_false, Bool.not_false, Bool.not_true, Bool.true_and, Bool.and_true, Bool.false_and, Bool.and_false, Bool.or_false, Bool.false_or, Bool.or_true, Bool.true_or, Bool.or_self, wO_some, b_add, b_sub, b_mul, b_fdiv, b_mod, b_addT, b_addL, b_mulL, c_lt, c_le, c_gt, c_ge, c_eq, c_ne, c_eqS, c_neS, c_is_int, c_is_non, c_is_tup, c_isnt_int, c_isnt_non, c_isnt_tup, u_lenL, u_lenT, u_abs, u_int, u_intB, u_max2, u_min2, is_map, is_int, is_nil, is_cons, is_app, bs_map, u_sum, u_all, u_any, u_max1, u_min1, u_listT, u_listL, u_listR, u_tupL, u_tupT, u_tupR, u_vals, u_rng1, x_tup, x_lst, x_tupN, x_lstN, x_lstE, x_tupE, x_dkI, x_dkS, wIte_pand, wIte_por, wIte_int, u_repB, u_repN, x_t0, x_l0, wSb_l0, x_t1, x_l1, wSb_l1, x_t2, x_l2, wSb_l2, x_t3, x_l3, wSb_l3, x_t4, x_l4, wSb_l4, x_t5, x_l5, wSb_l5, s_lT0, s_lL0, s_hT0, s_hL0, s_lT1, s_lL1, s_hT1, s_hL1, s_lT2, s_lL2, s_hT2, s_hL2, s_loT, s_loL, s_hiT, s_hiL, s_lohiT, s_lohiL, s_revT, s_revL, getS_t, getS_l, getL_ref, getDk_ref, isL_l, isDk_d, ap_0, ap_k, aps_0, aps_k, mok_append, mok_extend, mok_pop, mok_popat, Option.map_some, Option.map_none, Option.bind_some, Option.isSome_some, List.cons_append, List.nil_append, List.append_nil, List.length_map, List.length_append, List.length_cons, List.length_nil, List.set_cons_zero, List.set_cons_succ, List.getElem?_cons_zero, List.getElem?_cons_succ, Int.toNat_natCast, true_and, and_true, List.append_assoc, Nat.zero_add, Nat.reduceAdd, eo, lw11, sp o _ ho hcl3, wd o _ ho hcl3, sm]
  refine wSs_cut (fun e h => ∃ (p8 p9 p10 p11 p12 p13 : Option D), e = [p0, some (.ref 1), some (eN t), some (.int js.length), some (eJobs js), some (eOrd o), some (.bl (small js)), some (.str (rep (eJobs js))), p8, p9, p10, p11, p12, p13] ∧ h = s3.hs []) ?_ ?_
  · simp only [↓wE_nm, ↓wV_0, ↓wV_s, ↓wE_non, ↓wE_lbl, ↓wE_int, ↓wE_str, ↓wA_nil, ↓wA_cons, ↓wA_star, ↓wE_bin, ↓wE_neg, ↓wIn_i, ↓wE_nt, ↓wBl_b, ↓wE_and, ↓wE_or, ↓wB_one, ↓wB_and, ↓wB_or, ↓wIte_t, ↓wIte_f, ↓wE_cmp, ↓wE_cmp2, ↓wE_ife, ↓wE_call, ↓wE_bi, ↓wE_mth, ↓wE_sub, ↓wE_slc, ↓wE_comp, ↓wE_dct, ↓wE_dnewt, ↓wE_al, ↓wAl_lst, ↓wAl_dk, ↓wAl_dt, ↓wT_nm, ↓wX_0, ↓wX_s, ↓wT_tup, ↓wTs_nil, ↓wTs_cons, ↓wT_sub, ↓wI_seq, ↓wSeq_tup, ↓wSeq_lst, ↓wSeq_ref, ↓wSeq_scr, ↓wI_rng, ↓wRng_1, ↓wRng_2, ↓wI_enum, ↓wEnum_tup, ↓wEnum_lst, ↓wEnum_ref, ↓wI_zip, ↓wZip_tup, ↓wZip_lst, ↓wSs_nil, ↓wSs_cons, ↓wS_asg, ↓wS_par, ↓wP_nil, ↓wP_cons, ↓wS_expr, ↓wS_ret, ↓wS_retN, ↓wS_iff, ↓wIs_t, ↓wIs_f, ↓wS_for, ↓wS_whl, ↓wO_some, ↓wO_none, ↓wO_map, ↓wO_bind, ↓wO_chk, ↓wW_nil, ↓wW_cons, ↓b_addLR, ↓b_addRL, ↓m_append, ↓m_extend, ↓m_pop, ↓st_ref, ↓sb_ref, ↓len_ref, ↓wE_dcomp, ↓wSt_l, ↓wSt_i, ↓wSt_s, ↓wSt_t, ↓wSb_l, ↓wSb_i, ↓wSb_t, ↓wLn_l, ↓wLn_d, ↓wLn_t, ↓wO_ixn, wE_tupP, wE_lstP, plain_nil, plain_cons, wE_lstT, wE_tupT, starry_t, starry_f, decide_true, decide_false, Bool.not_false, Bool.not_true, Bool.true_and, Bool.and_true, Bool.false_and, Bool.and_false, Bool.or_false, Bool.false_or, Bool.or_true, Bool.true_or, Bool.or_self, wO_some, b_add, b_sub, b_mul, b_fdiv, b_mod, b_addT, b_addL, b_mulL, c_lt, c_le, c_gt, c_ge, c_eq, c_ne, c_eqS, c_neS, c_is_int, c_is_non, c_is_tup, c_isnt_int, c_isnt_non, c_isnt_tup, u_lenL, u_lenT, u_abs, u_int, u_intB, u_max2, u_min2, is_map, is_int, is_nil, is_cons, is_app, bs_map, u_sum, u_all, u_any, u_max1, u_min1, u_listT, u_listL, u_listR, u_tupL, u_tupT, u_tupR, u_vals, u_rng1, x_tup, x_lst, x_tupN, x_lstN, x_lstE, x_tupE, x_dkI, x_dkS, wIte_pand, wIte_por, wIte_int, u_repB, u_repN, x_t0, x_l0, wSb_l0, x_t1, x_l1, wSb_l1, x_t2, x_l2, wSb_l2, x_t3, x_l3, wSb_l3, x_t4, x_l4, wSb_l4, x_t5, x_l5, wSb_l5, s_lT0, s_lL0, s_hT0, s_hL0, s_lT1, s_lL1, s_hT1, s_hL1, s_lT2, s_lL2, s_hT2, s_hL2, s_loT, s_loL, s_hiT, s_hiL, s_lohiT, s_lohiL, s_revT, s_revL, getS_t, getS_l, getL_ref, getDk_ref, isL_l, isDk_d, ap_0, ap_k, aps_0, aps_k, mok_append, mok_extend, mok_pop, mok_popat, Option.map_some, Option.map_none, Option.bind_some, Option.isSome_some, List.cons_append, List.nil_append, List.append_nil, List.length_map, List.length_append, List.length_cons, List.length_nil, List.set_cons_zero, List.set_cons_succ, List.getElem?_cons_zero, List.getElem?_cons_succ, Int.toNat_natCast, true_and, and_true, List.append_assoc, Nat.zero_add, Nat.reduceAdd]
    by_cases h7 : (js.length : Int) < 7
    · have hl6 : js.length ≤ 6 := by omega
      have lp := ords_le hl6
      have lsz : (ords js.length js.length).length ≤ sizeLine := fits_of (by omega)
      simp only [decide_eq_true h7, ↓wE_nm, ↓wV_0, ↓wV_s, ↓wE_non, ↓wE_lbl, ↓wE_int, ↓wE_str, ↓wA_nil, ↓wA_cons, ↓wA_star, ↓wE_bin, ↓wE_neg, ↓wIn_i, ↓wE_nt, ↓wBl_b, ↓wE_and, ↓wE_or, ↓wB_one, ↓wB_and, ↓wB_or, ↓wIte_t, ↓wIte_f, ↓wE_cmp, ↓wE_cmp2, ↓wE_ife, ↓wE_call, ↓wE_bi, ↓wE_mth, ↓wE_sub, ↓wE_slc, ↓wE_comp, ↓wE_dct, ↓wE_dnewt, ↓wE_al, ↓wAl_lst, ↓wAl_dk, ↓wAl_dt, ↓wT_nm, ↓wX_0, ↓wX_s, ↓wT_tup, ↓wTs_nil, ↓wTs_cons, ↓wT_sub, ↓wI_seq, ↓wSeq_tup, ↓wSeq_lst, ↓wSeq_ref, ↓wSeq_scr, ↓wI_rng, ↓wRng_1, ↓wRng_2, ↓wI_enum, ↓wEnum_tup, ↓wEnum_lst, ↓wEnum_ref, ↓wI_zip, ↓wZip_tup, ↓wZip_lst, ↓wSs_nil, ↓wSs_cons, ↓wS_asg, ↓wS_par, ↓wP_nil, ↓wP_cons, ↓wS_expr, ↓wS_ret, ↓wS_retN, ↓wS_iff, ↓wIs_t, ↓wIs_f, ↓wS_for, ↓wS_whl, ↓wO_some, ↓wO_none, ↓wO_map, ↓wO_bind, ↓wO_chk, ↓wW_nil, ↓wW_cons, ↓b_addLR, ↓b_addRL, ↓m_append, ↓m_extend, ↓m_pop, ↓st_ref, ↓sb_ref, ↓len_ref, ↓wE_dcomp, ↓wSt_l, ↓wSt_i, ↓wSt_s, ↓wSt_t, ↓wSb_l, ↓wSb_i, ↓wSb_t, ↓wLn_l, ↓wLn_d, ↓wLn_t, ↓wO_ixn, wE_tupP, wE_lstP, plain_nil, plain_cons, wE_lstT, wE_tupT, starry_t, starry_f, decide_true, decide_false, Bool.not_false, Bool.not_true, Bool.true_and, Bool.and_true, Bool.false_and, Bool.and_false, Bool.or_false, Bool.false_or, Bool.or_true, Bool.true_or, Bool.or_self, wO_some, b_add, b_sub, b_mul, b_fdiv, b_mod, b_addT, b_addL, b_mulL, c_lt, c_le, c_gt, c_ge, c_eq, c_ne, c_eqS, c_neS, c_is_int, c_is_non, c_is_tup, c_isnt_int, c_isnt_non, c_isnt_tup, u_lenL, u_lenT, u_abs, u_int, u_intB, u_max2, u_min2, is_map, is_int, is_nil, is_cons, is_app, bs_map, u_sum, u_all, u_any, u_max1, u_min1, u_listT, u_listL, u_listR, u_tupL, u_tupT, u_tupR, u_vals, u_rng1, x_tup, x_lst, x_tupN, x_lstN, x_lstE, x_tupE, x_dkI, x_dkS, wIte_pand, wIte_por, wIte_int, u_repB, u_repN, x_t0, x_l0, wSb_l0, x_t1, x_l1, wSb_l1, x_t2, x_l2, wSb_l2, x_t3, x_l3, wSb_l3, x_t4, x_l4, wSb_l4, x_t5, x_l5, wSb_l5, s_lT0, s_lL0, s_hT0, s_hL0, s_lT1, s_lL1, s_hT1, s_hL1, s_lT2, s_lL2, s_hT2, s_hL2, s_loT, s_loL, s_hiT, s_hiL, s_lohiT, s_lohiL, s_revT, s_revL, getS_t, getS_l, getL_ref, getDk_ref, isL_l, isDk_d, ap_0, ap_k, aps_0, aps_k, mok_append, mok_extend, mok_pop, mok_popat, Option.map_some, Option.map_none, Option.bind_some, Option.isSome_some, List.cons_append, List.nil_append, List.append_nil, List.length_map, List.length_append, List.length_cons, List.length_nil, List.set_cons_zero, List.set_cons_succ, List.getElem?_cons_zero, List.getElem?_cons_succ, Int.toNat_natCast, true_and, and_true, List.append_assoc, Nat.zero_add, Nat.reduceAdd, lw9, c_law_orders _ js.length hl6 hcl3, lw8]
      refine wComp_pure (fun o : List Nat => .int (sp1 js o)) ?_ ?_
      · intro o ho
        simp only [↓wE_nm, ↓wV_0, ↓wV_s, ↓wE_non, ↓wE_lbl, ↓wE_int, ↓wE_str, ↓wA_nil, ↓wA_cons, ↓wA_star, ↓wE_bin, ↓wE_neg, ↓wIn_i, ↓wE_nt, ↓wBl_b, ↓wE_and, ↓wE_or, ↓wB_one, ↓wB_and, ↓wB_or, ↓wIte_t, ↓wIte_f, ↓wE_cmp, ↓wE_cmp2, ↓wE_ife, ↓wE_call, ↓wE_bi, ↓wE_mth, ↓wE_sub, ↓wE_slc, ↓wE_comp, ↓wE_dct, ↓wE_dnewt, ↓wE_al, ↓wAl_lst, ↓wAl_dk, ↓wAl_dt, ↓wT_nm, ↓wX_0, ↓wX_s, ↓wT_tup, ↓wTs_nil, ↓wTs_cons, ↓wT_sub, ↓wI_seq, ↓wSeq_tup, ↓wSeq_lst, ↓wSeq_ref, ↓wSeq_scr, ↓wI_rng, ↓wRng_1, ↓wRng_2, ↓wI_enum, ↓wEnum_tup, ↓wEnum_lst, ↓wEnum_ref, ↓wI_zip, ↓wZip_tup, ↓wZip_lst, ↓wSs_nil, ↓wSs_cons, ↓wS_asg, ↓wS_par, ↓wP_nil, ↓wP_cons, ↓wS_expr, ↓wS_ret, ↓wS_retN, ↓wS_iff, ↓wIs_t, ↓wIs_f, ↓wS_for, ↓wS_whl, ↓wO_some, ↓wO_none, ↓wO_map, ↓wO_bind, ↓wO_chk, ↓wW_nil, ↓wW_cons, ↓b_addLR, ↓b_addRL, ↓m_append, ↓m_extend, ↓m_pop, ↓st_ref, ↓sb_ref, ↓len_ref, ↓wE_dcomp, ↓wSt_l, ↓wSt_i, ↓wSt_s, ↓wSt_t, ↓wSb_l, ↓wSb_i, ↓wSb_t, ↓wLn_l, ↓wLn_d, ↓wLn_t, ↓wO_ixn, wE_tupP, wE_lstP, plain_nil, plain_cons, wE_lstT, wE_tupT, starry_t, starry_f, decide_true, decide_false, Bool.not_false, Bool.not_true, Bool.true_and, Bool.and_true, Bool.false_and, Bool.and_false, Bool.or_false, Bool.false_or, Bool.or_true, Bool.true_or, Bool.or_self, wO_some, b_add, b_sub, b_mul, b_fdiv, b_mod, b_addT, b_addL, b_mulL, c_lt, c_le, c_gt, c_ge, c_eq, c_ne, c_eqS, c_neS, c_is_int, c_is_non, c_is_tup, c_isnt_int, c_isnt_non, c_isnt_tup, u_lenL, u_lenT, u_abs, u_int, u_intB, u_max2, u_min2, is_map, is_int, is_nil, is_cons, is_app, bs_map, u_sum, u_all, u_any, u_max1, u_min1, u_listT, u_listL, u_listR, u_tupL, u_tupT, u_tupR, u_vals, u_rng1, x_tup, x_lst, x_tupN, x_lstN, x_lstE, x_tupE, x_dkI, x_dkS, wIte_pand, wIte_por, wIte_int, u_repB, u_repN, x_t0, x_l0, wSb_l0, x_t1, x_l1, wSb_l1, x_t2, x_l2, wSb_l2, x_t3, x_l3, wSb_l3, x_t4, x_l4, wSb_l4, x_t5, x_l5, wSb_l5, s_lT0, s_lL0, s_hT0, s_hL0, s_lT1, s_lL1, s_hT1, s_hL1, s_lT2, s_lL2, s_hT2, s_hL2, s_loT, s_loL, s_hiT, s_hiL, s_lohiT, s_lohiL, s_revT, s_revL, getS_t, getS_l, getL_ref, getDk_ref, isL_l, isDk_d, ap_0, ap_k, aps_0, aps_k, mok_append, mok_extend, mok_pop, mok_popat, Option.map_some, Option.map_none, Option.bind_some, Option.isSome_some, List.cons_append, List.nil_append, List.append_nil, List.length_map, List.length_append, List.length_cons, List.length_nil, List.set_cons_zero, List.set_cons_succ, List.getElem?_cons_zero, List.getElem?_cons_succ, Int.toNat_natCast, true_and, and_true, List.append_assoc, Nat.zero_add, Nat.reduceAdd, c_law_span _ js o (ords_R ho) (by omega) hcl3]
      have hmn : minO ((ords js.length js.length).map fun o => sp1 js o) = some (.int (leastR js)) := minO_mn (by simpa using ords_ne _)
      have hlr := W_leastR hj
      obtain ⟨o', ho', hlo⟩ := leastR_mem (js := js)
      have hlb := sp1_bd hj ho'
      have ri := u_repr (shw_int (i := leastR js) (by omega))
      simp only [↓wE_nm, ↓wV_0, ↓wV_s, ↓wE_non, ↓wE_lbl, ↓wE_int, ↓wE_str, ↓wA_nil, ↓wA_cons, ↓wA_star, ↓wE_bin, ↓wE_neg, ↓wIn_i, ↓wE_nt, ↓wBl_b, ↓wE_and, ↓wE_or, ↓wB_one, ↓wB_and, ↓wB_or, ↓wIte_t, ↓wIte_f, ↓wE_cmp, ↓wE_cmp2, ↓wE_ife, ↓wE_call, ↓wE_bi, ↓wE_mth, ↓wE_sub, ↓wE_slc, ↓wE_comp, ↓wE_dct, ↓wE_dnewt, ↓wE_al, ↓wAl_lst, ↓wAl_dk, ↓wAl_dt, ↓wT_nm, ↓wX_0, ↓wX_s, ↓wT_tup, ↓wTs_nil, ↓wTs_cons, ↓wT_sub, ↓wI_seq, ↓wSeq_tup, ↓wSeq_lst, ↓wSeq_ref, ↓wSeq_scr, ↓wI_rng, ↓wRng_1, ↓wRng_2, ↓wI_enum, ↓wEnum_tup, ↓wEnum_lst, ↓wEnum_ref, ↓wI_zip, ↓wZip_tup, ↓wZip_lst, ↓wSs_nil, ↓wSs_cons, ↓wS_asg, ↓wS_par, ↓wP_nil, ↓wP_cons, ↓wS_expr, ↓wS_ret, ↓wS_retN, ↓wS_iff, ↓wIs_t, ↓wIs_f, ↓wS_for, ↓wS_whl, ↓wO_some, ↓wO_none, ↓wO_map, ↓wO_bind, ↓wO_chk, ↓wW_nil, ↓wW_cons, ↓b_addLR, ↓b_addRL, ↓m_append, ↓m_extend, ↓m_pop, ↓st_ref, ↓sb_ref, ↓len_ref, ↓wE_dcomp, ↓wSt_l, ↓wSt_i, ↓wSt_s, ↓wSt_t, ↓wSb_l, ↓wSb_i, ↓wSb_t, ↓wLn_l, ↓wLn_d, ↓wLn_t, ↓wO_ixn, wE_tupP, wE_lstP, plain_nil, plain_cons, wE_lstT, wE_tupT, starry_t, starry_f, decide_true, decide_false, Bool.not_false, Bool.not_true, Bool.true_and, Bool.and_true, Bool.false_and, Bool.and_false, Bool.or_false, Bool.false_or, Bool.or_true, Bool.true_or, Bool.or_self, wO_some, b_add, b_sub, b_mul, b_fdiv, b_mod, b_addT, b_addL, b_mulL, c_lt, c_le, c_gt, c_ge, c_eq, c_ne, c_eqS, c_neS, c_is_int, c_is_non, c_is_tup, c_isnt_int, c_isnt_non, c_isnt_tup, u_lenL, u_lenT, u_abs, u_int, u_intB, u_max2, u_min2, is_map, is_int, is_nil, is_cons, is_app, bs_map, u_sum, u_all, u_any, u_max1, u_min1, u_listT, u_listL, u_listR, u_tupL, u_tupT, u_tupR, u_vals, u_rng1, x_tup, x_lst, x_tupN, x_lstN, x_lstE, x_tupE, x_dkI, x_dkS, wIte_pand, wIte_por, wIte_int, u_repB, u_repN, x_t0, x_l0, wSb_l0, x_t1, x_l1, wSb_l1, x_t2, x_l2, wSb_l2, x_t3, x_l3, wSb_l3, x_t4, x_l4, wSb_l4, x_t5, x_l5, wSb_l5, s_lT0, s_lL0, s_hT0, s_hL0, s_lT1, s_lL1, s_hT1, s_hL1, s_lT2, s_lL2, s_hT2, s_hL2, s_loT, s_loL, s_hiT, s_hiL, s_lohiT, s_lohiL, s_revT, s_revL, getS_t, getS_l, getL_ref, getDk_ref, isL_l, isDk_d, ap_0, ap_k, aps_0, aps_k, mok_append, mok_extend, mok_pop, mok_popat, Option.map_some, Option.map_none, Option.bind_some, Option.isSome_some, List.cons_append, List.nil_append, List.append_nil, List.length_map, List.length_append, List.length_cons, List.length_nil, List.set_cons_zero, List.set_cons_succ, List.getElem?_cons_zero, List.getElem?_cons_succ, Int.toNat_natCast, true_and, and_true, List.append_assoc, Nat.zero_add, Nat.reduceAdd, lw7, hmn, lw6, c_least_room_span _ js hl6 hcl3, wb _ hcl3, ri, decide_eq_false (show ¬ leastR js < W 0 0 (sel js (told js)) by omega)]
      simp only [lw5, ↓wE_nm, ↓wV_0, ↓wV_s, ↓wE_non, ↓wE_lbl, ↓wE_int, ↓wE_str, ↓wA_nil, ↓wA_cons, ↓wA_star, ↓wE_bin, ↓wE_neg, ↓wIn_i, ↓wE_nt, ↓wBl_b, ↓wE_and, ↓wE_or, ↓wB_one, ↓wB_and, ↓wB_or, ↓wIte_t, ↓wIte_f, ↓wE_cmp, ↓wE_cmp2, ↓wE_ife, ↓wE_call, ↓wE_bi, ↓wE_mth, ↓wE_sub, ↓wE_slc, ↓wE_comp, ↓wE_dct, ↓wE_dnewt, ↓wE_al, ↓wAl_lst, ↓wAl_dk, ↓wAl_dt, ↓wT_nm, ↓wX_0, ↓wX_s, ↓wT_tup, ↓wTs_nil, ↓wTs_cons, ↓wT_sub, ↓wI_seq, ↓wSeq_tup, ↓wSeq_lst, ↓wSeq_ref, ↓wSeq_scr, ↓wI_rng, ↓wRng_1, ↓wRng_2, ↓wI_enum, ↓wEnum_tup, ↓wEnum_lst, ↓wEnum_ref, ↓wI_zip, ↓wZip_tup, ↓wZip_lst, ↓wSs_nil, ↓wSs_cons, ↓wS_asg, ↓wS_par, ↓wP_nil, ↓wP_cons, ↓wS_expr, ↓wS_ret, ↓wS_retN, ↓wS_iff, ↓wIs_t, ↓wIs_f, ↓wS_for, ↓wS_whl, ↓wO_some, ↓wO_none, ↓wO_map, ↓wO_bind, ↓wO_chk, ↓wW_nil, ↓wW_cons, ↓b_addLR, ↓b_addRL, ↓m_append, ↓m_extend, ↓m_pop, ↓st_ref, ↓sb_ref, ↓len_ref, ↓wE_dcomp, ↓wSt_l, ↓wSt_i, ↓wSt_s, ↓wSt_t, ↓wSb_l, ↓wSb_i, ↓wSb_t, ↓wLn_l, ↓wLn_d, ↓wLn_t, ↓wO_ixn, wE_tupP, wE_lstP, plain_nil, plain_cons, wE_lstT, wE_tupT, starry_t, starry_f, decide_true, decide_false, Bool.not_false, Bool.not_true, Bool.true_and, Bool.and_true, Bool.false_and, Bool.and_false, Bool.or_false, Bool.false_or, Bool.or_true, Bool.true_or, Bool.or_self, wO_some, b_add, b_sub, b_mul, b_fdiv, b_mod, b_addT, b_addL, b_mulL, c_lt, c_le, c_gt, c_ge, c_eq, c_ne, c_eqS, c_neS, c_is_int, c_is_non, c_is_tup, c_isnt_int, c_isnt_non, c_isnt_tup, u_lenL, u_lenT, u_abs, u_int, u_intB, u_max2, u_min2, is_map, is_int, is_nil, is_cons, is_app, bs_map, u_sum, u_all, u_any, u_max1, u_min1, u_listT, u_listL, u_listR, u_tupL, u_tupT, u_tupR, u_vals, u_rng1, x_tup, x_lst, x_tupN, x_lstN, x_lstE, x_tupE, x_dkI, x_dkS, wIte_pand, wIte_por, wIte_int, u_repB, u_repN, x_t0, x_l0, wSb_l0, x_t1, x_l1, wSb_l1, x_t2, x_l2, wSb_l2, x_t3, x_l3, wSb_l3, x_t4, x_l4, wSb_l4, x_t5, x_l5, wSb_l5, s_lT0, s_lL0, s_hT0, s_hL0, s_lT1, s_lL1, s_hT1, s_hL1, s_lT2, s_lL2, s_hT2, s_hL2, s_loT, s_loL, s_hiT, s_hiL, s_lohiT, s_lohiL, s_revT, s_revL, getS_t, getS_l, getL_ref, getDk_ref, isL_l, isDk_d, ap_0, ap_k, aps_0, aps_k, mok_append, mok_extend, mok_pop, mok_popat, Option.map_some, Option.map_none, Option.bind_some, Option.isSome_some, List.cons_append, List.nil_append, List.append_nil, List.length_map, List.length_append, List.length_cons, List.length_nil, List.set_cons_zero, List.set_cons_succ, List.getElem?_cons_zero, List.getElem?_cons_succ, Int.toNat_natCast, true_and, and_true, List.append_assoc, Nat.zero_add, Nat.reduceAdd, zipL_map]
      refine ⟨lsz, wComp_pureIf (fun o : List Nat => decide (sp1 js o = leastR js)) (fun o => eOrd o) ?_ ?_⟩
      · intro o ho
        simp only [↓wE_nm, ↓wV_0, ↓wV_s, ↓wE_non, ↓wE_lbl, ↓wE_int, ↓wE_str, ↓wA_nil, ↓wA_cons, ↓wA_star, ↓wE_bin, ↓wE_neg, ↓wIn_i, ↓wE_nt, ↓wBl_b, ↓wE_and, ↓wE_or, ↓wB_one, ↓wB_and, ↓wB_or, ↓wIte_t, ↓wIte_f, ↓wE_cmp, ↓wE_cmp2, ↓wE_ife, ↓wE_call, ↓wE_bi, ↓wE_mth, ↓wE_sub, ↓wE_slc, ↓wE_comp, ↓wE_dct, ↓wE_dnewt, ↓wE_al, ↓wAl_lst, ↓wAl_dk, ↓wAl_dt, ↓wT_nm, ↓wX_0, ↓wX_s, ↓wT_tup, ↓wTs_nil, ↓wTs_cons, ↓wT_sub, ↓wI_seq, ↓wSeq_tup, ↓wSeq_lst, ↓wSeq_ref, ↓wSeq_scr, ↓wI_rng, ↓wRng_1, ↓wRng_2, ↓wI_enum, ↓wEnum_tup, ↓wEnum_lst, ↓wEnum_ref, ↓wI_zip, ↓wZip_tup, ↓wZip_lst, ↓wSs_nil, ↓wSs_cons, ↓wS_asg, ↓wS_par, ↓wP_nil, ↓wP_cons, ↓wS_expr, ↓wS_ret, ↓wS_retN, ↓wS_iff, ↓wIs_t, ↓wIs_f, ↓wS_for, ↓wS_whl, ↓wO_some, ↓wO_none, ↓wO_map, ↓wO_bind, ↓wO_chk, ↓wW_nil, ↓wW_cons, ↓b_addLR, ↓b_addRL, ↓m_append, ↓m_extend, ↓m_pop, ↓st_ref, ↓sb_ref, ↓len_ref, ↓wE_dcomp, ↓wSt_l, ↓wSt_i, ↓wSt_s, ↓wSt_t, ↓wSb_l, ↓wSb_i, ↓wSb_t, ↓wLn_l, ↓wLn_d, ↓wLn_t, ↓wO_ixn, wE_tupP, wE_lstP, plain_nil, plain_cons, wE_lstT, wE_tupT, starry_t, starry_f, decide_true, decide_false, Bool.not_false, Bool.not_true, Bool.true_and, Bool.and_true, Bool.false_and, Bool.and_false, Bool.or_false, Bool.false_or, Bool.or_true, Bool.true_or, Bool.or_self, wO_some, b_add, b_sub, b_mul, b_fdiv, b_mod, b_addT, b_addL, b_mulL, c_lt, c_le, c_gt, c_ge, c_eq, c_ne, c_eqS, c_neS, c_is_int, c_is_non, c_is_tup, c_isnt_int, c_isnt_non, c_isnt_tup, u_lenL, u_lenT, u_abs, u_int, u_intB, u_max2, u_min2, is_map, is_int, is_nil, is_cons, is_app, bs_map, u_sum, u_all, u_any, u_max1, u_min1, u_listT, u_listL, u_listR, u_tupL, u_tupT, u_tupR, u_vals, u_rng1, x_tup, x_lst, x_tupN, x_lstN, x_lstE, x_tupE, x_dkI, x_dkS, wIte_pand, wIte_por, wIte_int, u_repB, u_repN, x_t0, x_l0, wSb_l0, x_t1, x_l1, wSb_l1, x_t2, x_l2, wSb_l2, x_t3, x_l3, wSb_l3, x_t4, x_l4, wSb_l4, x_t5, x_l5, wSb_l5, s_lT0, s_lL0, s_hT0, s_hL0, s_lT1, s_lL1, s_hT1, s_hL1, s_lT2, s_lL2, s_hT2, s_hL2, s_loT, s_loL, s_hiT, s_hiL, s_lohiT, s_lohiL, s_revT, s_revL, getS_t, getS_l, getL_ref, getDk_ref, isL_l, isDk_d, ap_0, ap_k, aps_0, aps_k, mok_append, mok_extend, mok_pop, mok_popat, Option.map_some, Option.map_none, Option.bind_some, Option.isSome_some, List.cons_append, List.nil_append, List.append_nil, List.length_map, List.length_append, List.length_cons, List.length_nil, List.set_cons_zero, List.set_cons_succ, List.getElem?_cons_zero, List.getElem?_cons_succ, Int.toNat_natCast, true_and, and_true, List.append_assoc, Nat.zero_add, Nat.reduceAdd]
        exact fun _ => trivial
      have rb := u_repr (shw_fit (fit_tup (k := 1) (fitL_map (f := eOrd) (l := bestR js) (a := 6) fun o ho => by
        have ho' := ords_R (List.mem_filter.mp ho).1
        exact fit_mono (fit_ord fun k hk => by have := ho'.lt k hk; omega) (Nat.le_refl _) (by have := ho'.len; omega))) (by omega) (by
        have : (bestR js).length ≤ (ords js.length js.length).length := List.length_filter_le _ _
        omega))
      have eb : (List.filter (fun o => decide (sp1 js o = leastR js)) (ords js.length js.length)) = bestR js := rfl
      simp only [eb, ↓wE_nm, ↓wV_0, ↓wV_s, ↓wE_non, ↓wE_lbl, ↓wE_int, ↓wE_str, ↓wA_nil, ↓wA_cons, ↓wA_star, ↓wE_bin, ↓wE_neg, ↓wIn_i, ↓wE_nt, ↓wBl_b, ↓wE_and, ↓wE_or, ↓wB_one, ↓wB_and, ↓wB_or, ↓wIte_t, ↓wIte_f, ↓wE_cmp, ↓wE_cmp2, ↓wE_ife, ↓wE_call, ↓wE_bi, ↓wE_mth, ↓wE_sub, ↓wE_slc, ↓wE_comp, ↓wE_dct, ↓wE_dnewt, ↓wE_al, ↓wAl_lst, ↓wAl_dk, ↓wAl_dt, ↓wT_nm, ↓wX_0, ↓wX_s, ↓wT_tup, ↓wTs_nil, ↓wTs_cons, ↓wT_sub, ↓wI_seq, ↓wSeq_tup, ↓wSeq_lst, ↓wSeq_ref, ↓wSeq_scr, ↓wI_rng, ↓wRng_1, ↓wRng_2, ↓wI_enum, ↓wEnum_tup, ↓wEnum_lst, ↓wEnum_ref, ↓wI_zip, ↓wZip_tup, ↓wZip_lst, ↓wSs_nil, ↓wSs_cons, ↓wS_asg, ↓wS_par, ↓wP_nil, ↓wP_cons, ↓wS_expr, ↓wS_ret, ↓wS_retN, ↓wS_iff, ↓wIs_t, ↓wIs_f, ↓wS_for, ↓wS_whl, ↓wO_some, ↓wO_none, ↓wO_map, ↓wO_bind, ↓wO_chk, ↓wW_nil, ↓wW_cons, ↓b_addLR, ↓b_addRL, ↓m_append, ↓m_extend, ↓m_pop, ↓st_ref, ↓sb_ref, ↓len_ref, ↓wE_dcomp, ↓wSt_l, ↓wSt_i, ↓wSt_s, ↓wSt_t, ↓wSb_l, ↓wSb_i, ↓wSb_t, ↓wLn_l, ↓wLn_d, ↓wLn_t, ↓wO_ixn, wE_tupP, wE_lstP, plain_nil, plain_cons, wE_lstT, wE_tupT, starry_t, starry_f, decide_true, decide_false, Bool.not_false, Bool.not_true, Bool.true_and, Bool.and_true, Bool.false_and, Bool.and_false, Bool.or_false, Bool.false_or, Bool.or_true, Bool.true_or, Bool.or_self, wO_some, b_add, b_sub, b_mul, b_fdiv, b_mod, b_addT, b_addL, b_mulL, c_lt, c_le, c_gt, c_ge, c_eq, c_ne, c_eqS, c_neS, c_is_int, c_is_non, c_is_tup, c_isnt_int, c_isnt_non, c_isnt_tup, u_lenL, u_lenT, u_abs, u_int, u_intB, u_max2, u_min2, is_map, is_int, is_nil, is_cons, is_app, bs_map, u_sum, u_all, u_any, u_max1, u_min1, u_listT, u_listL, u_listR, u_tupL, u_tupT, u_tupR, u_vals, u_rng1, x_tup, x_lst, x_tupN, x_lstN, x_lstE, x_tupE, x_dkI, x_dkS, wIte_pand, wIte_por, wIte_int, u_repB, u_repN, x_t0, x_l0, wSb_l0, x_t1, x_l1, wSb_l1, x_t2, x_l2, wSb_l2, x_t3, x_l3, wSb_l3, x_t4, x_l4, wSb_l4, x_t5, x_l5, wSb_l5, s_lT0, s_lL0, s_hT0, s_hL0, s_lT1, s_lL1, s_hT1, s_hL1, s_lT2, s_lL2, s_hT2, s_hL2, s_loT, s_loL, s_hiT, s_hiL, s_lohiT, s_lohiL, s_revT, s_revL, getS_t, getS_l, getL_ref, getDk_ref, isL_l, isDk_d, ap_0, ap_k, aps_0, aps_k, mok_append, mok_extend, mok_pop, mok_popat, Option.map_some, Option.map_none, Option.bind_some, Option.isSome_some, List.cons_append, List.nil_append, List.append_nil, List.length_map, List.length_append, List.length_cons, List.length_nil, List.set_cons_zero, List.set_cons_succ, List.getElem?_cons_zero, List.getElem?_cons_succ, Int.toNat_natCast, true_and, and_true, List.append_assoc, Nat.zero_add, Nat.reduceAdd, lw4, c_best_room_orders _ js hl6 hcl3, rb]
      have nin : ∀ h, cmpD h .notin (eOrd (told js)) (.tup ((bestR js).map fun o => eOrd o)) = some (!decide (told js ∈ bestR js)) := fun h => (c_inM (f := eOrd) (fun d _ => eq_ord) dt_ord (by omega)).2.2.1
      have nic : (small js && (!decide (leastR js = W 0 0 (sel js (told js))) || !decide (told js ∈ bestR js))) = false := by
        cases hb : small js with
        | false => rfl
        | true =>
          have e1 := small_least hj hb
          have e2 : told js ∈ bestR js := List.mem_filter.mpr ⟨mem_ordsR (told_R js), by
            rw [e1, small_sp hj hb (told_R js)]
            simp⟩
          simp [e1, e2]
      refine ⟨lsz, ?_⟩
      simp only [lw3, ↓wE_nm, ↓wV_0, ↓wV_s, ↓wE_non, ↓wE_lbl, ↓wE_int, ↓wE_str, ↓wA_nil, ↓wA_cons, ↓wA_star, ↓wE_bin, ↓wE_neg, ↓wIn_i, ↓wE_nt, ↓wBl_b, ↓wE_and, ↓wE_or, ↓wB_one, ↓wB_and, ↓wB_or, ↓wIte_t, ↓wIte_f, ↓wE_cmp, ↓wE_cmp2, ↓wE_ife, ↓wE_call, ↓wE_bi, ↓wE_mth, ↓wE_sub, ↓wE_slc, ↓wE_comp, ↓wE_dct, ↓wE_dnewt, ↓wE_al, ↓wAl_lst, ↓wAl_dk, ↓wAl_dt, ↓wT_nm, ↓wX_0, ↓wX_s, ↓wT_tup, ↓wTs_nil, ↓wTs_cons, ↓wT_sub, ↓wI_seq, ↓wSeq_tup, ↓wSeq_lst, ↓wSeq_ref, ↓wSeq_scr, ↓wI_rng, ↓wRng_1, ↓wRng_2, ↓wI_enum, ↓wEnum_tup, ↓wEnum_lst, ↓wEnum_ref, ↓wI_zip, ↓wZip_tup, ↓wZip_lst, ↓wSs_nil, ↓wSs_cons, ↓wS_asg, ↓wS_par, ↓wP_nil, ↓wP_cons, ↓wS_expr, ↓wS_ret, ↓wS_retN, ↓wS_iff, ↓wIs_t, ↓wIs_f, ↓wS_for, ↓wS_whl, ↓wO_some, ↓wO_none, ↓wO_map, ↓wO_bind, ↓wO_chk, ↓wW_nil, ↓wW_cons, ↓b_addLR, ↓b_addRL, ↓m_append, ↓m_extend, ↓m_pop, ↓st_ref, ↓sb_ref, ↓len_ref, ↓wE_dcomp, ↓wSt_l, ↓wSt_i, ↓wSt_s, ↓wSt_t, ↓wSb_l, ↓wSb_i, ↓wSb_t, ↓wLn_l, ↓wLn_d, ↓wLn_t, ↓wO_ixn, wE_tupP, wE_lstP, plain_nil, plain_cons, wE_lstT, wE_tupT, starry_t, starry_f, decide_true, decide_false, Bool.not_false, Bool.not_true, Bool.true_and, Bool.and_true, Bool.false_and, Bool.and_false, Bool.or_false, Bool.false_or, Bool.or_true, Bool.true_or, Bool.or_self, wO_some, b_add, b_sub, b_mul, b_fdiv, b_mod, b_addT, b_addL, b_mulL, c_lt, c_le, c_gt, c_ge, c_eq, c_ne, c_eqS, c_neS, c_is_int, c_is_non, c_is_tup, c_isnt_int, c_isnt_non, c_isnt_tup, u_lenL, u_lenT, u_abs, u_int, u_intB, u_max2, u_min2, is_map, is_int, is_nil, is_cons, is_app, bs_map, u_sum, u_all, u_any, u_max1, u_min1, u_listT, u_listL, u_listR, u_tupL, u_tupT, u_tupR, u_vals, u_rng1, x_tup, x_lst, x_tupN, x_lstN, x_lstE, x_tupE, x_dkI, x_dkS, wIte_pand, wIte_por, wIte_int, u_repB, u_repN, x_t0, x_l0, wSb_l0, x_t1, x_l1, wSb_l1, x_t2, x_l2, wSb_l2, x_t3, x_l3, wSb_l3, x_t4, x_l4, wSb_l4, x_t5, x_l5, wSb_l5, s_lT0, s_lL0, s_hT0, s_hL0, s_lT1, s_lL1, s_hT1, s_hL1, s_lT2, s_lL2, s_hT2, s_hL2, s_loT, s_loL, s_hiT, s_hiL, s_lohiT, s_lohiL, s_revT, s_revL, getS_t, getS_l, getL_ref, getDk_ref, isL_l, isDk_d, ap_0, ap_k, aps_0, aps_k, mok_append, mok_extend, mok_pop, mok_popat, Option.map_some, Option.map_none, Option.bind_some, Option.isSome_some, List.cons_append, List.nil_append, List.append_nil, List.length_map, List.length_append, List.length_cons, List.length_nil, List.set_cons_zero, List.set_cons_succ, List.getElem?_cons_zero, List.getElem?_cons_succ, Int.toNat_natCast, true_and, and_true, List.append_assoc, Nat.zero_add, Nat.reduceAdd, wb _ hcl3, tl _ hcl3, nin, nic, lw2, zipL_map]
      refine wIte_split (fun hsm => ?_) fun hsm => ?_
      · refine wComp_pureIf (fun o : List Nat => !decide (sp1 js o = W 0 0 (sel js o))) (fun _ => .int 1) ?_ ?_
        · intro o ho
          have ho' := ords_R ho
          simp only [↓wE_nm, ↓wV_0, ↓wV_s, ↓wE_non, ↓wE_lbl, ↓wE_int, ↓wE_str, ↓wA_nil, ↓wA_cons, ↓wA_star, ↓wE_bin, ↓wE_neg, ↓wIn_i, ↓wE_nt, ↓wBl_b, ↓wE_and, ↓wE_or, ↓wB_one, ↓wB_and, ↓wB_or, ↓wIte_t, ↓wIte_f, ↓wE_cmp, ↓wE_cmp2, ↓wE_ife, ↓wE_call, ↓wE_bi, ↓wE_mth, ↓wE_sub, ↓wE_slc, ↓wE_comp, ↓wE_dct, ↓wE_dnewt, ↓wE_al, ↓wAl_lst, ↓wAl_dk, ↓wAl_dt, ↓wT_nm, ↓wX_0, ↓wX_s, ↓wT_tup, ↓wTs_nil, ↓wTs_cons, ↓wT_sub, ↓wI_seq, ↓wSeq_tup, ↓wSeq_lst, ↓wSeq_ref, ↓wSeq_scr, ↓wI_rng, ↓wRng_1, ↓wRng_2, ↓wI_enum, ↓wEnum_tup, ↓wEnum_lst, ↓wEnum_ref, ↓wI_zip, ↓wZip_tup, ↓wZip_lst, ↓wSs_nil, ↓wSs_cons, ↓wS_asg, ↓wS_par, ↓wP_nil, ↓wP_cons, ↓wS_expr, ↓wS_ret, ↓wS_retN, ↓wS_iff, ↓wIs_t, ↓wIs_f, ↓wS_for, ↓wS_whl, ↓wO_some, ↓wO_none, ↓wO_map, ↓wO_bind, ↓wO_chk, ↓wW_nil, ↓wW_cons, ↓b_addLR, ↓b_addRL, ↓m_append, ↓m_extend, ↓m_pop, ↓st_ref, ↓sb_ref, ↓len_ref, ↓wE_dcomp, ↓wSt_l, ↓wSt_i, ↓wSt_s, ↓wSt_t, ↓wSb_l, ↓wSb_i, ↓wSb_t, ↓wLn_l, ↓wLn_d, ↓wLn_t, ↓wO_ixn, wE_tupP, wE_lstP, plain_nil, plain_cons, wE_lstT, wE_tupT, starry_t, starry_f, decide_true, decide_false, Bool.not_false, Bool.not_true, Bool.true_and, Bool.and_true, Bool.false_and, Bool.and_false, Bool.or_false, Bool.false_or, Bool.or_true, Bool.true_or, Bool.or_self, wO_some, b_add, b_sub, b_mul, b_fdiv, b_mod, b_addT, b_addL, b_mulL, c_lt, c_le, c_gt, c_ge, c_eq, c_ne, c_eqS, c_neS, c_is_int, c_is_non, c_is_tup, c_isnt_int, c_isnt_non, c_isnt_tup, u_lenL, u_lenT, u_abs, u_int, u_intB, u_max2, u_min2, is_map, is_int, is_nil, is_cons, is_app, bs_map, u_sum, u_all, u_any, u_max1, u_min1, u_listT, u_listL, u_listR, u_tupL, u_tupT, u_tupR, u_vals, u_rng1, x_tup, x_lst, x_tupN, x_lstN, x_lstE, x_tupE, x_dkI, x_dkS, wIte_pand, wIte_por, wIte_int, u_repB, u_repN, x_t0, x_l0, wSb_l0, x_t1, x_l1, wSb_l1, x_t2, x_l2, wSb_l2, x_t3, x_l3, wSb_l3, x_t4, x_l4, wSb_l4, x_t5, x_l5, wSb_l5, s_lT0, s_lL0, s_hT0, s_hL0, s_lT1, s_lL1, s_hT1, s_hL1, s_lT2, s_lL2, s_hT2, s_hL2, s_loT, s_loL, s_hiT, s_hiL, s_lohiT, s_lohiL, s_revT, s_revL, getS_t, getS_l, getL_ref, getDk_ref, isL_l, isDk_d, ap_0, ap_k, aps_0, aps_k, mok_append, mok_extend, mok_pop, mok_popat, Option.map_some, Option.map_none, Option.bind_some, Option.isSome_some, List.cons_append, List.nil_append, List.append_nil, List.length_map, List.length_append, List.length_cons, List.length_nil, List.set_cons_zero, List.set_cons_succ, List.getElem?_cons_zero, List.getElem?_cons_succ, Int.toNat_natCast, true_and, and_true, List.append_assoc, Nat.zero_add, Nat.reduceAdd, c_law_wide _ js o ho'.lt hcl3]
          exact fun _ => trivial
        have e0 : (List.filter (fun o => !decide (sp1 js o = W 0 0 (sel js o))) (ords js.length js.length)) = [] := by
          rw [List.filter_eq_nil_iff]
          intro o ho
          simp [small_sp hj hsm (ords_R ho)]
        have en : ∀ h, cmpD h .ne (.lst []) (.lst []) = some false := fun h => c_neT (eq_lst (k := 0) eqL_nil) (by omega)
        simp only [e0, List.map_nil, en, ↓wE_nm, ↓wV_0, ↓wV_s, ↓wE_non, ↓wE_lbl, ↓wE_int, ↓wE_str, ↓wA_nil, ↓wA_cons, ↓wA_star, ↓wE_bin, ↓wE_neg, ↓wIn_i, ↓wE_nt, ↓wBl_b, ↓wE_and, ↓wE_or, ↓wB_one, ↓wB_and, ↓wB_or, ↓wIte_t, ↓wIte_f, ↓wE_cmp, ↓wE_cmp2, ↓wE_ife, ↓wE_call, ↓wE_bi, ↓wE_mth, ↓wE_sub, ↓wE_slc, ↓wE_comp, ↓wE_dct, ↓wE_dnewt, ↓wE_al, ↓wAl_lst, ↓wAl_dk, ↓wAl_dt, ↓wT_nm, ↓wX_0, ↓wX_s, ↓wT_tup, ↓wTs_nil, ↓wTs_cons, ↓wT_sub, ↓wI_seq, ↓wSeq_tup, ↓wSeq_lst, ↓wSeq_ref, ↓wSeq_scr, ↓wI_rng, ↓wRng_1, ↓wRng_2, ↓wI_enum, ↓wEnum_tup, ↓wEnum_lst, ↓wEnum_ref, ↓wI_zip, ↓wZip_tup, ↓wZip_lst, ↓wSs_nil, ↓wSs_cons, ↓wS_asg, ↓wS_par, ↓wP_nil, ↓wP_cons, ↓wS_expr, ↓wS_ret, ↓wS_retN, ↓wS_iff, ↓wIs_t, ↓wIs_f, ↓wS_for, ↓wS_whl, ↓wO_some, ↓wO_none, ↓wO_map, ↓wO_bind, ↓wO_chk, ↓wW_nil, ↓wW_cons, ↓b_addLR, ↓b_addRL, ↓m_append, ↓m_extend, ↓m_pop, ↓st_ref, ↓sb_ref, ↓len_ref, ↓wE_dcomp, ↓wSt_l, ↓wSt_i, ↓wSt_s, ↓wSt_t, ↓wSb_l, ↓wSb_i, ↓wSb_t, ↓wLn_l, ↓wLn_d, ↓wLn_t, ↓wO_ixn, wE_tupP, wE_lstP, plain_nil, plain_cons, wE_lstT, wE_tupT, starry_t, starry_f, decide_true, decide_false, Bool.not_false, Bool.not_true, Bool.true_and, Bool.and_true, Bool.false_and, Bool.and_false, Bool.or_false, Bool.false_or, Bool.or_true, Bool.true_or, Bool.or_self, wO_some, b_add, b_sub, b_mul, b_fdiv, b_mod, b_addT, b_addL, b_mulL, c_lt, c_le, c_gt, c_ge, c_eq, c_ne, c_eqS, c_neS, c_is_int, c_is_non, c_is_tup, c_isnt_int, c_isnt_non, c_isnt_tup, u_lenL, u_lenT, u_abs, u_int, u_intB, u_max2, u_min2, is_map, is_int, is_nil, is_cons, is_app, bs_map, u_sum, u_all, u_any, u_max1, u_min1, u_listT, u_listL, u_listR, u_tupL, u_tupT, u_tupR, u_vals, u_rng1, x_tup, x_lst, x_tupN, x_lstN, x_lstE, x_tupE, x_dkI, x_dkS, wIte_pand, wIte_por, wIte_int, u_repB, u_repN, x_t0, x_l0, wSb_l0, x_t1, x_l1, wSb_l1, x_t2, x_l2, wSb_l2, x_t3, x_l3, wSb_l3, x_t4, x_l4, wSb_l4, x_t5, x_l5, wSb_l5, s_lT0, s_lL0, s_hT0, s_hL0, s_lT1, s_lL1, s_hT1, s_hL1, s_lT2, s_lL2, s_hT2, s_hL2, s_loT, s_loL, s_hiT, s_hiL, s_lohiT, s_lohiL, s_revT, s_revL, getS_t, getS_l, getL_ref, getDk_ref, isL_l, isDk_d, ap_0, ap_k, aps_0, aps_k, mok_append, mok_extend, mok_pop, mok_popat, Option.map_some, Option.map_none, Option.bind_some, Option.isSome_some, List.cons_append, List.nil_append, List.append_nil, List.length_map, List.length_append, List.length_cons, List.length_nil, List.set_cons_zero, List.set_cons_succ, List.getElem?_cons_zero, List.getElem?_cons_succ, Int.toNat_natCast, true_and, and_true, List.append_assoc, Nat.zero_add, Nat.reduceAdd]
        exact ⟨lsz, _, _, _, _, _, _, rfl⟩
      · simp only [↓wE_nm, ↓wV_0, ↓wV_s, ↓wE_non, ↓wE_lbl, ↓wE_int, ↓wE_str, ↓wA_nil, ↓wA_cons, ↓wA_star, ↓wE_bin, ↓wE_neg, ↓wIn_i, ↓wE_nt, ↓wBl_b, ↓wE_and, ↓wE_or, ↓wB_one, ↓wB_and, ↓wB_or, ↓wIte_t, ↓wIte_f, ↓wE_cmp, ↓wE_cmp2, ↓wE_ife, ↓wE_call, ↓wE_bi, ↓wE_mth, ↓wE_sub, ↓wE_slc, ↓wE_comp, ↓wE_dct, ↓wE_dnewt, ↓wE_al, ↓wAl_lst, ↓wAl_dk, ↓wAl_dt, ↓wT_nm, ↓wX_0, ↓wX_s, ↓wT_tup, ↓wTs_nil, ↓wTs_cons, ↓wT_sub, ↓wI_seq, ↓wSeq_tup, ↓wSeq_lst, ↓wSeq_ref, ↓wSeq_scr, ↓wI_rng, ↓wRng_1, ↓wRng_2, ↓wI_enum, ↓wEnum_tup, ↓wEnum_lst, ↓wEnum_ref, ↓wI_zip, ↓wZip_tup, ↓wZip_lst, ↓wSs_nil, ↓wSs_cons, ↓wS_asg, ↓wS_par, ↓wP_nil, ↓wP_cons, ↓wS_expr, ↓wS_ret, ↓wS_retN, ↓wS_iff, ↓wIs_t, ↓wIs_f, ↓wS_for, ↓wS_whl, ↓wO_some, ↓wO_none, ↓wO_map, ↓wO_bind, ↓wO_chk, ↓wW_nil, ↓wW_cons, ↓b_addLR, ↓b_addRL, ↓m_append, ↓m_extend, ↓m_pop, ↓st_ref, ↓sb_ref, ↓len_ref, ↓wE_dcomp, ↓wSt_l, ↓wSt_i, ↓wSt_s, ↓wSt_t, ↓wSb_l, ↓wSb_i, ↓wSb_t, ↓wLn_l, ↓wLn_d, ↓wLn_t, ↓wO_ixn, wE_tupP, wE_lstP, plain_nil, plain_cons, wE_lstT, wE_tupT, starry_t, starry_f, decide_true, decide_false, Bool.not_false, Bool.not_true, Bool.true_and, Bool.and_true, Bool.false_and, Bool.and_false, Bool.or_false, Bool.false_or, Bool.or_true, Bool.true_or, Bool.or_self, wO_some, b_add, b_sub, b_mul, b_fdiv, b_mod, b_addT, b_addL, b_mulL, c_lt, c_le, c_gt, c_ge, c_eq, c_ne, c_eqS, c_neS, c_is_int, c_is_non, c_is_tup, c_isnt_int, c_isnt_non, c_isnt_tup, u_lenL, u_lenT, u_abs, u_int, u_intB, u_max2, u_min2, is_map, is_int, is_nil, is_cons, is_app, bs_map, u_sum, u_all, u_any, u_max1, u_min1, u_listT, u_listL, u_listR, u_tupL, u_tupT, u_tupR, u_vals, u_rng1, x_tup, x_lst, x_tupN, x_lstN, x_lstE, x_tupE, x_dkI, x_dkS, wIte_pand, wIte_por, wIte_int, u_repB, u_repN, x_t0, x_l0, wSb_l0, x_t1, x_l1, wSb_l1, x_t2, x_l2, wSb_l2, x_t3, x_l3, wSb_l3, x_t4, x_l4, wSb_l4, x_t5, x_l5, wSb_l5, s_lT0, s_lL0, s_hT0, s_hL0, s_lT1, s_lL1, s_hT1, s_hL1, s_lT2, s_lL2, s_hT2, s_hL2, s_loT, s_loL, s_hiT, s_hiL, s_lohiT, s_lohiL, s_revT, s_revL, getS_t, getS_l, getL_ref, getDk_ref, isL_l, isDk_d, ap_0, ap_k, aps_0, aps_k, mok_append, mok_extend, mok_pop, mok_popat, Option.map_some, Option.map_none, Option.bind_some, Option.isSome_some, List.cons_append, List.nil_append, List.append_nil, List.length_map, List.length_append, List.length_cons, List.length_nil, List.set_cons_zero, List.set_cons_succ, List.getElem?_cons_zero, List.getElem?_cons_succ, Int.toNat_natCast, true_and, and_true, List.append_assoc, Nat.zero_add, Nat.reduceAdd]
        exact ⟨_, _, _, _, _, _, rfl⟩
    · simp only [decide_eq_false h7, ↓wE_nm, ↓wV_0, ↓wV_s, ↓wE_non, ↓wE_lbl, ↓wE_int, ↓wE_str, ↓wA_nil, ↓wA_cons, ↓wA_star, ↓wE_bin, ↓wE_neg, ↓wIn_i, ↓wE_nt, ↓wBl_b, ↓wE_and, ↓wE_or, ↓wB_one, ↓wB_and, ↓wB_or, ↓wIte_t, ↓wIte_f, ↓wE_cmp, ↓wE_cmp2, ↓wE_ife, ↓wE_call, ↓wE_bi, ↓wE_mth, ↓wE_sub, ↓wE_slc, ↓wE_comp, ↓wE_dct, ↓wE_dnewt, ↓wE_al, ↓wAl_lst, ↓wAl_dk, ↓wAl_dt, ↓wT_nm, ↓wX_0, ↓wX_s, ↓wT_tup, ↓wTs_nil, ↓wTs_cons, ↓wT_sub, ↓wI_seq, ↓wSeq_tup, ↓wSeq_lst, ↓wSeq_ref, ↓wSeq_scr, ↓wI_rng, ↓wRng_1, ↓wRng_2, ↓wI_enum, ↓wEnum_tup, ↓wEnum_lst, ↓wEnum_ref, ↓wI_zip, ↓wZip_tup, ↓wZip_lst, ↓wSs_nil, ↓wSs_cons, ↓wS_asg, ↓wS_par, ↓wP_nil, ↓wP_cons, ↓wS_expr, ↓wS_ret, ↓wS_retN, ↓wS_iff, ↓wIs_t, ↓wIs_f, ↓wS_for, ↓wS_whl, ↓wO_some, ↓wO_none, ↓wO_map, ↓wO_bind, ↓wO_chk, ↓wW_nil, ↓wW_cons, ↓b_addLR, ↓b_addRL, ↓m_append, ↓m_extend, ↓m_pop, ↓st_ref, ↓sb_ref, ↓len_ref, ↓wE_dcomp, ↓wSt_l, ↓wSt_i, ↓wSt_s, ↓wSt_t, ↓wSb_l, ↓wSb_i, ↓wSb_t, ↓wLn_l, ↓wLn_d, ↓wLn_t, ↓wO_ixn, wE_tupP, wE_lstP, plain_nil, plain_cons, wE_lstT, wE_tupT, starry_t, starry_f, decide_true, decide_false, Bool.not_false, Bool.not_true, Bool.true_and, Bool.and_true, Bool.false_and, Bool.and_false, Bool.or_false, Bool.false_or, Bool.or_true, Bool.true_or, Bool.or_self, wO_some, b_add, b_sub, b_mul, b_fdiv, b_mod, b_addT, b_addL, b_mulL, c_lt, c_le, c_gt, c_ge, c_eq, c_ne, c_eqS, c_neS, c_is_int, c_is_non, c_is_tup, c_isnt_int, c_isnt_non, c_isnt_tup, u_lenL, u_lenT, u_abs, u_int, u_intB, u_max2, u_min2, is_map, is_int, is_nil, is_cons, is_app, bs_map, u_sum, u_all, u_any, u_max1, u_min1, u_listT, u_listL, u_listR, u_tupL, u_tupT, u_tupR, u_vals, u_rng1, x_tup, x_lst, x_tupN, x_lstN, x_lstE, x_tupE, x_dkI, x_dkS, wIte_pand, wIte_por, wIte_int, u_repB, u_repN, x_t0, x_l0, wSb_l0, x_t1, x_l1, wSb_l1, x_t2, x_l2, wSb_l2, x_t3, x_l3, wSb_l3, x_t4, x_l4, wSb_l4, x_t5, x_l5, wSb_l5, s_lT0, s_lL0, s_hT0, s_hL0, s_lT1, s_lL1, s_hT1, s_hL1, s_lT2, s_lL2, s_hT2, s_hL2, s_loT, s_loL, s_hiT, s_hiL, s_lohiT, s_lohiL, s_revT, s_revL, getS_t, getS_l, getL_ref, getDk_ref, isL_l, isDk_d, ap_0, ap_k, aps_0, aps_k, mok_append, mok_extend, mok_pop, mok_popat, Option.map_some, Option.map_none, Option.bind_some, Option.isSome_some, List.cons_append, List.nil_append, List.append_nil, List.length_map, List.length_append, List.length_cons, List.length_nil, List.set_cons_zero, List.set_cons_succ, List.getElem?_cons_zero, List.getElem?_cons_succ, Int.toNat_natCast, true_and, and_true, List.append_assoc, Nat.zero_add, Nat.reduceAdd]
      exact ⟨_, _, _, _, _, _, rfl⟩
  · rintro e h ⟨p8, p9, p10, p11, p12, p13, rfl, rfl⟩
    have sm2 : (small js && !decide (sp1 js (told js) = W 0 0 (sel js (told js)))) = false := by
      cases hb : small js with
      | false => rfl
      | true => simp [small_sp hj hb (told_R js)]
    simp only [lw1, ↓wE_nm, ↓wV_0, ↓wV_s, ↓wE_non, ↓wE_lbl, ↓wE_int, ↓wE_str, ↓wA_nil, ↓wA_cons, ↓wA_star, ↓wE_bin, ↓wE_neg, ↓wIn_i, ↓wE_nt, ↓wBl_b, ↓wE_and, ↓wE_or, ↓wB_one, ↓wB_and, ↓wB_or, ↓wIte_t, ↓wIte_f, ↓wE_cmp, ↓wE_cmp2, ↓wE_ife, ↓wE_call, ↓wE_bi, ↓wE_mth, ↓wE_sub, ↓wE_slc, ↓wE_comp, ↓wE_dct, ↓wE_dnewt, ↓wE_al, ↓wAl_lst, ↓wAl_dk, ↓wAl_dt, ↓wT_nm, ↓wX_0, ↓wX_s, ↓wT_tup, ↓wTs_nil, ↓wTs_cons, ↓wT_sub, ↓wI_seq, ↓wSeq_tup, ↓wSeq_lst, ↓wSeq_ref, ↓wSeq_scr, ↓wI_rng, ↓wRng_1, ↓wRng_2, ↓wI_enum, ↓wEnum_tup, ↓wEnum_lst, ↓wEnum_ref, ↓wI_zip, ↓wZip_tup, ↓wZip_lst, ↓wSs_nil, ↓wSs_cons, ↓wS_asg, ↓wS_par, ↓wP_nil, ↓wP_cons, ↓wS_expr, ↓wS_ret, ↓wS_retN, ↓wS_iff, ↓wIs_t, ↓wIs_f, ↓wS_for, ↓wS_whl, ↓wO_some, ↓wO_none, ↓wO_map, ↓wO_bind, ↓wO_chk, ↓wW_nil, ↓wW_cons, ↓b_addLR, ↓b_addRL, ↓m_append, ↓m_extend, ↓m_pop, ↓st_ref, ↓sb_ref, ↓len_ref, ↓wE_dcomp, ↓wSt_l, ↓wSt_i, ↓wSt_s, ↓wSt_t, ↓wSb_l, ↓wSb_i, ↓wSb_t, ↓wLn_l, ↓wLn_d, ↓wLn_t, ↓wO_ixn, wE_tupP, wE_lstP, plain_nil, plain_cons, wE_lstT, wE_tupT, starry_t, starry_f, decide_true, decide_false, Bool.not_false, Bool.not_true, Bool.true_and, Bool.and_true, Bool.false_and, Bool.and_false, Bool.or_false, Bool.false_or, Bool.or_true, Bool.true_or, Bool.or_self, wO_some, b_add, b_sub, b_mul, b_fdiv, b_mod, b_addT, b_addL, b_mulL, c_lt, c_le, c_gt, c_ge, c_eq, c_ne, c_eqS, c_neS, c_is_int, c_is_non, c_is_tup, c_isnt_int, c_isnt_non, c_isnt_tup, u_lenL, u_lenT, u_abs, u_int, u_intB, u_max2, u_min2, is_map, is_int, is_nil, is_cons, is_app, bs_map, u_sum, u_all, u_any, u_max1, u_min1, u_listT, u_listL, u_listR, u_tupL, u_tupT, u_tupR, u_vals, u_rng1, x_tup, x_lst, x_tupN, x_lstN, x_lstE, x_tupE, x_dkI, x_dkS, wIte_pand, wIte_por, wIte_int, u_repB, u_repN, x_t0, x_l0, wSb_l0, x_t1, x_l1, wSb_l1, x_t2, x_l2, wSb_l2, x_t3, x_l3, wSb_l3, x_t4, x_l4, wSb_l4, x_t5, x_l5, wSb_l5, s_lT0, s_lL0, s_hT0, s_hL0, s_lT1, s_lL1, s_hT1, s_hL1, s_lT2, s_lL2, s_hT2, s_hL2, s_loT, s_loL, s_hiT, s_hiL, s_lohiT, s_lohiL, s_revT, s_revL, getS_t, getS_l, getL_ref, getDk_ref, isL_l, isDk_d, ap_0, ap_k, aps_0, aps_k, mok_append, mok_extend, mok_pop, mok_popat, Option.map_some, Option.map_none, Option.bind_some, Option.isSome_some, List.cons_append, List.nil_append, List.append_nil, List.length_map, List.length_append, List.length_cons, List.length_nil, List.set_cons_zero, List.set_cons_succ, List.getElem?_cons_zero, List.getElem?_cons_succ, Int.toNat_natCast, true_and, and_true, List.append_assoc, Nat.zero_add, Nat.reduceAdd, tl _ hcl3, sp _ _ (told_R js) hcl3, wb _ hcl3, rj, sm2]
    exact post s3 _ _ _ _ _ _ _ _ _ _ _ hc3
end K88
namespace K88
open PySem PySem.Spec PyProof.Rows L2 Z QR
theorem ans : ∀ ls : List Int, ls.length ≤ 63 → ∃ hs, calls fns LL 24 23 [.scr ls] [] = some (.bl true, hs) := by
  intro ls hl
  rw [calls_at (F := F_law) rfl]
  refine law_ans rfl rfl ?_
  obtain ⟨s, q0, hc⟩ := c_law_source ls (by omega)
  simp only [F_law, b_law, List.map_cons, List.map_nil, List.replicate, Nat.reduceSub, lw18, ↓wE_nm, ↓wV_0, ↓wV_s, ↓wE_non, ↓wE_lbl, ↓wE_int, ↓wE_str, ↓wA_nil, ↓wA_cons, ↓wA_star, ↓wE_bin, ↓wE_neg, ↓wIn_i, ↓wE_nt, ↓wBl_b, ↓wE_and, ↓wE_or, ↓wB_one, ↓wB_and, ↓wB_or, ↓wIte_t, ↓wIte_f, ↓wE_cmp, ↓wE_cmp2, ↓wE_ife, ↓wE_call, ↓wE_bi, ↓wE_mth, ↓wE_sub, ↓wE_slc, ↓wE_comp, ↓wE_dct, ↓wE_dnewt, ↓wE_al, ↓wAl_lst, ↓wAl_dk, ↓wAl_dt, ↓wT_nm, ↓wX_0, ↓wX_s, ↓wT_tup, ↓wTs_nil, ↓wTs_cons, ↓wT_sub, ↓wI_seq, ↓wSeq_tup, ↓wSeq_lst, ↓wSeq_ref, ↓wSeq_scr, ↓wI_rng, ↓wRng_1, ↓wRng_2, ↓wI_enum, ↓wEnum_tup, ↓wEnum_lst, ↓wEnum_ref, ↓wI_zip, ↓wZip_tup, ↓wZip_lst, ↓wSs_nil, ↓wSs_cons, ↓wS_asg, ↓wS_par, ↓wP_nil, ↓wP_cons, ↓wS_expr, ↓wS_ret, ↓wS_retN, ↓wS_iff, ↓wIs_t, ↓wIs_f, ↓wS_for, ↓wS_whl, ↓wO_some, ↓wO_none, ↓wO_map, ↓wO_bind, ↓wO_chk, ↓wW_nil, ↓wW_cons, ↓b_addLR, ↓b_addRL, ↓m_append, ↓m_extend, ↓m_pop, ↓st_ref, ↓sb_ref, ↓len_ref, ↓wE_dcomp, ↓wSt_l, ↓wSt_i, ↓wSt_s, ↓wSt_t, ↓wSb_l, ↓wSb_i, ↓wSb_t, ↓wLn_l, ↓wLn_d, ↓wLn_t, ↓wO_ixn, wE_tupP, wE_lstP, plain_nil, plain_cons, wE_lstT, wE_tupT, starry_t, starry_f, decide_true, decide_false, Bool.not_false, Bool.not_true, Bool.true_and, Bool.and_true, Bool.false_and, Bool.and_false, Bool.or_false, Bool.false_or, Bool.or_true, Bool.true_or, Bool.or_self, wO_some, b_add, b_sub, b_mul, b_fdiv, b_mod, b_addT, b_addL, b_mulL, c_lt, c_le, c_gt, c_ge, c_eq, c_ne, c_eqS, c_neS, c_is_int, c_is_non, c_is_tup, c_isnt_int, c_isnt_non, c_isnt_tup, u_lenL, u_lenT, u_abs, u_int, u_intB, u_max2, u_min2, is_map, is_int, is_nil, is_cons, is_app, bs_map, u_sum, u_all, u_any, u_max1, u_min1, u_listT, u_listL, u_listR, u_tupL, u_tupT, u_tupR, u_vals, u_rng1, x_tup, x_lst, x_tupN, x_lstN, x_lstE, x_tupE, x_dkI, x_dkS, wIte_pand, wIte_por, wIte_int, u_repB, u_repN, x_t0, x_l0, wSb_l0, x_t1, x_l1, wSb_l1, x_t2, x_l2, wSb_l2, x_t3, x_l3, wSb_l3, x_t4, x_l4, wSb_l4, x_t5, x_l5, wSb_l5, s_lT0, s_lL0, s_hT0, s_hL0, s_lT1, s_lL1, s_hT1, s_hL1, s_lT2, s_lL2, s_hT2, s_hL2, s_loT, s_loL, s_hiT, s_hiL, s_lohiT, s_lohiL, s_revT, s_revL, getS_t, getS_l, getL_ref, getDk_ref, isL_l, isDk_d, ap_0, ap_k, aps_0, aps_k, mok_append, mok_extend, mok_pop, mok_popat, Option.map_some, Option.map_none, Option.bind_some, Option.isSome_some, List.cons_append, List.nil_append, List.append_nil, List.length_map, List.length_append, List.length_cons, List.length_nil, List.set_cons_zero, List.set_cons_succ, List.getElem?_cons_zero, List.getElem?_cons_succ, Int.toNat_natCast, true_and, and_true, List.append_assoc, Nat.zero_add, Nat.reduceAdd, q0, lw17]
  rw [show rngL 0 (Int.toNat 4) = (List.range 4).map eN from rng0 4]
  refine ⟨by omega, wFor_inv (fun _ e h => ∃ (s : Sc) (p2 : Option D) (p3 p4 p5 p6 p7 p8 p9 p10 p11 p12 p13 : Option D), e = [some (.scr ls), some (.ref 1), p2, p3, p4, p5, p6, p7, p8, p9, p10, p11, p12, p13] ∧ h = s.hs [] ∧ s.cells.length ≤ 64) ⟨s, _, _, _, _, _, _, _, _, _, _, _, _, rfl, rfl, hc⟩ ?_ ?_⟩
  · rintro done x rest e h hx ⟨s, p2, p3, p4, p5, p6, p7, p8, p9, p10, p11, p12, p13, rfl, rfl, hc⟩
    have hx4 : x < 4 := List.mem_range.mp (by rw [hx]; simp)
    simp only [↓wE_nm, ↓wV_0, ↓wV_s, ↓wE_non, ↓wE_lbl, ↓wE_int, ↓wE_str, ↓wA_nil, ↓wA_cons, ↓wA_star, ↓wE_bin, ↓wE_neg, ↓wIn_i, ↓wE_nt, ↓wBl_b, ↓wE_and, ↓wE_or, ↓wB_one, ↓wB_and, ↓wB_or, ↓wIte_t, ↓wIte_f, ↓wE_cmp, ↓wE_cmp2, ↓wE_ife, ↓wE_call, ↓wE_bi, ↓wE_mth, ↓wE_sub, ↓wE_slc, ↓wE_comp, ↓wE_dct, ↓wE_dnewt, ↓wE_al, ↓wAl_lst, ↓wAl_dk, ↓wAl_dt, ↓wT_nm, ↓wX_0, ↓wX_s, ↓wT_tup, ↓wTs_nil, ↓wTs_cons, ↓wT_sub, ↓wI_seq, ↓wSeq_tup, ↓wSeq_lst, ↓wSeq_ref, ↓wSeq_scr, ↓wI_rng, ↓wRng_1, ↓wRng_2, ↓wI_enum, ↓wEnum_tup, ↓wEnum_lst, ↓wEnum_ref, ↓wI_zip, ↓wZip_tup, ↓wZip_lst, ↓wSs_nil, ↓wSs_cons, ↓wS_asg, ↓wS_par, ↓wP_nil, ↓wP_cons, ↓wS_expr, ↓wS_ret, ↓wS_retN, ↓wS_iff, ↓wIs_t, ↓wIs_f, ↓wS_for, ↓wS_whl, ↓wO_some, ↓wO_none, ↓wO_map, ↓wO_bind, ↓wO_chk, ↓wW_nil, ↓wW_cons, ↓b_addLR, ↓b_addRL, ↓m_append, ↓m_extend, ↓m_pop, ↓st_ref, ↓sb_ref, ↓len_ref, ↓wE_dcomp, ↓wSt_l, ↓wSt_i, ↓wSt_s, ↓wSt_t, ↓wSb_l, ↓wSb_i, ↓wSb_t, ↓wLn_l, ↓wLn_d, ↓wLn_t, ↓wO_ixn, wE_tupP, wE_lstP, plain_nil, plain_cons, wE_lstT, wE_tupT, starry_t, starry_f, decide_true, decide_false, Bool.not_false, Bool.not_true, Bool.true_and, Bool.and_true, Bool.false_and, Bool.and_false, Bool.or_false, Bool.false_or, Bool.or_true, Bool.true_or, Bool.or_self, wO_some, b_add, b_sub, b_mul, b_fdiv, b_mod, b_addT, b_addL, b_mulL, c_lt, c_le, c_gt, c_ge, c_eq, c_ne, c_eqS, c_neS, c_is_int, c_is_non, c_is_tup, c_isnt_int, c_isnt_non, c_isnt_tup, u_lenL, u_lenT, u_abs, u_int, u_intB, u_max2, u_min2, is_map, is_int, is_nil, is_cons, is_app, bs_map, u_sum, u_all, u_any, u_max1, u_min1, u_listT, u_listL, u_listR, u_tupL, u_tupT, u_tupR, u_vals, u_rng1, x_tup, x_lst, x_tupN, x_lstN, x_lstE, x_tupE, x_dkI, x_dkS, wIte_pand, wIte_por, wIte_int, u_repB, u_repN, x_t0, x_l0, wSb_l0, x_t1, x_l1, wSb_l1, x_t2, x_l2, wSb_l2, x_t3, x_l3, wSb_l3, x_t4, x_l4, wSb_l4, x_t5, x_l5, wSb_l5, s_lT0, s_lL0, s_hT0, s_hL0, s_lT1, s_lL1, s_hT1, s_hL1, s_lT2, s_lL2, s_hT2, s_hL2, s_loT, s_loL, s_hiT, s_hiL, s_lohiT, s_lohiL, s_revT, s_revL, getS_t, getS_l, getL_ref, getDk_ref, isL_l, isDk_d, ap_0, ap_k, aps_0, aps_k, mok_append, mok_extend, mok_pop, mok_popat, Option.map_some, Option.map_none, Option.bind_some, Option.isSome_some, List.cons_append, List.nil_append, List.append_nil, List.length_map, List.length_append, List.length_cons, List.length_nil, List.set_cons_zero, List.set_cons_succ, List.getElem?_cons_zero, List.getElem?_cons_succ, Int.toNat_natCast, true_and, and_true, List.append_assoc, Nat.zero_add, Nat.reduceAdd]
    exact lap_ok s hc x hx4 _ _ _ _ _ _ _ _ _ _ _ _ fun s' p3 p4 p5 p6 p7 p8 p9 p10 p11 p12 p13 hc' => ⟨s', _, _, _, _, _, _, _, _, _, _, _, _, rfl, rfl, hc'⟩
  · rintro e h ⟨s, p2, p3, p4, p5, p6, p7, p8, p9, p10, p11, p12, p13, rfl, rfl, hc⟩
    have hcl : Cl (s.hs []) := cl_hs clr0
    have e1 : D.tup [D.tup [.int 1, .int 5, .int 1]] = eJobs [(1, 5, 1)] := rfl
    have e2 : D.tup [D.tup [.int 1, .int 5, .int 1], D.tup [.int 1, .int 5, .int 1]] = eJobs [(1, 5, 1), (1, 5, 1)] := rfl
    have hj : ∀ j ∈ [((1, 5, 1) : Job), (1, 5, 1)], JobOk j := by
      intro j hj
      simp only [List.mem_cons, List.not_mem_nil, or_false, or_self] at hj
      subst hj
      exact ⟨⟨by decide, by decide⟩, ⟨by decide, by decide⟩, ⟨by decide, by decide⟩⟩
    have s0 : small [(1, 5, 1)] = false := by decide
    have w0 : W 0 0 (sel [(1, 5, 1), (1, 5, 1)] (told [(1, 5, 1), (1, 5, 1)])) = 8 := by
      have ht := told_R [(1, 5, 1), (1, 5, 1)]
      have h2 := ht.len
      have h3 := ht.lt
      generalize told [(1, 5, 1), (1, 5, 1)] = o at ht h2 h3
      match o, h2, h3 with
      | [a, b], _, h3 =>
        have ja : ∀ k, k < 2 → jAt [(1, 5, 1), (1, 5, 1)] k = (1, 5, 1) := fun k hk => by
          match k, hk with
          | 0, _ => rfl
          | 1, _ => rfl
        have a1 := ja a (h3 a List.mem_cons_self)
        have b1 := ja b (h3 b (List.mem_cons_of_mem _ List.mem_cons_self))
        simp only [sel, List.map_cons, List.map_nil, a1, b1]
        decide
    simp only [lw0, ↓wE_nm, ↓wV_0, ↓wV_s, ↓wE_non, ↓wE_lbl, ↓wE_int, ↓wE_str, ↓wA_nil, ↓wA_cons, ↓wA_star, ↓wE_bin, ↓wE_neg, ↓wIn_i, ↓wE_nt, ↓wBl_b, ↓wE_and, ↓wE_or, ↓wB_one, ↓wB_and, ↓wB_or, ↓wIte_t, ↓wIte_f, ↓wE_cmp, ↓wE_cmp2, ↓wE_ife, ↓wE_call, ↓wE_bi, ↓wE_mth, ↓wE_sub, ↓wE_slc, ↓wE_comp, ↓wE_dct, ↓wE_dnewt, ↓wE_al, ↓wAl_lst, ↓wAl_dk, ↓wAl_dt, ↓wT_nm, ↓wX_0, ↓wX_s, ↓wT_tup, ↓wTs_nil, ↓wTs_cons, ↓wT_sub, ↓wI_seq, ↓wSeq_tup, ↓wSeq_lst, ↓wSeq_ref, ↓wSeq_scr, ↓wI_rng, ↓wRng_1, ↓wRng_2, ↓wI_enum, ↓wEnum_tup, ↓wEnum_lst, ↓wEnum_ref, ↓wI_zip, ↓wZip_tup, ↓wZip_lst, ↓wSs_nil, ↓wSs_cons, ↓wS_asg, ↓wS_par, ↓wP_nil, ↓wP_cons, ↓wS_expr, ↓wS_ret, ↓wS_retN, ↓wS_iff, ↓wIs_t, ↓wIs_f, ↓wS_for, ↓wS_whl, ↓wO_some, ↓wO_none, ↓wO_map, ↓wO_bind, ↓wO_chk, ↓wW_nil, ↓wW_cons, ↓b_addLR, ↓b_addRL, ↓m_append, ↓m_extend, ↓m_pop, ↓st_ref, ↓sb_ref, ↓len_ref, ↓wE_dcomp, ↓wSt_l, ↓wSt_i, ↓wSt_s, ↓wSt_t, ↓wSb_l, ↓wSb_i, ↓wSb_t, ↓wLn_l, ↓wLn_d, ↓wLn_t, ↓wO_ixn, wE_tupP, wE_lstP, plain_nil, plain_cons, wE_lstT, wE_tupT, starry_t, starry_f, decide_true, decide_false, Bool.not_false, Bool.not_true, Bool.true_and, Bool.and_true, Bool.false_and, Bool.and_false, Bool.or_false, Bool.false_or, Bool.or_true, Bool.true_or, Bool.or_self, wO_some, b_add, b_sub, b_mul, b_fdiv, b_mod, b_addT, b_addL, b_mulL, c_lt, c_le, c_gt, c_ge, c_eq, c_ne, c_eqS, c_neS, c_is_int, c_is_non, c_is_tup, c_isnt_int, c_isnt_non, c_isnt_tup, u_lenL, u_lenT, u_abs, u_int, u_intB, u_max2, u_min2, is_map, is_int, is_nil, is_cons, is_app, bs_map, u_sum, u_all, u_any, u_max1, u_min1, u_listT, u_listL, u_listR, u_tupL, u_tupT, u_tupR, u_vals, u_rng1, x_tup, x_lst, x_tupN, x_lstN, x_lstE, x_tupE, x_dkI, x_dkS, wIte_pand, wIte_por, wIte_int, u_repB, u_repN, x_t0, x_l0, wSb_l0, x_t1, x_l1, wSb_l1, x_t2, x_l2, wSb_l2, x_t3, x_l3, wSb_l3, x_t4, x_l4, wSb_l4, x_t5, x_l5, wSb_l5, s_lT0, s_lL0, s_hT0, s_hL0, s_lT1, s_lL1, s_hT1, s_hL1, s_lT2, s_lL2, s_hT2, s_hL2, s_loT, s_loL, s_hiT, s_hiL, s_lohiT, s_lohiL, s_revT, s_revL, getS_t, getS_l, getL_ref, getDk_ref, isL_l, isDk_d, ap_0, ap_k, aps_0, aps_k, mok_append, mok_extend, mok_pop, mok_popat, Option.map_some, Option.map_none, Option.bind_some, Option.isSome_some, List.cons_append, List.nil_append, List.append_nil, List.length_map, List.length_append, List.length_cons, List.length_nil, List.set_cons_zero, List.set_cons_succ, List.getElem?_cons_zero, List.getElem?_cons_succ, Int.toNat_natCast, true_and, and_true, List.append_assoc, Nat.zero_add, Nat.reduceAdd, e1, e2, c_is_small_middle _ [(1, 5, 1)] (by simp) hcl, c_bl_is, c_wide_bound _ [(1, 5, 1), (1, 5, 1)] (by simp) hj hcl, s0, w0]
end K88

namespace K88
open PySem PySem.Spec PyProof.Rows L2 Z
theorem tab {K : PySem.W.Frag} {h : Heap} {mg : Str → Option Value} (X : K.In h) (G : h.Ns mainGlobals mg)
    {f0 f1 f2 f3 f4 f5 f6 f7 f8 f9 f10 f11 f12 f13 f14 f15 f16 f17 f18 f19 f20 f21 f22 f23 : Addr} {od0 an0 od1 an1 od2 an2 od3 an3 od4 an4 od5 an5 od6 an6 od7 an7 od8 an8 od9 an9 od10 an10 od11 an11 od12 an12 od13 an13 od14 an14 od15 an15 od16 an16 od17 an17 od18 an18 od19 an19 od20 an20 od21 an21 od22 an22 od23 an23 : Option Addr} {sl0 sl1 sl2 sl3 sl4 sl5 sl6 sl7 sl8 sl9 sl10 sl11 sl12 sl13 sl14 sl15 sl16 sl17 sl18 sl19 sl20 sl21 sl22 sl23 : Array (Option Value)}
    {oc0 kV0 dc0 pm0 cd0 ct0 oc1 kV1 dc1 pm1 cd1 ct1 oc2 kV2 dc2 pm2 cd2 ct2 oc3 kV3 dc3 pm3 cd3 ct3 oc4 kV4 dc4 pm4 cd4 ct4 oc5 kV5 dc5 pm5 cd5 ct5 oc6 kV6 dc6 pm6 cd6 ct6 oc7 kV7 dc7 pm7 cd7 ct7 oc8 kV8 dc8 pm8 cd8 ct8 oc9 kV9 dc9 pm9 cd9 ct9 oc10 kV10 dc10 pm10 cd10 ct10 oc11 kV11 dc11 pm11 cd11 ct11 oc12 kV12 dc12 pm12 cd12 ct12 oc13 kV13 dc13 pm13 cd13 ct13 oc14 kV14 dc14 pm14 cd14 ct14 oc15 kV15 dc15 pm15 cd15 ct15 oc16 kV16 dc16 pm16 cd16 ct16 oc17 kV17 dc17 pm17 cd17 ct17 oc18 kV18 dc18 pm18 cd18 ct18 oc19 kV19 dc19 pm19 cd19 ct19 oc20 kV20 dc20 pm20 cd20 ct20 oc21 kV21 dc21 pm21 cd21 ct21 oc22 kV22 dc22 pm22 cd22 ct22 oc23 kV23 dc23 pm23 cd23 ct23 : Value}
    (a0 : PySem.W.nsIn K mainGlobals (PySem.Str.ofString "johnson_order") = some (some (.ref f0))) (l0 : K.lookup f0 = some ⟨oc0, od0, .func (PySem.W.fnOf (PySem.Str.ofString "johnson_order") (PySem.Str.ofString "johnson_order") (defArgs (st 1)) (defBody (st 1)) (defScope (st 1)) .none kV0 dc0 pm0 an0 cd0 ct0), sl0⟩) (c0 : PySem.W.codeIn K cd0 (PySem.Str.ofString "johnson_order") = true) (k0 : PySem.W.keepIn K (.ref f0) = true)
    (a1 : PySem.W.nsIn K mainGlobals (PySem.Str.ofString "ends_in_room") = some (some (.ref f1))) (l1 : K.lookup f1 = some ⟨oc1, od1, .func (PySem.W.fnOf (PySem.Str.ofString "ends_in_room") (PySem.Str.ofString "ends_in_room") (defArgs (st 3)) (defBody (st 3)) (defScope (st 3)) .none kV1 dc1 pm1 an1 cd1 ct1), sl1⟩) (c1 : PySem.W.codeIn K cd1 (PySem.Str.ofString "ends_in_room") = true) (k1 : PySem.W.keepIn K (.ref f1) = true)
    (a2 : PySem.W.nsIn K mainGlobals (PySem.Str.ofString "ends_by_rooms") = some (some (.ref f2))) (l2 : K.lookup f2 = some ⟨oc2, od2, .func (PySem.W.fnOf (PySem.Str.ofString "ends_by_rooms") (PySem.Str.ofString "ends_by_rooms") (defArgs (st 4)) (defBody (st 4)) (defScope (st 4)) .none kV2 dc2 pm2 an2 cd2 ct2), sl2⟩) (c2 : PySem.W.codeIn K cd2 (PySem.Str.ofString "ends_by_rooms") = true) (k2 : PySem.W.keepIn K (.ref f2) = true)
    (a3 : PySem.W.nsIn K mainGlobals (PySem.Str.ofString "rooms_span") = some (some (.ref f3))) (l3 : K.lookup f3 = some ⟨oc3, od3, .func (PySem.W.fnOf (PySem.Str.ofString "rooms_span") (PySem.Str.ofString "rooms_span") (defArgs (st 5)) (defBody (st 5)) (defScope (st 5)) .none kV3 dc3 pm3 an3 cd3 ct3), sl3⟩) (c3 : PySem.W.codeIn K cd3 (PySem.Str.ofString "rooms_span") = true) (k3 : PySem.W.keepIn K (.ref f3) = true)
    (a4 : PySem.W.nsIn K mainGlobals (PySem.Str.ofString "room_span") = some (some (.ref f4))) (l4 : K.lookup f4 = some ⟨oc4, od4, .func (PySem.W.fnOf (PySem.Str.ofString "room_span") (PySem.Str.ofString "room_span") (defArgs (st 6)) (defBody (st 6)) (defScope (st 6)) .none kV4 dc4 pm4 an4 cd4 ct4), sl4⟩) (c4 : PySem.W.codeIn K cd4 (PySem.Str.ofString "room_span") = true) (k4 : PySem.W.keepIn K (.ref f4) = true)
    (a5 : PySem.W.nsIn K mainGlobals (PySem.Str.ofString "way_length") = some (some (.ref f5))) (l5 : K.lookup f5 = some ⟨oc5, od5, .func (PySem.W.fnOf (PySem.Str.ofString "way_length") (PySem.Str.ofString "way_length") (defArgs (st 7)) (defBody (st 7)) (defScope (st 7)) .none kV5 dc5 pm5 an5 cd5 ct5), sl5⟩) (c5 : PySem.W.codeIn K cd5 (PySem.Str.ofString "way_length") = true) (k5 : PySem.W.keepIn K (.ref f5) = true)
    (a6 : PySem.W.nsIn K mainGlobals (PySem.Str.ofString "wide_span") = some (some (.ref f6))) (l6 : K.lookup f6 = some ⟨oc6, od6, .func (PySem.W.fnOf (PySem.Str.ofString "wide_span") (PySem.Str.ofString "wide_span") (defArgs (st 8)) (defBody (st 8)) (defScope (st 8)) .none kV6 dc6 pm6 an6 cd6 ct6), sl6⟩) (c6 : PySem.W.codeIn K cd6 (PySem.Str.ofString "wide_span") = true) (k6 : PySem.W.keepIn K (.ref f6) = true)
    (a7 : PySem.W.nsIn K mainGlobals (PySem.Str.ofString "pairs_of_rooms") = some (some (.ref f7))) (l7 : K.lookup f7 = some ⟨oc7, od7, .func (PySem.W.fnOf (PySem.Str.ofString "pairs_of_rooms") (PySem.Str.ofString "pairs_of_rooms") (defArgs (st 10)) (defBody (st 10)) (defScope (st 10)) .none kV7 dc7 pm7 an7 cd7 ct7), sl7⟩) (c7 : PySem.W.codeIn K cd7 (PySem.Str.ofString "pairs_of_rooms") = true) (k7 : PySem.W.keepIn K (.ref f7) = true)
    (a8 : PySem.W.nsIn K mainGlobals (PySem.Str.ofString "told_room_order") = some (some (.ref f8))) (l8 : K.lookup f8 = some ⟨oc8, od8, .func (PySem.W.fnOf (PySem.Str.ofString "told_room_order") (PySem.Str.ofString "told_room_order") (defArgs (st 11)) (defBody (st 11)) (defScope (st 11)) .none kV8 dc8 pm8 an8 cd8 ct8), sl8⟩) (c8 : PySem.W.codeIn K cd8 (PySem.Str.ofString "told_room_order") = true) (k8 : PySem.W.keepIn K (.ref f8) = true)
    (a9 : PySem.W.nsIn K mainGlobals (PySem.Str.ofString "wide_bound") = some (some (.ref f9))) (l9 : K.lookup f9 = some ⟨oc9, od9, .func (PySem.W.fnOf (PySem.Str.ofString "wide_bound") (PySem.Str.ofString "wide_bound") (defArgs (st 12)) (defBody (st 12)) (defScope (st 12)) .none kV9 dc9 pm9 an9 cd9 ct9), sl9⟩) (c9 : PySem.W.codeIn K cd9 (PySem.Str.ofString "wide_bound") = true) (k9 : PySem.W.keepIn K (.ref f9) = true)
    (a10 : PySem.W.nsIn K mainGlobals (PySem.Str.ofString "is_small_middle") = some (some (.ref f10))) (l10 : K.lookup f10 = some ⟨oc10, od10, .func (PySem.W.fnOf (PySem.Str.ofString "is_small_middle") (PySem.Str.ofString "is_small_middle") (defArgs (st 13)) (defBody (st 13)) (defScope (st 13)) .none kV10 dc10 pm10 an10 cd10 ct10), sl10⟩) (c10 : PySem.W.codeIn K cd10 (PySem.Str.ofString "is_small_middle") = true) (k10 : PySem.W.keepIn K (.ref f10) = true)
    (a11 : PySem.W.nsIn K mainGlobals (PySem.Str.ofString "orders_of_jobs") = some (some (.ref f11))) (l11 : K.lookup f11 = some ⟨oc11, od11, .func (PySem.W.fnOf (PySem.Str.ofString "orders_of_jobs") (PySem.Str.ofString "orders_of_jobs") (defArgs (st 15)) (defBody (st 15)) (defScope (st 15)) .none kV11 dc11 pm11 an11 cd11 ct11), sl11⟩) (c11 : PySem.W.codeIn K cd11 (PySem.Str.ofString "orders_of_jobs") = true) (k11 : PySem.W.keepIn K (.ref f11) = true)
    (a12 : PySem.W.nsIn K mainGlobals (PySem.Str.ofString "least_room_span") = some (some (.ref f12))) (l12 : K.lookup f12 = some ⟨oc12, od12, .func (PySem.W.fnOf (PySem.Str.ofString "least_room_span") (PySem.Str.ofString "least_room_span") (defArgs (st 16)) (defBody (st 16)) (defScope (st 16)) .none kV12 dc12 pm12 an12 cd12 ct12), sl12⟩) (c12 : PySem.W.codeIn K cd12 (PySem.Str.ofString "least_room_span") = true) (k12 : PySem.W.keepIn K (.ref f12) = true)
    (a13 : PySem.W.nsIn K mainGlobals (PySem.Str.ofString "best_room_orders") = some (some (.ref f13))) (l13 : K.lookup f13 = some ⟨oc13, od13, .func (PySem.W.fnOf (PySem.Str.ofString "best_room_orders") (PySem.Str.ofString "best_room_orders") (defArgs (st 17)) (defBody (st 17)) (defScope (st 17)) .none kV13 dc13 pm13 an13 cd13 ct13), sl13⟩) (c13 : PySem.W.codeIn K cd13 (PySem.Str.ofString "best_room_orders") = true) (k13 : PySem.W.keepIn K (.ref f13) = true)
    (a14 : PySem.W.nsIn K mainGlobals (PySem.Str.ofString "_law_source") = some (some (.ref f14))) (l14 : K.lookup f14 = some ⟨oc14, od14, .func (PySem.W.fnOf (PySem.Str.ofString "_law_source") (PySem.Str.ofString "_law_source") (defArgs (st 19)) (defBody (st 19)) (defScope (st 19)) .none kV14 dc14 pm14 an14 cd14 ct14), sl14⟩) (c14 : PySem.W.codeIn K cd14 (PySem.Str.ofString "_law_source") = true) (k14 : PySem.W.keepIn K (.ref f14) = true)
    (a15 : PySem.W.nsIn K mainGlobals (PySem.Str.ofString "_law_pick") = some (some (.ref f15))) (l15 : K.lookup f15 = some ⟨oc15, od15, .func (PySem.W.fnOf (PySem.Str.ofString "_law_pick") (PySem.Str.ofString "_law_pick") (defArgs (st 20)) (defBody (st 20)) (defScope (st 20)) .none kV15 dc15 pm15 an15 cd15 ct15), sl15⟩) (c15 : PySem.W.codeIn K cd15 (PySem.Str.ofString "_law_pick") = true) (k15 : PySem.W.keepIn K (.ref f15) = true)
    (a16 : PySem.W.nsIn K mainGlobals (PySem.Str.ofString "_law_mixed") = some (some (.ref f16))) (l16 : K.lookup f16 = some ⟨oc16, od16, .func (PySem.W.fnOf (PySem.Str.ofString "_law_mixed") (PySem.Str.ofString "_law_mixed") (defArgs (st 21)) (defBody (st 21)) (defScope (st 21)) .none kV16 dc16 pm16 an16 cd16 ct16), sl16⟩) (c16 : PySem.W.codeIn K cd16 (PySem.Str.ofString "_law_mixed") = true) (k16 : PySem.W.keepIn K (.ref f16) = true)
    (a17 : PySem.W.nsIn K mainGlobals (PySem.Str.ofString "_law_jobs") = some (some (.ref f17))) (l17 : K.lookup f17 = some ⟨oc17, od17, .func (PySem.W.fnOf (PySem.Str.ofString "_law_jobs") (PySem.Str.ofString "_law_jobs") (defArgs (st 22)) (defBody (st 22)) (defScope (st 22)) .none kV17 dc17 pm17 an17 cd17 ct17), sl17⟩) (c17 : PySem.W.codeIn K cd17 (PySem.Str.ofString "_law_jobs") = true) (k17 : PySem.W.keepIn K (.ref f17) = true)
    (a18 : PySem.W.nsIn K mainGlobals (PySem.Str.ofString "_law_ends") = some (some (.ref f18))) (l18 : K.lookup f18 = some ⟨oc18, od18, .func (PySem.W.fnOf (PySem.Str.ofString "_law_ends") (PySem.Str.ofString "_law_ends") (defArgs (st 23)) (defBody (st 23)) (defScope (st 23)) .none kV18 dc18 pm18 an18 cd18 ct18), sl18⟩) (c18 : PySem.W.codeIn K cd18 (PySem.Str.ofString "_law_ends") = true) (k18 : PySem.W.keepIn K (.ref f18) = true)
    (a19 : PySem.W.nsIn K mainGlobals (PySem.Str.ofString "_law_span") = some (some (.ref f19))) (l19 : K.lookup f19 = some ⟨oc19, od19, .func (PySem.W.fnOf (PySem.Str.ofString "_law_span") (PySem.Str.ofString "_law_span") (defArgs (st 24)) (defBody (st 24)) (defScope (st 24)) .none kV19 dc19 pm19 an19 cd19 ct19), sl19⟩) (c19 : PySem.W.codeIn K cd19 (PySem.Str.ofString "_law_span") = true) (k19 : PySem.W.keepIn K (.ref f19) = true)
    (a20 : PySem.W.nsIn K mainGlobals (PySem.Str.ofString "_law_wide") = some (some (.ref f20))) (l20 : K.lookup f20 = some ⟨oc20, od20, .func (PySem.W.fnOf (PySem.Str.ofString "_law_wide") (PySem.Str.ofString "_law_wide") (defArgs (st 25)) (defBody (st 25)) (defScope (st 25)) .none kV20 dc20 pm20 an20 cd20 ct20), sl20⟩) (c20 : PySem.W.codeIn K cd20 (PySem.Str.ofString "_law_wide") = true) (k20 : PySem.W.keepIn K (.ref f20) = true)
    (a21 : PySem.W.nsIn K mainGlobals (PySem.Str.ofString "_law_orders") = some (some (.ref f21))) (l21 : K.lookup f21 = some ⟨oc21, od21, .func (PySem.W.fnOf (PySem.Str.ofString "_law_orders") (PySem.Str.ofString "_law_orders") (defArgs (st 26)) (defBody (st 26)) (defScope (st 26)) .none kV21 dc21 pm21 an21 cd21 ct21), sl21⟩) (c21 : PySem.W.codeIn K cd21 (PySem.Str.ofString "_law_orders") = true) (k21 : PySem.W.keepIn K (.ref f21) = true)
    (a22 : PySem.W.nsIn K mainGlobals (PySem.Str.ofString "_law_small") = some (some (.ref f22))) (l22 : K.lookup f22 = some ⟨oc22, od22, .func (PySem.W.fnOf (PySem.Str.ofString "_law_small") (PySem.Str.ofString "_law_small") (defArgs (st 27)) (defBody (st 27)) (defScope (st 27)) .none kV22 dc22 pm22 an22 cd22 ct22), sl22⟩) (c22 : PySem.W.codeIn K cd22 (PySem.Str.ofString "_law_small") = true) (k22 : PySem.W.keepIn K (.ref f22) = true)
    (a23 : PySem.W.nsIn K mainGlobals (PySem.Str.ofString "law") = some (some (.ref f23))) (l23 : K.lookup f23 = some ⟨oc23, od23, .func (PySem.W.fnOf (PySem.Str.ofString "law") (PySem.Str.ofString "law") (defArgs (st 28)) (defBody (st 28)) (defScope (st 28)) .none kV23 dc23 pm23 an23 cd23 ct23), sl23⟩) (c23 : PySem.W.codeIn K cd23 (PySem.Str.ofString "law") = true) (k23 : PySem.W.keepIn K (.ref f23) = true)
    (z0 : PySem.W.nsIn K mainGlobals (PySem.Str.ofString "len") = some none)
    (z1 : PySem.W.nsIn K mainGlobals (PySem.Str.ofString "abs") = some none)
    (z2 : PySem.W.nsIn K mainGlobals (PySem.Str.ofString "int") = some none)
    (z3 : PySem.W.nsIn K mainGlobals (PySem.Str.ofString "max") = some none)
    (z4 : PySem.W.nsIn K mainGlobals (PySem.Str.ofString "min") = some none)
    (z5 : PySem.W.nsIn K mainGlobals (PySem.Str.ofString "sum") = some none)
    (z6 : PySem.W.nsIn K mainGlobals (PySem.Str.ofString "all") = some none)
    (z7 : PySem.W.nsIn K mainGlobals (PySem.Str.ofString "any") = some none)
    (z8 : PySem.W.nsIn K mainGlobals (PySem.Str.ofString "list") = some none)
    (z9 : PySem.W.nsIn K mainGlobals (PySem.Str.ofString "tuple") = some none)
    (z10 : PySem.W.nsIn K mainGlobals (PySem.Str.ofString "repr") = some none)
    (z11 : PySem.W.nsIn K mainGlobals (PySem.Str.ofString "sorted") = some none)
    (z12 : PySem.W.nsIn K mainGlobals (PySem.Str.ofString "dict") = some none)
    (z13 : PySem.W.nsIn K mainGlobals (PySem.Str.ofString "isinstance") = some none)
    (z14 : PySem.W.nsIn K mainGlobals (PySem.Str.ofString "range") = some none)
    (z15 : PySem.W.nsIn K mainGlobals (PySem.Str.ofString "enumerate") = some none)
    (z16 : PySem.W.nsIn K mainGlobals (PySem.Str.ofString "zip") = some none)
    (z17 : PySem.W.nsIn K mainGlobals (PySem.Str.ofString "bool") = some none)
    (z18 : PySem.W.nsIn K mainGlobals (PySem.Str.ofString "str") = some none)
    : (∀ j nm, Γ j = some nm → FnR K mg fns Γ j nm) ∧ ∀ x ∈ bNames, mg x = none := by
  constructor
  · intro j nm hj
    match j, hj with
    | 0, hj => cases hj; exact ⟨st 1, _, _, f0, fs0, fnT_mk l0 c0 k0, PySem.W.mg_of X G a0⟩
    | 1, hj => cases hj; exact ⟨st 3, _, _, f1, fs1, fnT_mk l1 c1 k1, PySem.W.mg_of X G a1⟩
    | 2, hj => cases hj; exact ⟨st 4, _, _, f2, fs2, fnT_mk l2 c2 k2, PySem.W.mg_of X G a2⟩
    | 3, hj => cases hj; exact ⟨st 5, _, _, f3, fs3, fnT_mk l3 c3 k3, PySem.W.mg_of X G a3⟩
    | 4, hj => cases hj; exact ⟨st 6, _, _, f4, fs4, fnT_mk l4 c4 k4, PySem.W.mg_of X G a4⟩
    | 5, hj => cases hj; exact ⟨st 7, _, _, f5, fs5, fnT_mk l5 c5 k5, PySem.W.mg_of X G a5⟩
    | 6, hj => cases hj; exact ⟨st 8, _, _, f6, fs6, fnT_mk l6 c6 k6, PySem.W.mg_of X G a6⟩
    | 7, hj => cases hj; exact ⟨st 10, _, _, f7, fs7, fnT_mk l7 c7 k7, PySem.W.mg_of X G a7⟩
    | 8, hj => cases hj; exact ⟨st 11, _, _, f8, fs8, fnT_mk l8 c8 k8, PySem.W.mg_of X G a8⟩
    | 9, hj => cases hj; exact ⟨st 12, _, _, f9, fs9, fnT_mk l9 c9 k9, PySem.W.mg_of X G a9⟩
    | 10, hj => cases hj; exact ⟨st 13, _, _, f10, fs10, fnT_mk l10 c10 k10, PySem.W.mg_of X G a10⟩
    | 11, hj => cases hj; exact ⟨st 15, _, _, f11, fs11, fnT_mk l11 c11 k11, PySem.W.mg_of X G a11⟩
    | 12, hj => cases hj; exact ⟨st 16, _, _, f12, fs12, fnT_mk l12 c12 k12, PySem.W.mg_of X G a12⟩
    | 13, hj => cases hj; exact ⟨st 17, _, _, f13, fs13, fnT_mk l13 c13 k13, PySem.W.mg_of X G a13⟩
    | 14, hj => cases hj; exact ⟨st 19, _, _, f14, fs14, fnT_mk l14 c14 k14, PySem.W.mg_of X G a14⟩
    | 15, hj => cases hj; exact ⟨st 20, _, _, f15, fs15, fnT_mk l15 c15 k15, PySem.W.mg_of X G a15⟩
    | 16, hj => cases hj; exact ⟨st 21, _, _, f16, fs16, fnT_mk l16 c16 k16, PySem.W.mg_of X G a16⟩
    | 17, hj => cases hj; exact ⟨st 22, _, _, f17, fs17, fnT_mk l17 c17 k17, PySem.W.mg_of X G a17⟩
    | 18, hj => cases hj; exact ⟨st 23, _, _, f18, fs18, fnT_mk l18 c18 k18, PySem.W.mg_of X G a18⟩
    | 19, hj => cases hj; exact ⟨st 24, _, _, f19, fs19, fnT_mk l19 c19 k19, PySem.W.mg_of X G a19⟩
    | 20, hj => cases hj; exact ⟨st 25, _, _, f20, fs20, fnT_mk l20 c20 k20, PySem.W.mg_of X G a20⟩
    | 21, hj => cases hj; exact ⟨st 26, _, _, f21, fs21, fnT_mk l21 c21 k21, PySem.W.mg_of X G a21⟩
    | 22, hj => cases hj; exact ⟨st 27, _, _, f22, fs22, fnT_mk l22 c22 k22, PySem.W.mg_of X G a22⟩
    | 23, hj => cases hj; exact ⟨st 28, _, _, f23, fs23, fnT_mk l23 c23 k23, PySem.W.mg_of X G a23⟩
    | j + 24, hj => cases hj
  · intro x hx
    have hx' : x ∈ [(PySem.Str.ofString "len"), (PySem.Str.ofString "abs"), (PySem.Str.ofString "int"), (PySem.Str.ofString "max"), (PySem.Str.ofString "min"), (PySem.Str.ofString "sum"), (PySem.Str.ofString "all"), (PySem.Str.ofString "any"), (PySem.Str.ofString "list"), (PySem.Str.ofString "tuple"), (PySem.Str.ofString "repr"), (PySem.Str.ofString "sorted"), (PySem.Str.ofString "dict"), (PySem.Str.ofString "isinstance"), (PySem.Str.ofString "range"), (PySem.Str.ofString "enumerate"), (PySem.Str.ofString "zip"), (PySem.Str.ofString "bool"), (PySem.Str.ofString "str")] := hx
    simp only [List.mem_cons, List.not_mem_nil, or_false] at hx'
    rcases hx' with rfl | rfl | rfl | rfl | rfl | rfl | rfl | rfl | rfl | rfl | rfl | rfl | rfl | rfl | rfl | rfl | rfl | rfl | rfl
    · exact PySem.W.mg_none_of X G z0
    · exact PySem.W.mg_none_of X G z1
    · exact PySem.W.mg_none_of X G z2
    · exact PySem.W.mg_none_of X G z3
    · exact PySem.W.mg_none_of X G z4
    · exact PySem.W.mg_none_of X G z5
    · exact PySem.W.mg_none_of X G z6
    · exact PySem.W.mg_none_of X G z7
    · exact PySem.W.mg_none_of X G z8
    · exact PySem.W.mg_none_of X G z9
    · exact PySem.W.mg_none_of X G z10
    · exact PySem.W.mg_none_of X G z11
    · exact PySem.W.mg_none_of X G z12
    · exact PySem.W.mg_none_of X G z13
    · exact PySem.W.mg_none_of X G z14
    · exact PySem.W.mg_none_of X G z15
    · exact PySem.W.mg_none_of X G z16
    · exact PySem.W.mg_none_of X G z17
    · exact PySem.W.mg_none_of X G z18
end K88
open PySem PySem.W PyProof.Rows
set_option maxHeartbeats 0 in
theorem PySem.Challenge.cw_jobsinturn_k88_whole_small_middles_holds : PySem.Challenge.rw_jobsinturn_k88_whole_small_middles.Holds := by
  w_on; o_law; k_head; (case hw => w_witness2)
  k_fill
  refine Z.law_walk (l := PySem.Challenge.rw_jobsinturn_k88_whole_small_middles) (n := 63) (k := 24) (i := 23) (fns := K88.fns) (L := 1000000000) (Γ := K88.Γ) rfl (by decide) rfl ⟨rfl, by decide, by decide⟩ (fun w h Y => PySem.W.kIn_of Y) rfl ?T K88.ans
  case T =>
    intro w mg h KX G
    refine' K88.tab KX G ?a0 ?l0 ?c0 ?k0 ?a1 ?l1 ?c1 ?k1 ?a2 ?l2 ?c2 ?k2 ?a3 ?l3 ?c3 ?k3 ?a4 ?l4 ?c4 ?k4 ?a5 ?l5 ?c5 ?k5 ?a6 ?l6 ?c6 ?k6 ?a7 ?l7 ?c7 ?k7 ?a8 ?l8 ?c8 ?k8 ?a9 ?l9 ?c9 ?k9 ?a10 ?l10 ?c10 ?k10 ?a11 ?l11 ?c11 ?k11 ?a12 ?l12 ?c12 ?k12 ?a13 ?l13 ?c13 ?k13 ?a14 ?l14 ?c14 ?k14 ?a15 ?l15 ?c15 ?k15 ?a16 ?l16 ?c16 ?k16 ?a17 ?l17 ?c17 ?k17 ?a18 ?l18 ?c18 ?k18 ?a19 ?l19 ?c19 ?k19 ?a20 ?l20 ?c20 ?k20 ?a21 ?l21 ?c21 ?k21 ?a22 ?l22 ?c22 ?k22 ?a23 ?l23 ?c23 ?k23 ?z0 ?z1 ?z2 ?z3 ?z4 ?z5 ?z6 ?z7 ?z8 ?z9 ?z10 ?z11 ?z12 ?z13 ?z14 ?z15 ?z16 ?z17 ?z18
    (case a0 => k_is)
    (case l0 => k_is)
    (case c0 => k_is)
    (case k0 => k_is)
    (case a1 => k_is)
    (case l1 => k_is)
    (case c1 => k_is)
    (case k1 => k_is)
    (case a2 => k_is)
    (case l2 => k_is)
    (case c2 => k_is)
    (case k2 => k_is)
    (case a3 => k_is)
    (case l3 => k_is)
    (case c3 => k_is)
    (case k3 => k_is)
    (case a4 => k_is)
    (case l4 => k_is)
    (case c4 => k_is)
    (case k4 => k_is)
    (case a5 => k_is)
    (case l5 => k_is)
    (case c5 => k_is)
    (case k5 => k_is)
    (case a6 => k_is)
    (case l6 => k_is)
    (case c6 => k_is)
    (case k6 => k_is)
    (case a7 => k_is)
    (case l7 => k_is)
    (case c7 => k_is)
    (case k7 => k_is)
    (case a8 => k_is)
    (case l8 => k_is)
    (case c8 => k_is)
    (case k8 => k_is)
    (case a9 => k_is)
    (case l9 => k_is)
    (case c9 => k_is)
    (case k9 => k_is)
    (case a10 => k_is)
    (case l10 => k_is)
    (case c10 => k_is)
    (case k10 => k_is)
    (case a11 => k_is)
    (case l11 => k_is)
    (case c11 => k_is)
    (case k11 => k_is)
    (case a12 => k_is)
    (case l12 => k_is)
    (case c12 => k_is)
    (case k12 => k_is)
    (case a13 => k_is)
    (case l13 => k_is)
    (case c13 => k_is)
    (case k13 => k_is)
    (case a14 => k_is)
    (case l14 => k_is)
    (case c14 => k_is)
    (case k14 => k_is)
    (case a15 => k_is)
    (case l15 => k_is)
    (case c15 => k_is)
    (case k15 => k_is)
    (case a16 => k_is)
    (case l16 => k_is)
    (case c16 => k_is)
    (case k16 => k_is)
    (case a17 => k_is)
    (case l17 => k_is)
    (case c17 => k_is)
    (case k17 => k_is)
    (case a18 => k_is)
    (case l18 => k_is)
    (case c18 => k_is)
    (case k18 => k_is)
    (case a19 => k_is)
    (case l19 => k_is)
    (case c19 => k_is)
    (case k19 => k_is)
    (case a20 => k_is)
    (case l20 => k_is)
    (case c20 => k_is)
    (case k20 => k_is)
    (case a21 => k_is)
    (case l21 => k_is)
    (case c21 => k_is)
    (case k21 => k_is)
    (case a22 => k_is)
    (case l22 => k_is)
    (case c22 => k_is)
    (case k22 => k_is)
    (case a23 => k_is)
    (case l23 => k_is)
    (case c23 => k_is)
    (case k23 => k_is)
    (case z0 => k_is)
    (case z1 => k_is)
    (case z2 => k_is)
    (case z3 => k_is)
    (case z4 => k_is)
    (case z5 => k_is)
    (case z6 => k_is)
    (case z7 => k_is)
    (case z8 => k_is)
    (case z9 => k_is)
    (case z10 => k_is)
    (case z11 => k_is)
    (case z12 => k_is)
    (case z13 => k_is)
    (case z14 => k_is)
    (case z15 => k_is)
    (case z16 => k_is)
    (case z17 => k_is)
    (case z18 => k_is)
