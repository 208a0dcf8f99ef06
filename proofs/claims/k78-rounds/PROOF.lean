import PyProof.Rows.All
import Wide.All
import OpenK.AllK
import Wide.FinOn
import HandS.ForMost
import KE.SortData
import KE.KeyNested
import KE.KDictKeyed
import KE.DataEq
import KE.KSortTupAny
import HandS.TupAny
import HandS.TupLe
import HandS.Conv
import HandS.Gcd
import HandS.Comp
import PyProof.TupleOfSeq
import KE.GoesZip
import KE.GoesMore
import KE.GoesEnum
import HandS.IsInst
import HandS.TupSets
import HandS.SetFor
import HandS.Deep
import HandS.Style
import HandS.SetIn
import HandS.Strs
import HandS.Small
import HandS.Codes
import HandS.Defaults
import KE.KStateDown
import HandS.Ends
import HandS.More
import HandS.Words
import HandS.WordsExc
import HandS.Head0
import HandS.Head1
import HandS.Head2
import HandS.Head3
import HandS.HeadEnd
import HandS.HeadHook1
import HandS.HeadHook2
import PySem.Challenge.RW_ringtones_k78_whole_rounds_of_threes
set_option Elab.async false
set_option linter.all false
set_option maxRecDepth 100000
set_option maxHeartbeats 4000000
/-! A small language of its own, to which the texts' defs are brought, and its evaluator. -/
namespace Rv
open PySem

/-- values: data, and what stands for objects that are changed (ref), defs (fn) -/
inductive D where
  | non | bl (b : Bool) | int (i : Int) | str (s : Str)
  | tup (ds : List D) | lst (ds : List D) | dic (ks vs : List D)
  | ref (h : Nat) | fn (x : Str)

/-- what a slot holds: nothing, a value, or a list or dict that nobody else holds -/
inductive Sl where
  | un | val (d : D) | own (d : D)

inductive Bop | add | sub | mul | fdiv | mod | pow | shl | shr | band | bor
inductive Cop | eq | ne | lt | le | gt | ge | is_ | isn | in_ | nin
inductive Ty | int | bool | str | tuple | list
inductive Blt | len | sorted | tuple | list | sum | all | any | abs | int | str | min | max | divmod | gcd
inductive Mth | index | count | get | join | split

inductive E where
  | lit (d : D) | gc (x : Str) | var (i : Nat) | mv (i : Nat)
  | bin (o : Bop) (a b : E) | neg (a : E) | inv (a : E)
  | bnot (a : E) | bop (isAnd : Bool) (es : List E)
  | cmp (o : Cop) (a b : E) | cmp2 (o o' : Cop) (a b c : E) | cmpO (o : Cop) (i : Nat) (b : E) | inO (neg : Bool) (a : E) (i : Nat)
  | ife (c a b : E)
  | tup (es : List E) | lst (es : List E) | newH (es : List E) | star (a : E)
  | dic (kvs : List E)
  | idx (a k : E) | idxO (i : Nat) (k : E) | omit | slc (a lo hi : E) | slcO (i : Nat) (lo hi : E) | rev (a : E)
  | call (f : Str) (args : List E) | callK (f : Str) (pm : List Nat) (args : List E) | callv (i : Nat) (args : List E)
  | blt (b : Blt) (args : List E) | lenO (i : Nat)
  | mth (m : Mth) (a : E) (args : List E) | mthO (m : Mth) (i : Nat) (args : List E) | popO (i : Nat) (args : List E)
  | lenset (es : List E) | isi (t : Ty) (a : E) | srtSet (a : E) | lenSet (a : E)
  | comp (tg : E) (it : E) (ifs : List E) (elt : E) (vars : List Nat)
  | comp2 (tg it : E) (ifs : List E) (tg' it' : E) (ifs' : List E) (elt : E) (vars vars' : List Nat)
  | rng (args : List E) | zip (a b : E) | enu (a : E) | comb (a k : E) | items (a : E) | itemsO (i : Nat)
  | lof (s : E) | tof (s : E) | it (a : E)

/-- statements; a target is an E: var i, tup of targets, idxO i k -/
inductive S where
  | set (i : Nat) (e : E) | tset (tg e : E) | par (is : List Nat) (es : List E)
  | setIx (i : Nat) (k v : E) | app (i : Nat) (e : E) | ext (i : Nat) (e : E) | upd (i : Nat) (e : E)
  | expr (e : E) | ret (e : E) | retN
  | ife (c : E) (a b : List S) | for_ (tg it : E) (body : List S) | while_ (c : E) (body : List S)
  | never | pass | brk

inductive Fl where
  | nx | rt (d : D) (fr : Bool) | bk

structure Fn where
  ps : List Str
  ns : Nat
  body : List S

structure Tab where
  gcs : Str → Option D
  fns : Str → Option Fn
  W : Nat

abbrev Ss := List Sl
abbrev St := List D

/-! ### plain data -/
mutual
def py : D → PyData
  | .non => .none
  | .bl b => .bool b
  | .int i => .int i
  | .str s => .str s
  | .tup ds => .tuple (pys ds)
  | .lst ds => .list (pys ds)
  | .dic _ _ => .none
  | .ref _ => .none
  | .fn _ => .none
def pys : List D → List PyData
  | [] => []
  | d :: ds => py d :: pys ds
end

/-- no dict, no object, no def within, not deeper than n -/
def okD : Nat → D → Bool
  | _, .non => true
  | _, .bl _ => true
  | _, .int _ => true
  | _, .str _ => true
  | 0, .tup _ => false
  | 0, .lst _ => false
  | n + 1, .tup ds => ds.all (okD n)
  | n + 1, .lst ds => ds.all (okD n)
  | _, .dic _ _ => false
  | _, .ref _ => false
  | _, .fn _ => false

def b2i (b : Bool) : Int := if b then 1 else 0

mutual
def eqD : D → D → Bool
  | .non, .non => true
  | .bl a, .bl b => a == b
  | .bl a, .int j => b2i a == j
  | .int i, .bl b => i == b2i b
  | .int i, .int j => i == j
  | .str x, .str y => x == y
  | .lst xs, .lst ys => eqDs xs ys
  | .tup xs, .tup ys => eqDs xs ys
  | _, _ => false
def eqDs : List D → List D → Bool
  | [], [] => true
  | x :: xs, y :: ys => eqD x y && eqDs xs ys
  | _, _ => false
end

abbrev lim : Nat := 16777216

def Sl.dOf : Sl → Option D
  | .val d => some d
  | .own d => some d
  | .un => none

/-- what a slot's value holds, an object's content where it is one -/
def slotD (ρ : Ss) (st : St) (i : Nat) : Option D :=
  match ρ[i]? with
  | some (.val (.ref h)) => st[h]?
  | some (.val d) => some d
  | some (.own d) => some d
  | _ => none

/-! ### operations on values -/
/-- what is given by name, in the order of the names asked -/
def pickV {α : Type} (z : α) (pm : List Nat) (l : List α) : List α := pm.map fun i => l.getD i z
def cMul (i j : Int) : Bool := (decide (-(2 ^ 64) < i) && decide (i < 2 ^ 64)) || (decide (-(2 ^ 64) < j) && decide (j < 2 ^ 64))

/-- a value, and whether it is a new list -/
def binD : Bop → D → D → Option (D × Bool)
  | .add, .int i, .int j => some (.int (i + j), false)
  | .add, .str a, .str b => if a.length + b.length ≤ lim then some (.str (a ++ b), false) else none
  | .add, .lst a, .lst b => if a.length + b.length ≤ lim then some (.lst (a ++ b), true) else none
  | .add, .tup a, .tup b => if a.length + b.length ≤ lim then some (.tup (a ++ b), false) else none
  | .sub, .int i, .int j => some (.int (i - j), false)
  | .mul, .int i, .int j => if cMul i j then some (.int (i * j), false) else none
  | .fdiv, .int i, .int j => if 0 < j ∧ j < 1073741824 then some (.int (i / j), false) else none
  | .mod, .int i, .int j => if 0 < j then some (.int (i % j), false) else none
  | .pow, .int i, .int j => if 0 ≤ j ∧ j ≤ 1000 ∧ i.natAbs < 2 ^ 64 then some (.int (i ^ j.toNat), false) else none
  | .shl, .int i, .int j => if 0 ≤ j ∧ j ≤ 1000 ∧ i.natAbs < 2 ^ 64 then some (.int (i * 2 ^ j.toNat), false) else none
  | .shr, .int i, .int j => if 0 ≤ j then some (.int (i / 2 ^ j.toNat), false) else none
  | .band, .int i, .int j => some (.int (Builtin.bitAnd i j), false)
  | .bor, .int i, .int j => some (.int (Builtin.bitOr i j), false)
  | _, _, _ => none

/-- the row of signs by which data are ordered -/
def tokD (d : D) : List (Int ⊕ List Nat) := PySem.W.keyToks (py d)
def ltD (a b : D) : Bool := PyProof.Rows.lexLt PyProof.Rows.itemOrd (tokD a) (tokD b)
def leD (a b : D) : Bool := !ltD b a
def alikeD (a b : D) : Bool := PySem.W.alike (py a) (py b)
def isTupNE : D → Bool
  | .tup (_ :: _) => true
  | _ => false
def noTupN : D → Bool
  | .tup _ => false
  | .non => false
  | _ => true
def sortable (ds : List D) : Bool := ds.all (okD 20) && ds.all (fun a => ds.all (alikeD a)) && (ds.all isTupNE || ds.all noTupN)
def sortM (ds : List D) : Option (List D) := if sortable ds then some (ds.mergeSort leD) else none
/-- put where it belongs -/
def insG {α : Type} (le : α → α → Bool) (a : α) : List α → List α
  | [] => [a]
  | b :: r => if le a b then a :: b :: r else b :: insG le a r
def isort {α : Type} (le : α → α → Bool) : List α → List α
  | [] => []
  | a :: r => insG le a (isort le r)

def dLook : List D → List D → D → Option D
  | k :: ks, v :: vs, d => if eqD k d then some v else dLook ks vs d
  | _, _, _ => none

/-- what may be a dict's key -/
def okKey : D → Bool
  | .int _ => true
  | .str _ => true
  | _ => false
def sub1 (a : Str) (b : Str) : Bool := !(Builtin.Str.occurrences b a 0 b.length 1).isEmpty

def inD (a c : D) : Option Bool :=
  match a, c with
  | a, .lst ds => if okD 40 a && ds.all (okD 40) then some (ds.any fun z => eqD z a) else none
  | a, .tup ds => if okD 40 a && ds.all (okD 40) then some (ds.any fun z => eqD z a) else none
  | .str x, .str y => some (sub1 x y)
  | a, .dic ks vs => if okKey a then some (dLook ks vs a).isSome else none
  | _, _ => none

def cmpD : Cop → D → D → Option Bool
  | .eq, a, b => if okD 40 a && okD 40 b then some (eqD a b) else none
  | .ne, a, b => if okD 40 a && okD 40 b then some (!eqD a b) else none
  | .lt, .int i, .int j => some (decide (i < j))
  | .le, .int i, .int j => some (decide (i ≤ j))
  | .gt, .int i, .int j => some (decide (j < i))
  | .ge, .int i, .int j => some (decide (j ≤ i))
  | .is_, a, .non => some (match a with | .non => true | _ => false)
  | .isn, a, .non => some (match a with | .non => false | _ => true)
  | .in_, a, c => inD a c
  | .nin, a, c => (inD a c).map (!·)
  | _, _, _ => none

def chars (s : Str) : List D := s.cps.toList.map fun c => .str ⟨#[c]⟩
/-- what a walk over a value gives -/
def itemsD : D → Option (List D)
  | .lst ds => some ds
  | .tup ds => some ds
  | .str s => some (chars s)
  | _ => none

abbrev atD (ds : List D) (i : Int) : Option D := L2.atI ds i
def idxD : D → D → Option D
  | .lst ds, .int i => atD ds i
  | .tup ds, .int i => atD ds i
  | .str s, .int i => if s.length ≤ lim then (L2.atI s.cps.toList i).map fun c => .str ⟨#[c]⟩ else none
  | .dic ks vs, k => if okKey k then dLook ks vs k else none
  | _, _ => none

def bndE : E → D → Option (Option Int)
  | .omit, _ => some none
  | _, .int i => some (some i)
  | _, _ => none
def cutL (ds : List D) (lo hi : Option Int) : List D := (ds.drop (HT.sIx ds.length 0 lo)).take (HT.sIx ds.length ds.length hi - HT.sIx ds.length 0 lo)
def cutD : D → Option Int → Option Int → Option (D × Bool)
  | .lst ds, l, h => some (.lst (cutL ds l h), true)
  | .tup ds, l, h => some (.tup (cutL ds l h), false)
  | _, _, _ => none
def slcD (x : D) : Option (Option Int) → Option (Option Int) → Option (D × Bool)
  | some l, some h => cutD x l h
  | _, _ => none
def revD : D → Option (D × Bool)
  | .lst ds => some (.lst ds.reverse, true)
  | .tup ds => some (.tup ds.reverse, false)
  | _ => none

def lenD : D → Option Int
  | .lst ds => some ds.length
  | .tup ds => some ds.length
  | .str s => if s.length ≤ lim then some (s.length : Int) else none
  | .dic ks _ => some ks.length
  | _ => none

def isTyB : Ty → D → Bool
  | .int, .int _ => true
  | .int, .bl _ => true
  | .bool, .bl _ => true
  | .str, .str _ => true
  | .tuple, .tup _ => true
  | .list, .lst _ => true
  | _, _ => false
def isTy (t : Ty) (d : D) : Option Bool :=
  match d with
  | .dic _ _ => none
  | .ref _ => none
  | .fn _ => none
  | _ => some (isTyB t d)

def intsOf : List D → Option (List Int)
  | [] => some []
  | .int i :: r => (intsOf r).map (i :: ·)
  | _ :: _ => none
def blsOf : List D → Option (List Bool)
  | [] => some []
  | .bl i :: r => (blsOf r).map (i :: ·)
  | _ :: _ => none

/-- the first ones of equal ones -/
def addI (acc : List Int) (i : Int) : List Int := if acc.any (· == i) then acc else acc ++ [i]
def dedupI (l : List Int) : List Int := l.foldl addI []
/-- kept sorted, each once -/
def insI (i : Int) : List Int → List Int
  | [] => [i]
  | j :: r => if i < j then i :: j :: r else if i = j then j :: r else j :: insI i r
def setI : List Int → List Int
  | [] => []
  | i :: r => insI i (setI r)
def ltL : List Int → List Int → Bool
  | a :: r, b :: s => decide (a < b) || (decide (a = b) && ltL r s)
  | [], _ :: _ => true
  | _, [] => false
def insL (i : List Int) : List (List Int) → List (List Int)
  | [] => [i]
  | j :: r => if ltL i j then i :: j :: r else if i = j then j :: r else j :: insL i r
def setL : List (List Int) → List (List Int)
  | [] => []
  | i :: r => insL i (setL r)
def tupI : D → Option (List Int)
  | .tup ds => intsOf ds
  | _ => none
def tupsI : List D → Option (List (List Int))
  | [] => some []
  | d :: r => match tupI d with
    | some k => (tupsI r).map (k :: ·)
    | none => none
def goodT (d : Nat) (k : List Int) : Bool := decide (k.length = d) && k.all fun m => decide (0 ≤ m) && decide (m < 1048576)
def tupZ (k : List Int) : D := .tup (k.map .int)
/-- sorted: ints, rows of ints, or other data -/
def sortD (ds : List D) : Option (List D) := match intsOf ds with
  | some l => some ((isort (fun a b => decide (a ≤ b)) l).map .int)
  | none => match tupsI ds with
    | some ks => if ks.all (fun k => !k.isEmpty) then some ((isort (fun a b => !ltL b a) ks).map tupZ) else sortM ds
    | none => sortM ds

def lstD : D → Option (List D)
  | .lst ds => some ds
  | _ => none
def seqD : D → Option (List D)
  | .lst ds => some ds
  | .tup ds => some ds
  | _ => none
def bltD : Blt → List D → Option (D × Bool)
  | .len, [a] => (lenD a).map fun n => (.int n, false)
  | .sorted, [a] => (seqD a).bind fun ds => (sortD ds).map fun r => (.lst r, true)
  | .tuple, [a] => (seqD a).map fun ds => (.tup ds, false)
  | .list, [a] => (seqD a).map fun ds => (.lst ds, true)
  | .sum, [.lst ds] => (intsOf ds).map fun l => (.int l.sum, false)
  | .all, [.lst ds] => (blsOf ds).map fun l => (.bl (l.all id), false)
  | .any, [.lst ds] => (blsOf ds).map fun l => (.bl (l.any id), false)
  | .abs, [.int i] => some (.int (if i < 0 then -i else i), false)
  | .int, [.int i] => some (.int i, false)
  | .int, [.bl b] => some (.int (b2i b), false)
  | .min, [.lst ds] => match intsOf ds with
    | some (x :: r) => some (.int (r.foldl min x), false)
    | _ => none
  | .max, [.lst ds] => match intsOf ds with
    | some (x :: r) => some (.int (r.foldl max x), false)
    | _ => none
  | .min, [.int i, .int j] => some (.int (if j < i then j else i), false)
  | .max, [.int i, .int j] => some (.int (if j > i then j else i), false)
  | .divmod, [.int i, .int j] => if 0 < j ∧ j < 1073741824 then some (.tup [.int (i / j), .int (i % j)], false) else none
  | .gcd, [.int i, .int j] => some (.int ((Nat.gcd i.natAbs j.natAbs : Nat) : Int), false)
  | _, _ => none
/-- sorted(set(xs)), len(set(xs)): of ints, of tuples of ints, few enough -/
def sortSetD (a : D) : Option (D × Bool) := match lstD a with
  | some ds => if ds.length < 64 then (match intsOf ds with
    | some l => some (.lst ((setI l).map .int), true)
    | none => match tupsI ds with
      | some (k :: ks) => if decide (1 ≤ k.length) && (k :: ks).all (goodT k.length) then some (.lst ((setL (k :: ks)).map tupZ), true) else none
      | _ => none) else none
  | none => none
def lenSetD (a : D) : Option (D × Bool) := match lstD a with
  | some ds => if ds.length < 64 then (match intsOf ds with
    | some l => some (.int (dedupI l).length, false)
    | none => none) else none
  | none => none

def idxOf (ds : List D) (d : D) : Option Nat := ds.findIdx? fun z => eqD z d

def mthD : Mth → D → List D → Option (D × Bool)
  | .index, .lst ds, [.int i] => match intsOf ds with
    | some l => match l.findIdx? (fun z => z == i) with
      | some n => some (.int n, false)
      | none => none
    | none => none
  | .count, .lst ds, [.int i] => match intsOf ds with
    | some l => some (.int (l.count i), false)
    | none => none
  | .get, .dic ks vs, [d] => if okKey d then some ((dLook ks vs d).getD .non, false) else none
  | .get, .dic ks vs, [d, z] => if okKey d then some ((dLook ks vs d).getD z, false) else none
  | _, _, _ => none

/-- all choices of two, three .. of a list, in their order -/
def combs : Nat → List D → List (List D)
  | 0, _ => [[]]
  | _ + 1, [] => []
  | n + 1, d :: ds => (combs n ds).map (d :: ·) ++ combs (n + 1) ds

def setOwn (ρ : Ss) (st : St) (i : Nat) (d : D) : Option (Ss × St) :=
  match ρ[i]? with
  | some (.val (.ref h)) => some (ρ, st.set h d)
  | some (.own _) => some (ρ.set i (.own d), st)
  | _ => none
/-- the content of a slot that may be changed -/
def ownD (ρ : Ss) (st : St) (i : Nat) : Option D :=
  match ρ[i]? with
  | some (.val (.ref h)) => st[h]?
  | some (.own d) => some d
  | _ => none

def dPut (ks vs : List D) (d x : D) : List D × List D :=
  if ks.any (fun k => eqD k d) then (ks, List.zipWith (fun k v => if eqD k d then x else v) ks vs) else (ks ++ [d], vs ++ [x])

/-- a display's keys and values, one behind another -/
def mkDic : List D → List D → List D → Option (List D × List D)
  | k :: v :: r, ks, vs => if okKey k then mkDic r (dPut ks vs k v).1 (dPut ks vs k v).2 else none
  | [], ks, vs => some (ks, vs)
  | _, _, _ => none

def putD (c k v : D) : Option D :=
  match c, k with
  | .lst ds, .int i => if 0 ≤ i ∧ i < ds.length then some (.lst (ds.set i.toNat v))
      else if i < 0 ∧ -(ds.length : Int) ≤ i then some (.lst (ds.set (i + ds.length).toNat v)) else none
  | .dic ks vs, k => if okKey k && decide (ks.length < lim) then some (.dic (dPut ks vs k v).1 (dPut ks vs k v).2) else none
  | _, _ => none

def popD (c : D) (args : List D) : Option (D × D) :=
  match c, args with
  | .lst ds, [] => match ds.getLast? with | some d => some (d, .lst ds.dropLast) | none => none
  | .lst ds, [.int i] => if 0 ≤ i then (match ds[i.toNat]? with | some d => some (d, .lst (ds.eraseIdx i.toNat)) | none => none)
      else if -(ds.length : Int) ≤ i then (match ds[(i + ds.length).toNat]? with | some d => some (d, .lst (ds.eraseIdx (i + ds.length).toNat)) | none => none) else none
  | _, _ => none

def wipeS (ρ : Ss) : List Nat → Ss
  | [] => ρ
  | v :: vs => (wipeS ρ vs).set v .un
/-- behind a comprehension its own names are what they were -/
def restS (ρ0 ρ : Ss) : List Nat → Ss
  | [] => ρ
  | v :: vs => (restS ρ0 ρ vs).set v (match ρ0[v]? with | some (.val d) => .val d | _ => .un)

def isCont : D → Bool
  | .lst _ => true
  | .dic _ _ => true
  | _ => false
/-- a value stored at a name: a new list or dict is the name's own -/
def slOf (d : D) (fr : Bool) : Sl := if fr && isCont d then .own d else .val d

/-- a walk's turns -/
def turns (step : D → Ss → St → Option (Fl × Ss × St)) : List D → Ss → St → Option (Fl × Ss × St)
  | [], ρ, st => some (.nx, ρ, st)
  | d :: ds, ρ, st => match step d ρ st with
    | some (.nx, ρ, st) => turns step ds ρ st
    | some (.bk, ρ, st) => some (.nx, ρ, st)
    | some (.rt v fr, ρ, st) => some (.rt v fr, ρ, st)
    | none => none
/-- a comprehension's turns: what is made, in order -/
def gath (step : D → Ss → St → Option (List D × Ss × St)) : List D → Ss → St → Option (List D × Ss × St)
  | [], ρ, st => some ([], ρ, st)
  | d :: ds, ρ, st => match step d ρ st with
    | some (xs, ρ, st) => match gath step ds ρ st with
      | some (ys, ρ, st) => some (xs ++ ys, ρ, st)
      | none => none
    | none => none
def whileL (c : Ss → St → Option (Bool × Ss × St)) (step : Ss → St → Option (Fl × Ss × St)) : Nat → Ss → St → Option (Fl × Ss × St)
  | 0, _, _ => none
  | n + 1, ρ, st => match c ρ st with
    | some (true, ρ, st) => match step ρ st with
      | some (.nx, ρ, st) => whileL c step n ρ st
      | some (.bk, ρ, st) => some (.nx, ρ, st)
      | some (.rt v fr, ρ, st) => some (.rt v fr, ρ, st)
      | none => none
    | some (false, ρ, st) => some (.nx, ρ, st)
    | none => none

section
variable (Γ : Tab) (cf : Str → List D → St → Option (D × Bool × St))
mutual
def evE : E → Ss → St → Option (D × Bool × Ss × St)
  | .lit d, ρ, st => some (d, false, ρ, st)
  | .gc x, ρ, st => match Γ.gcs x with
    | some d => some (d, false, ρ, st)
    | none => none
  | .var i, ρ, st => match ρ[i]? with
    | some (.val d) => some (d, false, ρ, st)
    | some (.own d) => some (d, false, ρ.set i (.val d), st)
    | _ => none
  | .mv i, ρ, st => match ρ[i]? with
    | some (.val d) => some (d, false, ρ, st)
    | some (.own d) => some (d, true, ρ.set i .un, st)
    | _ => none
  | .bin o a b, ρ, st => match evE a ρ st with
    | some (x, _, ρ, st) => match evE b ρ st with
      | some (y, _, ρ, st) => match binD o x y with
        | some (z, f) => some (z, f, ρ, st)
        | none => none
      | none => none
    | none => none
  | .neg a, ρ, st => match evE a ρ st with
    | some (.int i, _, ρ, st) => some (.int (-i), false, ρ, st)
    | _ => none
  | .inv a, ρ, st => match evE a ρ st with
    | some (.int i, _, ρ, st) => some (.int (Builtin.bitNot i), false, ρ, st)
    | _ => none
  | .bnot a, ρ, st => match evE a ρ st with
    | some (.bl b, _, ρ, st) => some (.bl (!b), false, ρ, st)
    | _ => none
  | .bop k es, ρ, st => evBop k es ρ st
  | .cmp o a b, ρ, st => match evE a ρ st with
    | some (x, _, ρ, st) => match evE b ρ st with
      | some (y, _, ρ, st) => match cmpD o x y with
        | some z => some (.bl z, false, ρ, st)
        | none => none
      | none => none
    | none => none
  | .cmp2 o o' a b c, ρ, st => match evE a ρ st with
    | some (x, _, ρ, st) => match evE b ρ st with
      | some (y, _, ρ, st) => match cmpD o x y with
        | some true => match evE c ρ st with
          | some (z, _, ρ, st) => match cmpD o' y z with
            | some w => some (.bl w, false, ρ, st)
            | none => none
          | none => none
        | some false => some (.bl false, false, ρ, st)
        | none => none
      | none => none
    | none => none
  | .cmpO o i b, ρ, st => match slotD ρ st i with
    | none => none
    | some _ => match evE b ρ st with
      | some (y, _, ρ, st) => match slotD ρ st i with
        | some x => match cmpD o x y with
          | some z => some (.bl z, false, ρ, st)
          | none => none
        | none => none
      | none => none
  | .inO neg a i, ρ, st => match evE a ρ st with
    | some (x, _, ρ, st) => match slotD ρ st i with
      | some c => match inD x c with
        | some z => some (.bl (if neg then !z else z), false, ρ, st)
        | none => none
      | none => none
    | none => none
  | .ife c a b, ρ, st => match evE c ρ st with
    | some (.bl true, _, ρ, st) => evE a ρ st
    | some (.bl false, _, ρ, st) => evE b ρ st
    | _ => none
  | .tup es, ρ, st => match evL es ρ st with
    | some (ds, ρ, st) => if ds.length ≤ lim then some (.tup ds, false, ρ, st) else none
    | none => none
  | .lst es, ρ, st => match evL es ρ st with
    | some (ds, ρ, st) => if ds.length ≤ lim then some (.lst ds, true, ρ, st) else none
    | none => none
  | .newH es, ρ, st => match evL es ρ st with
    | some (ds, ρ, st) => if ds.length ≤ lim then some (.ref st.length, false, ρ, st ++ [.lst ds]) else none
    | none => none
  | .star _, _, _ => none
  | .dic kvs, ρ, st => match evL kvs ρ st with
    | some (ds, ρ, st) => match mkDic ds [] [] with
      | some (ks, vs) => if kvs.length ≤ 30 then some (.dic ks vs, true, ρ, st) else none
      | none => none
    | none => none
  | .idx a k, ρ, st => match evE a ρ st with
    | some (x, _, ρ, st) => match evE k ρ st with
      | some (y, _, ρ, st) => match idxD x y with
        | some z => some (z, false, ρ, st)
        | none => none
      | none => none
    | none => none
  | .idxO i k, ρ, st => match slotD ρ st i with
    | none => none
    | some _ => match evE k ρ st with
      | some (y, _, ρ, st) => match slotD ρ st i with
        | some x => match idxD x y with
          | some z => some (z, false, ρ, st)
          | none => none
        | none => none
      | none => none
  | .omit, ρ, st => some (.non, false, ρ, st)
  | .slc a lo hi, ρ, st => match evE a ρ st with
    | some (x, _, ρ, st) => match evE lo ρ st with
      | some (y, _, ρ, st) => match evE hi ρ st with
        | some (z, _, ρ, st) => match slcD x (bndE lo y) (bndE hi z) with
          | some (r, f) => some (r, f, ρ, st)
          | none => none
        | none => none
      | none => none
    | none => none
  | .slcO i lo hi, ρ, st => match slotD ρ st i with
    | none => none
    | some _ => match evE lo ρ st with
      | some (y, _, ρ, st) => match evE hi ρ st with
        | some (z, _, ρ, st) => match slotD ρ st i with
          | some x => match slcD x (bndE lo y) (bndE hi z) with
            | some (r, f) => some (r, f, ρ, st)
            | none => none
          | none => none
        | none => none
      | none => none
  | .rev a, ρ, st => match evE a ρ st with
    | some (x, _, ρ, st) => match revD x with
      | some (r, f) => some (r, f, ρ, st)
      | none => none
    | none => none
  | .call f args, ρ, st => match evL args ρ st with
    | some (ds, ρ, st) => match cf f ds st with
      | some (d, fr, st) => some (d, fr, ρ, st)
      | none => none
    | none => none
  | .callK f pm args, ρ, st => match evL args ρ st with
    | some (ds, ρ, st) => match cf f (pickV .non pm ds) st with
      | some (d, fr, st) => some (d, fr, ρ, st)
      | none => none
    | none => none
  | .callv i args, ρ, st => match ρ[i]? with
    | some (.val (.fn f)) => match evL args ρ st with
      | some (ds, ρ, st) => match cf f ds st with
        | some (d, fr, st) => some (d, fr, ρ, st)
        | none => none
      | none => none
    | _ => none
  | .blt b args, ρ, st => match evL args ρ st with
    | some (ds, ρ, st) => match bltD b ds with
      | some (d, fr) => some (d, fr, ρ, st)
      | none => none
    | none => none
  | .lenO i, ρ, st => match slotD ρ st i with
    | some d => match lenD d with
      | some n => some (.int n, false, ρ, st)
      | none => none
    | none => none
  | .mth m a args, ρ, st => match evE a ρ st with
    | some (x, _, ρ, st) => match evL args ρ st with
      | some (ds, ρ, st) => match mthD m x ds with
        | some (d, fr) => some (d, fr, ρ, st)
        | none => none
      | none => none
    | none => none
  | .mthO m i args, ρ, st => match slotD ρ st i with
    | none => none
    | some _ => match evL args ρ st with
      | some (ds, ρ, st) => match slotD ρ st i with
        | some x => match mthD m x ds with
          | some (d, fr) => some (d, fr, ρ, st)
          | none => none
        | none => none
      | none => none
  | .popO i args, ρ, st => match slotD ρ st i with
    | none => none
    | some _ => match evL args ρ st with
      | some (ds, ρ, st) => match ownD ρ st i with
        | some c => match popD c ds with
          | some (d, c) => match setOwn ρ st i c with
            | some (ρ, st) => some (d, false, ρ, st)
            | none => none
          | none => none
        | none => none
      | none => none
  | .lenset es, ρ, st => match evL es ρ st with
    | some (ds, ρ, st) => match intsOf ds with
      | some l => if es.length ≤ 30 then some (.int (dedupI l).length, false, ρ, st) else none
      | none => none
    | none => none
  | .isi t a, ρ, st => match evE a ρ st with
    | some (x, _, ρ, st) => match isTy t x with
      | some b => some (.bl b, false, ρ, st)
      | none => none
    | none => none
  | .srtSet a, ρ, st => match evE a ρ st with
    | some (x, _, ρ, st) => match sortSetD x with
      | some (d, f) => some (d, f, ρ, st)
      | none => none
    | none => none
  | .lenSet a, ρ, st => match evE a ρ st with
    | some (x, _, ρ, st) => match lenSetD x with
      | some (d, f) => some (d, f, ρ, st)
      | none => none
    | none => none
  | .comp tg it ifs elt vars, ρ, st => match evE it ρ st with
    | some (x, _, ρ1, st) => match itemsD x with
      | some ds => match gath (fun d ρ st => match evT tg d (wipeS ρ vars) st with
          | some (ρ, st) => match evIfs ifs ρ st with
            | some (true, ρ, st) => match evE elt ρ st with
              | some (y, _, ρ, st) => some ([y], ρ, st)
              | none => none
            | some (false, ρ, st) => some ([], ρ, st)
            | none => none
          | none => none) ds ρ1 st with
        | some (ys, ρ2, st) => if ys.length ≤ lim then some (.lst ys, true, restS ρ1 ρ2 vars, st) else none
        | none => none
      | none => none
    | none => none
  | .comp2 tg it ifs tg' it' ifs' elt vars vars', ρ, st => match evE it ρ st with
    | some (x, _, ρ1, st) => match itemsD x with
      | some ds => match gath (fun d ρ st => match evT tg d (wipeS ρ vars) st with
          | some (ρ, st) => match evIfs ifs ρ st with
            | some (true, ρ, st) => match evE it' ρ st with
              | some (x', _, ρ, st) => match itemsD x' with
                | some ds' => gath (fun d' ρ st => match evT tg' d' (wipeS ρ vars') st with
                    | some (ρ, st) => match evIfs ifs' ρ st with
                      | some (true, ρ, st) => match evE elt ρ st with
                        | some (y, _, ρ, st) => some ([y], ρ, st)
                        | none => none
                      | some (false, ρ, st) => some ([], ρ, st)
                      | none => none
                    | none => none) ds' ρ st
                | none => none
              | none => none
            | some (false, ρ, st) => some ([], ρ, st)
            | none => none
          | none => none) ds ρ1 st with
        | some (ys, ρ2, st) => if ys.length ≤ lim then some (.lst ys, true, restS ρ1 ρ2 vars, st) else none
        | none => none
      | none => none
    | none => none
  | .rng args, ρ, st => match evL args ρ st with
    | some ([.int n], ρ, st) => if n ≤ lim ∧ -lim ≤ n then some (.lst ((List.range n.toNat).map fun (k : Nat) => D.int (k : Int)), true, ρ, st) else none
    | some ([.int m, .int n], ρ, st) => if -lim ≤ m ∧ m ≤ lim ∧ n - m ≤ lim ∧ n ≤ lim ∧ -lim ≤ n then some (.lst ((List.range (n - m).toNat).map fun (k : Nat) => D.int (m + (k : Int))), true, ρ, st) else none
    | _ => none
  | .zip a b, ρ, st => match evE a ρ st with
    | some (x, _, ρ, st) => match evE b ρ st with
      | some (y, _, ρ, st) => match seqD x, seqD y with
        | some xs, some ys => some (.lst ((xs.zip ys).map fun p => .tup [p.1, p.2]), true, ρ, st)
        | _, _ => none
      | none => none
    | none => none
  | .enu a, ρ, st => match evE a ρ st with
    | some (x, _, ρ, st) => match seqD x with
      | some xs => some (.lst (xs.zipIdx.map fun p => .tup [.int p.2, p.1]), true, ρ, st)
      | none => none
    | none => none
  | .comb a k, ρ, st => match evE a ρ st with
    | some (x, _, ρ, st) => match evE k ρ st with
      | some (.int n, _, ρ, st) => match itemsD x with
        | some xs => if 0 ≤ n then some (.lst ((combs n.toNat xs).map .tup), true, ρ, st) else none
        | none => none
      | _ => none
    | none => none
  | .items a, ρ, st => match evE a ρ st with
    | some (.dic ks vs, _, ρ, st) => some (.lst ((ks.zip vs).map fun p => .tup [p.1, p.2]), true, ρ, st)
    | _ => none
  | .itemsO i, ρ, st => match slotD ρ st i with
    | some (.dic ks vs) => some (.lst ((ks.zip vs).map fun p => .tup [p.1, p.2]), true, ρ, st)
    | _ => none
  | .it a, ρ, st => evE a ρ st
  | .lof s, ρ, st => match evE s ρ st with
    | some (.lst ds, _, ρ, st) => some (.lst ds, true, ρ, st)
    | _ => none
  | .tof s, ρ, st => match evE s ρ st with
    | some (.lst ds, _, ρ, st) => some (.tup ds, false, ρ, st)
    | _ => none
def evL : List E → Ss → St → Option (List D × Ss × St)
  | [], ρ, st => some ([], ρ, st)
  | .star e :: es, ρ, st => match evE e ρ st with
    | some (x, _, ρ, st) => match seqD x with
      | some ds => match evL es ρ st with
        | some (r, ρ, st) => some (ds ++ r, ρ, st)
        | none => none
      | none => none
    | none => none
  | e :: es, ρ, st => match evE e ρ st with
    | some (d, _, ρ, st) => match evL es ρ st with
      | some (ds, ρ, st) => some (d :: ds, ρ, st)
      | none => none
    | none => none
def evBop (k : Bool) : List E → Ss → St → Option (D × Bool × Ss × St)
  | [], _, _ => none
  | [e], ρ, st => evE e ρ st
  | e :: es, ρ, st => match evE e ρ st with
    | some (.bl b, _, ρ, st) => if b == k then evBop k es ρ st else some (.bl b, false, ρ, st)
    | _ => none
def evIfs : List E → Ss → St → Option (Bool × Ss × St)
  | [], ρ, st => some (true, ρ, st)
  | e :: es, ρ, st => match evE e ρ st with
    | some (.bl true, _, ρ, st) => evIfs es ρ st
    | some (.bl false, _, ρ, st) => some (false, ρ, st)
    | _ => none
/-- a value to a target -/
def evT : E → D → Ss → St → Option (Ss × St)
  | .var i, d, ρ, st => some (ρ.set i (.val d), st)
  | .tup ts, d, ρ, st => match d with
    | .tup ds => evTs ts ds ρ st
    | _ => none
  | .idxO i k, d, ρ, st => match slotD ρ st i with
    | none => none
    | some _ => match evE k ρ st with
      | some (x, _, ρ, st) => match ownD ρ st i with
        | some c => match putD c x d with
          | some c => setOwn ρ st i c
          | none => none
        | none => none
      | none => none
  | _, _, _, _ => none
def evTs : List E → List D → Ss → St → Option (Ss × St)
  | [], [], ρ, st => some (ρ, st)
  | t :: ts, d :: ds, ρ, st => match evT t d ρ st with
    | some (ρ, st) => evTs ts ds ρ st
    | none => none
  | _, _, _, _ => none
end

/-- values with the flags of new lists -/
def evF : List E → Ss → St → Option (List Sl × Ss × St)
  | [], ρ, st => some ([], ρ, st)
  | e :: es, ρ, st => match evE Γ cf e ρ st with
    | some (d, f, ρ, st) => match evF es ρ st with
      | some (ds, ρ, st) => some (slOf d f :: ds, ρ, st)
      | none => none
    | none => none
def setAll {α : Type} (ρ : List α) : List Nat → List α → List α
  | i :: is, s :: ss => setAll (ρ.set i s) is ss
  | _, _ => ρ

mutual
def evS : S → Ss → St → Option (Fl × Ss × St)
  | .set i e, ρ, st => match evE Γ cf e ρ st with
    | some (d, f, ρ, st) => some (.nx, ρ.set i (slOf d f), st)
    | none => none
  | .tset tg e, ρ, st => match evE Γ cf e ρ st with
    | some (d, _, ρ, st) => match evT Γ cf tg d ρ st with
      | some (ρ, st) => some (.nx, ρ, st)
      | none => none
    | none => none
  | .par is es, ρ, st => match evF Γ cf es ρ st with
    | some (ss, ρ, st) => if ss.length = is.length then some (.nx, setAll ρ is ss, st) else none
    | none => none
  | .setIx i k v, ρ, st => match evE Γ cf v ρ st with
    | some (x, _, ρ, st) => match evE Γ cf k ρ st with
      | some (y, _, ρ, st) => match ownD ρ st i with
        | some c => match putD c y x with
          | some c => match setOwn ρ st i c with
            | some (ρ, st) => some (.nx, ρ, st)
            | none => none
          | none => none
        | none => none
      | none => none
    | none => none
  | .app i e, ρ, st => match ownD ρ st i with
    | some (.lst _) => match evE Γ cf e ρ st with
      | some (x, _, ρ, st) => match ownD ρ st i with
        | some (.lst ds) => if ds.length < lim then (match setOwn ρ st i (.lst (ds ++ [x])) with
          | some (ρ, st) => some (.nx, ρ, st)
          | none => none) else none
        | _ => none
      | none => none
    | _ => none
  | .ext _ _, _, _ => none
  | .upd _ _, _, _ => none
  | .expr e, ρ, st => match evE Γ cf e ρ st with
    | some (_, _, ρ, st) => some (.nx, ρ, st)
    | none => none
  | .ret e, ρ, st => match evE Γ cf e ρ st with
    | some (d, f, ρ, st) => some (.rt d f, ρ, st)
    | none => none
  | .retN, ρ, st => some (.rt .non false, ρ, st)
  | .ife c a b, ρ, st => match evE Γ cf c ρ st with
    | some (.bl true, _, ρ, st) => evB a ρ st
    | some (.bl false, _, ρ, st) => evB b ρ st
    | _ => none
  | .for_ tg it body, ρ, st => match evE Γ cf it ρ st with
    | some (x, _, ρ, st) => match itemsD x with
      | some ds => turns (fun d ρ st => match evT Γ cf tg d ρ st with
        | some (ρ, st) => evB body ρ st
        | none => none) ds ρ st
      | none => none
    | none => none
  | .while_ c body, ρ, st => whileL (fun ρ st => match evE Γ cf c ρ st with
      | some (.bl b, _, ρ, st) => some (b, ρ, st)
      | _ => none) (fun ρ st => evB body ρ st) Γ.W ρ st
  | .never, _, _ => none
  | .pass, ρ, st => some (.nx, ρ, st)
  | .brk, ρ, st => some (.bk, ρ, st)
def evB : List S → Ss → St → Option (Fl × Ss × St)
  | [], ρ, st => some (.nx, ρ, st)
  | s :: ss, ρ, st => match evS s ρ st with
    | some (.nx, ρ, st) => evB ss ρ st
    | some (.rt d f, ρ, st) => some (.rt d f, ρ, st)
    | some (.bk, ρ, st) => some (.bk, ρ, st)
    | none => none
end
end

/-- a def called, the depth below n -/
def cfN (Γ : Tab) : Nat → Str → List D → St → Option (D × Bool × St)
  | 0, _, _, _ => none
  | n + 1, f, args, st => match Γ.fns f with
    | some fn => if args.length = fn.ps.length then
        match evB Γ (cfN Γ n) fn.body (args.map .val ++ List.replicate (fn.ns - fn.ps.length) .un) st with
        | some (.rt d fr, _, st) => some (d, fr, st)
        | some (.nx, _, st) => some (.non, false, st)
        | _ => none
      else none
    | none => none
end Rv

set_option Elab.async false
set_option linter.all false
set_option maxRecDepth 100000
set_option maxHeartbeats 4000000
/-! Sorted lists of ints, of tuples of ints: by putting each where it belongs. -/
namespace Rv
open PySem PySem.Spec PyProof.Rows L2
theorem lt_int (i j : Int) : ltD (.int i) (.int j) = decide (i < j) := by
  unfold ltD tokD
  simp only [py, PySem.W.keyToks, PyProof.Rows.lexLt, PyProof.Rows.itemOrd, PyProof.Rows.itemLt]
  by_cases h : i < j
  · simp [h]
  · by_cases h2 : j < i
    · simp [h, h2]
    · simp [h, h2]
theorem sortM_ints (l : List Int) : sortM (l.map .int) = some ((l.mergeSort fun a b => decide (a ≤ b)).map .int) := by
  have h1 : sortable (l.map D.int) = true := by
    unfold sortable
    simp only [List.all_map, Bool.and_eq_true, Bool.or_eq_true, List.all_eq_true]
    refine ⟨⟨fun x _ => rfl, fun x _ => List.all_eq_true.mpr fun y _ => rfl⟩, .inr fun x _ => rfl⟩
  unfold sortM
  rw [if_pos h1]
  congr 1
  rw [List.map_mergeSort]
  intro a _ b _
  show decide (a ≤ b) = !ltD (.int b) (.int a)
  rw [lt_int]
  by_cases h : a ≤ b
  · simp [h]
  · simp [h]
    omega
theorem toks_ints : ∀ r s : List Int, PyProof.Rows.lexLt PyProof.Rows.itemOrd (PySem.W.keyToksAll (pys (r.map D.int))) (PySem.W.keyToksAll (pys (s.map D.int))) = ltL r s
  | [], [] => by simp [pys, PySem.W.keyToksAll, PyProof.Rows.lexLt, PyProof.Rows.itemLt, ltL]
  | [], _ :: _ => by simp [pys, py, PySem.W.keyToksAll, PyProof.Rows.lexLt, PyProof.Rows.itemLt, ltL]
  | _ :: _, [] => by simp [pys, py, PySem.W.keyToksAll, PyProof.Rows.lexLt, PyProof.Rows.itemLt, ltL]
  | a :: r, b :: s => by
    have ih := toks_ints r s
    simp only [List.map_cons, pys, py, PySem.W.keyToksAll, PySem.W.keyToks, List.cons_append, List.nil_append, PyProof.Rows.lexLt, PyProof.Rows.itemLt, ltL, ih]
    by_cases h : a < b
    · simp [h]
    · by_cases h2 : b < a
      · have : a ≠ b := by omega
        simp [h, h2, this]
      · have : a = b := by omega
        simp [this]
theorem lt_tup (r s : List Int) : ltD (tupZ r) (tupZ s) = ltL r s := by
  unfold ltD tokD tupZ
  simp only [py, PySem.W.keyToks]
  exact toks_ints r s
theorem alike_ints : ∀ r s : List Int, PySem.W.alikeAll (pys (r.map D.int)) (pys (s.map D.int)) = true
  | [], s => by simp [pys, PySem.W.alikeAll]
  | _ :: _, [] => by simp [pys, PySem.W.alikeAll]
  | a :: r, b :: s => by
    simp only [List.map_cons, pys, py, PySem.W.alikeAll, PySem.W.alike, alike_ints r s, Bool.and_self]
theorem sortM_tups (l : List (List Int)) (h : ∀ k ∈ l, k ≠ []) : sortM (l.map tupZ) = some ((l.mergeSort fun a b => !ltL b a).map tupZ) := by
  have h1 : sortable (l.map tupZ) = true := by
    unfold sortable
    simp only [List.all_map, Bool.and_eq_true, Bool.or_eq_true, List.all_eq_true]
    refine ⟨⟨fun x _ => ?_, fun x _ => List.all_eq_true.mpr fun y _ => ?_⟩, .inl fun x hx => ?_⟩
    · show okD 20 (.tup (x.map .int)) = true
      simp only [okD, List.all_map, List.all_eq_true]
      exact fun _ _ => rfl
    · show PySem.W.alike (py (tupZ x)) (py (tupZ y)) = true
      simp only [tupZ, py, PySem.W.alike]
      exact alike_ints x y
    · cases x with
      | nil => exact absurd rfl (h [] hx)
      | cons a r => rfl
  unfold sortM
  rw [if_pos h1]
  congr 1
  rw [List.map_mergeSort]
  intro a _ b _
  show (!ltL b a) = !ltD (tupZ b) (tupZ a)
  rw [lt_tup]
theorem insG_at {α : Type} {le : α → α → Bool} {a : α} : ∀ {l1 l2 : List α}, (∀ b ∈ l1, (!le a b) = true) → (∀ b ∈ l2, le a b = true) → insG le a (l1 ++ l2) = l1 ++ a :: l2
  | [], [], _, _ => rfl
  | [], b :: r, _, h => by
    simp only [List.nil_append, insG]
    rw [if_pos (h b (by simp))]
  | c :: l1, l2, h1, h2 => by
    have := h1 c (by simp)
    simp only [List.cons_append, insG]
    rw [if_neg (by simpa using this), insG_at (fun b hb => h1 b (by simp [hb])) h2]
theorem isort_merge {α : Type} {le : α → α → Bool} (tr : ∀ a b c : α, le a b = true → le b c = true → le a c = true) (to : ∀ a b : α, (le a b || le b a) = true) : ∀ l : List α, l.mergeSort le = isort le l
  | [] => by simp [isort]
  | a :: r => by
    obtain ⟨l1, l2, e1, e2, h⟩ := List.mergeSort_cons tr to a r
    have hs := List.pairwise_mergeSort tr to (a :: r)
    rw [e1] at hs
    have h2 : ∀ b ∈ l2, le a b = true := by
      have := (List.pairwise_append.mp hs).2.1
      exact fun b hb => (List.pairwise_cons.mp this).1 b hb
    rw [e1, isort, ← isort_merge tr to r, e2, insG_at h h2]
theorem ltL_irS : ∀ a : List Int, ltL a a = false
  | [] => rfl
  | a :: r => by simp [ltL, ltL_irS r]
theorem ltL_neg : ∀ a b c : List Int, ltL a c = true → ltL a b = true ∨ ltL b c = true
  | [], [], c, h => .inr h
  | [], b :: s, [], h => by simp [ltL] at h
  | [], b :: s, c :: t, h => .inl (by simp [ltL])
  | a :: r, b, [], h => by simp [ltL] at h
  | a :: r, [], c :: t, h => .inr (by simp [ltL])
  | a :: r, b :: s, c :: t, h => by
    simp only [ltL, Bool.or_eq_true, Bool.and_eq_true, decide_eq_true_eq] at h ⊢
    rcases h with h | ⟨rfl, h⟩
    · by_cases h1 : a < b
      · exact .inl (.inl h1)
      · exact .inr (.inl (by omega))
    · by_cases h1 : a < b
      · exact .inl (.inl h1)
      · by_cases h2 : b < a
        · exact .inr (.inl h2)
        · have : a = b := by omega
          subst this
          rcases ltL_neg r s t h with h | h
          · exact .inl (.inr ⟨rfl, h⟩)
          · exact .inr (.inr ⟨rfl, h⟩)
theorem ltL_tr (a b c : List Int) (h1 : (!ltL b a) = true) (h2 : (!ltL c b) = true) : (!ltL c a) = true := by
  cases h : ltL c a with
  | false => rfl
  | true =>
    rcases ltL_neg c b a h with q | q
    · simp [q] at h2
    · simp [q] at h1
theorem ltL_as : ∀ x y : List Int, ltL x y = true → ltL y x = true → False
  | [], y, h1, h2 => by cases y <;> simp [ltL] at h1 h2
  | u :: r, [], h1, h2 => by simp [ltL] at h1
  | u :: r, v :: s, h1, h2 => by
    simp only [ltL, Bool.or_eq_true, Bool.and_eq_true, decide_eq_true_eq] at h1 h2
    rcases h1 with h1 | ⟨rfl, h1⟩
    · rcases h2 with h2 | ⟨e, h2⟩ <;> omega
    · rcases h2 with h2 | ⟨e, h2⟩
      · omega
      · exact ltL_as r s h1 h2
theorem ltL_to (a b : List Int) : ((!ltL b a) || (!ltL a b)) = true := by
  cases h : ltL b a with
  | false => rfl
  | true =>
    cases h2 : ltL a b with
    | false => rfl
    | true => exact (ltL_as a b h2 h).elim
theorem sortInt_eq (l : List Int) : l.mergeSort (fun a b => decide (a ≤ b)) = isort (fun a b => decide (a ≤ b)) l :=
  isort_merge (fun a b c h1 h2 => by simp at *; omega) (fun a b => by simp; omega) l
theorem sortTup_eq (l : List (List Int)) : l.mergeSort (fun a b => !ltL b a) = isort (fun a b => !ltL b a) l := isort_merge ltL_tr ltL_to l
theorem intsOf_eq : ∀ {ds : List D} {l : List Int}, intsOf ds = some l → ds = l.map .int
  | [], l, h => by simp [intsOf] at h; subst h; rfl
  | d :: ds, l, h => by
    cases d <;> simp [intsOf] at h
    obtain ⟨r, h1, rfl⟩ := h
    rw [intsOf_eq h1]
    rfl
theorem tupsI_eq' : ∀ {ds : List D} {l : List (List Int)}, tupsI ds = some l → ds = l.map tupZ
  | [], l, h => by simp [tupsI] at h; subst h; rfl
  | d :: ds, l, h => by
    simp only [tupsI] at h
    split at h
    · rename_i k e
      obtain ⟨r, h1, rfl⟩ := Option.map_eq_some_iff.mp h
      rw [tupsI_eq' h1]
      cases d <;> simp [tupI] at e
      rw [intsOf_eq e]
      rfl
    · cases h
theorem sortD_M {ds out : List D} (h : sortD ds = some out) : sortM ds = some out := by
  unfold sortD at h
  split at h
  · rename_i l e
    rw [intsOf_eq e, sortM_ints, sortInt_eq]
    exact h
  · split at h
    · rename_i ks e
      split at h
      · rename_i hk
        rw [tupsI_eq' e, sortM_tups _ (fun k hk' hn => by
          have := List.all_eq_true.mp hk k hk'
          subst hn
          simp at this), sortTup_eq]
        exact h
      · exact h
    · exact h
end Rv

set_option Elab.async false
set_option linter.all false
set_option maxRecDepth 100000
set_option maxHeartbeats 4000000
/-! What the values of the small language stand for in the layer's heap. -/
namespace Rv
open PySem PySem.Spec PyProof.Rows L2

structure Gh where
  P : Program
  w : World
  K : PySem.W.Frag
  mg : PySem.Str → Option Value

mutual
def nkey : D → NestedKey
  | .non => .none
  | .bl b => .num (b2i b)
  | .int i => .num i
  | .str s => .text s
  | .tup ds => .tup (nkeys ds)
  | .lst _ => .none
  | .dic _ _ => .none
  | .ref _ => .none
  | .fn _ => .none
def nkeys : List D → List NestedKey
  | [] => []
  | d :: ds => nkey d :: nkeys ds
end

section
variable (g : Gh)
/-- at a stands a dict: its keys ks (as data), kv (as values), its values ws -/
def DHold (H : Hp) (a : Addr) (ks : List D) (kv ws : List V) : Prop :=
  ∃ keys : List Key, kv = keys.map kV ∧ keys.length = ws.length ∧ H a = some (.dK (keys.zip ws))

/-- ints alone -/
def intsB (ds : List D) : Bool := ds.all fun | .int _ => true | _ => false
/-- a list that is never changed -/
def SqF (F : Addr → Prop) (H : Hp) (a : Addr) (vs : List V) : Prop := (F a ∧ Rd H a (.lst vs)) ∨
  ∃ (o : Obj) (its : Array Value) (n : Nat), g.K.lookup a = some o ∧ o.cls = .type "list" ∧ o.dict = none ∧ o.data = .seq its n ∧ its.size ≤ sizeLine ∧ Vals vs its.toList

mutual
def RelD (F : Addr → Prop) (μ : List Addr) (H : Hp) : D → V → Prop
  | .non, v => v = .non
  | .bl b, v => v = .bl b
  | .int i, v => v = .int i
  | .str s, v => v = .str s
  | .tup ds, v => ∃ a vs, v = .ref a ∧ (SqT g.K H a vs ∧ (intsB ds = true → H a = some (.tup vs))) ∧ RelDs F μ H ds vs
  | .lst ds, v => ∃ a vs, v = .ref a ∧ SqF g F H a vs ∧ RelDs F μ H ds vs
  | .dic ks vs, v => ∃ a kv ws, v = .ref a ∧ F a ∧ RelDs F μ H ks kv ∧ RelDs F μ H vs ws ∧ DHold H a ks kv ws
  | .ref h, v => ∃ a, v = .ref a ∧ μ[h]? = some a
  | .fn x, v => ∃ a, v = .ref a ∧ g.mg x = some (.ref a)
def RelDs (F : Addr → Prop) (μ : List Addr) (H : Hp) : List D → List V → Prop
  | [], vs => vs = []
  | d :: ds, vs => ∃ v r, vs = v :: r ∧ RelD F μ H d v ∧ RelDs F μ H ds r
end

/-- the content of an object that may be changed -/
def ContR (F : Addr → Prop) (μ : List Addr) (H : Hp) (a : Addr) (d : D) : Prop :=
  match d with
  | .lst ds => ∃ vs, H a = some (.lst vs) ∧ RelDs g F μ H ds vs
  | .dic ks vs => ∃ kv ws, RelDs g F μ H ks kv ∧ RelDs g F μ H vs ws ∧ DHold H a ks kv ws
  | _ => False

/-- what may happen to a heap -/
structure Ext (Z : Addr → Prop) (F : Addr → Prop) (μ : List Addr) (H : Hp) (F' : Addr → Prop) (μ' : List Addr) (H' : Hp) : Prop where
  z : ∀ a, Z a → H' a = H a
  zf : ∀ a, Z a → F' a → F a
  f : ∀ a, F a → F' a ∧ H' a = H a
  t : ∀ a xs, H a = some (.tup xs) → H' a = some (.tup xs)
  frz : ∀ a o u, H a = some (.frz o u) → H' a = some (.frz o u)
  m : ∃ more, μ' = μ ++ more

/-- the state -/
structure R (Z F : Addr → Prop) (μ : List Addr) (ρ : Ss) (st : List D) (σ : L2.St) (H : Hp) : Prop where
  len : ρ.length = σ.length
  val : ∀ (i : Nat) d, ρ[i]? = some (.val d) → ∃ v, σ[i]? = some (some v) ∧ RelD g F μ H d v
  own : ∀ (i : Nat) d, ρ[i]? = some (.own d) → ∃ a, σ[i]? = some (some (.ref a)) ∧ ContR g F μ H a d ∧ ¬F a ∧ ¬Z a ∧ a ∉ μ
  apart : ∀ (i j : Nat) d e a, ρ[i]? = some (.own d) → ρ[j]? = some (.own e) → σ[i]? = some (some (.ref a)) → σ[j]? = some (some (.ref a)) → i = j
  sto : ∀ (h : Nat) d, st[h]? = some d → ∃ a, μ[h]? = some a ∧ ContR g F μ H a d
  stl : μ.length = st.length
  nd : μ.Nodup
  mo : ∀ a ∈ μ, ¬F a ∧ ¬Z a
  fd : ∀ a, F a → H a ≠ none
  zd : ∀ a, Z a → H a ≠ none

/-- a result: a value, or a new list or dict that nobody holds yet -/
def VR (Z F : Addr → Prop) (μ : List Addr) (ρ : Ss) (σ : L2.St) (H : Hp) (f : Bool) (d : D) (v : V) : Prop :=
  ((f && isCont d) = false ∧ RelD g F μ H d v) ∨
  ((f && isCont d) = true ∧ ∃ p, v = .ref p ∧ ContR g F μ H p d ∧ ¬F p ∧ ¬Z p ∧ p ∉ μ ∧ ∀ (i : Nat) e, ρ[i]? = some (.own e) → σ[i]? ≠ some (some (.ref p)))
end

section
variable {g : Gh} {Z F F' F2 : Addr → Prop} {μ μ' μ2 : List Addr} {H H' H2 : Hp} {ρ : Ss} {st : List D} {σ : L2.St}

theorem Ext.refl : Ext Z F μ H F μ H := ⟨fun _ _ => rfl, fun _ _ h => h, fun _ h => ⟨h, rfl⟩, fun _ _ h => h, fun _ _ _ h => h, [], by simp⟩
theorem Ext.trans (a : Ext Z F μ H F' μ' H') (b : Ext Z F' μ' H' F2 μ2 H2) : Ext Z F μ H F2 μ2 H2 where
  z := fun x h => (b.z x h).trans (a.z x h)
  zf := fun x h q => a.zf x h (b.zf x h q)
  f := fun x h => ⟨(b.f x (a.f x h).1).1, (b.f x (a.f x h).1).2.trans (a.f x h).2⟩
  t := fun x xs h => b.t x xs (a.t x xs h)
  frz := fun x o u h => b.frz x o u (a.frz x o u h)
  m := by
    obtain ⟨m1, e1⟩ := a.m
    obtain ⟨m2, e2⟩ := b.m
    exact ⟨m1 ++ m2, by rw [e2, e1, List.append_assoc]⟩

theorem Ext.sqT (x : Ext Z F μ H F' μ' H') {a : Addr} {vs : List V} (h : SqT g.K H a vs) : SqT g.K H' a vs := by
  rcases h with (h | ⟨o, h⟩) | h
  · exact .inl (.inl (x.t _ _ h))
  · exact .inl (.inr ⟨o, x.frz _ _ _ h⟩)
  · exact .inr h
theorem Ext.sqF (x : Ext Z F μ H F' μ' H') {a : Addr} {vs : List V} (h : SqF g F H a vs) : SqF g F' H' a vs := by
  rcases h with ⟨hf, h | ⟨o, h⟩⟩ | h
  · exact .inl ⟨(x.f _ hf).1, .inl (by rw [(x.f _ hf).2]; exact h)⟩
  · exact .inl ⟨(x.f _ hf).1, .inr ⟨o, by rw [(x.f _ hf).2]; exact h⟩⟩
  · exact .inr h
theorem DHold.at {a : Addr} {ks : List D} {kv ws : List V} (h : DHold H a ks kv ws) (e : H' a = H a) : DHold H' a ks kv ws := by
  unfold DHold at h ⊢
  rw [e]
  exact h
theorem SqF.sql {a : Addr} {vs : List V} (h : SqF g F H a vs) : SqL g.K H a vs := h.elim (fun z => .inl z.2) .inr

mutual
theorem RelD.ext (x : Ext Z F μ H F' μ' H') : ∀ (d : D) (v : V), RelD g F μ H d v → RelD g F' μ' H' d v
  | .non, v, h => by simpa only [RelD] using h
  | .bl b, v, h => by simpa only [RelD] using h
  | .int i, v, h => by simpa only [RelD] using h
  | .str s, v, h => by simpa only [RelD] using h
  | .tup ds, v, h => by
    simp only [RelD] at h ⊢
    obtain ⟨a, vs, e, h1, h2⟩ := h
    exact ⟨a, vs, e, ⟨x.sqT h1.1, fun q => x.t _ _ (h1.2 q)⟩, RelDs.ext x ds vs h2⟩
  | .lst ds, v, h => by
    simp only [RelD] at h ⊢
    obtain ⟨a, vs, e, h1, h2⟩ := h
    exact ⟨a, vs, e, x.sqF h1, RelDs.ext x ds vs h2⟩
  | .dic ks vs, v, h => by
    simp only [RelD] at h ⊢
    obtain ⟨a, kv, ws, e, h1, h2, h3, h4⟩ := h
    exact ⟨a, kv, ws, e, (x.f _ h1).1, RelDs.ext x ks kv h2, RelDs.ext x vs ws h3, h4.at (x.f _ h1).2⟩
  | .ref n, v, h => by
    simp only [RelD] at h ⊢
    obtain ⟨a, e, h1⟩ := h
    obtain ⟨m, em⟩ := x.m
    refine ⟨a, e, ?_⟩
    rw [em, List.getElem?_append_left (by obtain ⟨q, _⟩ := List.getElem?_eq_some_iff.mp h1; exact q)]
    exact h1
  | .fn n, v, h => by simpa only [RelD] using h
theorem RelDs.ext (x : Ext Z F μ H F' μ' H') : ∀ (ds : List D) (vs : List V), RelDs g F μ H ds vs → RelDs g F' μ' H' ds vs
  | [], vs, h => by simpa only [RelDs] using h
  | d :: ds, vs, h => by
    simp only [RelDs] at h ⊢
    obtain ⟨v, r, e, h1, h2⟩ := h
    exact ⟨v, r, e, RelD.ext x d v h1, RelDs.ext x ds r h2⟩
end

theorem RelDs.length : ∀ {ds : List D} {vs : List V}, RelDs g F μ H ds vs → ds.length = vs.length
  | [], vs, h => by simp only [RelDs] at h; subst h; rfl
  | d :: ds, vs, h => by
    simp only [RelDs] at h
    obtain ⟨v, r, rfl, _, h2⟩ := h
    simp [RelDs.length h2]
theorem RelDs.get : ∀ {ds : List D} {vs : List V} {i : Nat} {d : D}, RelDs g F μ H ds vs → ds[i]? = some d → ∃ v, vs[i]? = some v ∧ RelD g F μ H d v
  | [], _, _, _, _, e => by simp at e
  | x :: ds, vs, 0, d, h, e => by
    simp only [RelDs] at h
    obtain ⟨v, r, rfl, h1, _⟩ := h
    simp at e
    subst e
    exact ⟨v, rfl, h1⟩
  | x :: ds, vs, i + 1, d, h, e => by
    simp only [RelDs] at h
    obtain ⟨v, r, rfl, _, h2⟩ := h
    obtain ⟨u, e1, e2⟩ := RelDs.get (i := i) h2 (by simpa using e)
    exact ⟨u, by simpa using e1, e2⟩
theorem RelDs.get' : ∀ {ds : List D} {vs : List V} {i : Nat} {v : V}, RelDs g F μ H ds vs → vs[i]? = some v → ∃ d, ds[i]? = some d ∧ RelD g F μ H d v
  | [], _, _, _, h, e => by simp only [RelDs] at h; subst h; simp at e
  | x :: ds, vs, 0, v, h, e => by
    simp only [RelDs] at h
    obtain ⟨v', r, rfl, h1, _⟩ := h
    simp at e
    subst e
    exact ⟨x, rfl, h1⟩
  | x :: ds, vs, i + 1, v, h, e => by
    simp only [RelDs] at h
    obtain ⟨v', r, rfl, _, h2⟩ := h
    obtain ⟨u, e1, e2⟩ := RelDs.get' (i := i) h2 (by simpa using e)
    exact ⟨u, by simpa using e1, e2⟩
theorem RelDs.nil : RelDs g F μ H [] [] := by simp only [RelDs]
theorem RelDs.cons {d : D} {v : V} {ds : List D} {vs : List V} (h : RelD g F μ H d v) (t : RelDs g F μ H ds vs) : RelDs g F μ H (d :: ds) (v :: vs) := by
  simp only [RelDs]
  exact ⟨v, vs, rfl, h, t⟩
theorem RelDs.append : ∀ {ds es : List D} {vs ws : List V}, RelDs g F μ H ds vs → RelDs g F μ H es ws → RelDs g F μ H (ds ++ es) (vs ++ ws)
  | [], es, vs, ws, h, t => by simp only [RelDs] at h; subst h; exact t
  | d :: ds, es, vs, ws, h, t => by
    simp only [RelDs] at h
    obtain ⟨v, r, rfl, h1, h2⟩ := h
    exact RelDs.cons h1 (RelDs.append h2 t)
theorem RelDs.one {d : D} {v : V} (h : RelD g F μ H d v) : RelDs g F μ H [d] [v] := .cons h .nil
theorem RelDs.of_get : ∀ {ds : List D} {vs : List V}, ds.length = vs.length → (∀ (i : Nat) d v, ds[i]? = some d → vs[i]? = some v → RelD g F μ H d v) → RelDs g F μ H ds vs
  | [], [], _, _ => .nil
  | [], _ :: _, e, _ => by simp at e
  | _ :: _, [], e, _ => by simp at e
  | d :: ds, v :: vs, e, h => .cons (h 0 d v rfl rfl) (RelDs.of_get (by simpa using e) fun i d' v' e1 e2 => h (i + 1) d' v' (by simpa using e1) (by simpa using e2))
theorem RelDs.take : ∀ {ds : List D} {vs : List V} (n : Nat), RelDs g F μ H ds vs → RelDs g F μ H (ds.take n) (vs.take n)
  | _, _, 0, _ => by simpa using RelDs.nil
  | [], vs, n + 1, h => by simp only [RelDs] at h; subst h; exact .nil
  | d :: ds, vs, n + 1, h => by
    simp only [RelDs] at h
    obtain ⟨v, r, rfl, h1, h2⟩ := h
    exact .cons h1 (RelDs.take n h2)
theorem RelDs.drop : ∀ {ds : List D} {vs : List V} (n : Nat), RelDs g F μ H ds vs → RelDs g F μ H (ds.drop n) (vs.drop n)
  | _, _, 0, h => by simpa using h
  | [], vs, n + 1, h => by simp only [RelDs] at h; subst h; exact .nil
  | d :: ds, vs, n + 1, h => by
    simp only [RelDs] at h
    obtain ⟨v, r, rfl, h1, h2⟩ := h
    exact RelDs.drop n h2
theorem RelDs.reverse : ∀ {ds : List D} {vs : List V}, RelDs g F μ H ds vs → RelDs g F μ H ds.reverse vs.reverse
  | [], vs, h => by simp only [RelDs] at h; subst h; exact .nil
  | d :: ds, vs, h => by
    simp only [RelDs] at h
    obtain ⟨v, r, rfl, h1, h2⟩ := h
    rw [List.reverse_cons, List.reverse_cons]
    exact RelDs.append (RelDs.reverse h2) (.one h1)
theorem RelDs.set {d : D} {v : V} (h : RelD g F μ H d v) : ∀ {ds : List D} {vs : List V} (i : Nat), RelDs g F μ H ds vs → RelDs g F μ H (ds.set i d) (vs.set i v)
  | [], vs, i, h => by simp only [RelDs] at h; subst h; exact .nil
  | x :: ds, vs, 0, h' => by
    simp only [RelDs] at h'
    obtain ⟨v', r, rfl, h1, h2⟩ := h'
    exact .cons h h2
  | x :: ds, vs, i + 1, h' => by
    simp only [RelDs] at h'
    obtain ⟨v', r, rfl, h1, h2⟩ := h'
    exact .cons h1 (RelDs.set h i h2)

theorem ContR.ext (x : Ext Z F μ H F' μ' H') {a : Addr} {d : D} (h : ContR g F μ H a d) (e : H' a = H a) : ContR g F' μ' H' a d := by
  unfold ContR at h ⊢
  split at h
  · obtain ⟨vs, h1, h2⟩ := h
    exact ⟨vs, by rw [e]; exact h1, h2.ext x _ _⟩
  · obtain ⟨kv, ws, h1, h2, h3⟩ := h
    exact ⟨kv, ws, h1.ext x _ _, h2.ext x _ _, h3.at e⟩
  · exact h
theorem DHold.some {a : Addr} {ks : List D} {kv ws : List V} (h : DHold H a ks kv ws) : H a ≠ none ∧ (∀ xs, H a ≠ some (.tup xs)) ∧ (∀ o u, H a ≠ some (.frz o u)) ∧ Mut (H a) := by
  obtain ⟨_, _, _, e⟩ := h
  rw [e]
  exact ⟨by simp, by simp, by simp, trivial⟩
theorem ContR.some {a : Addr} {d : D} (h : ContR g F μ H a d) : H a ≠ none ∧ (∀ xs, H a ≠ some (.tup xs)) ∧ (∀ o u, H a ≠ some (.frz o u)) ∧ Mut (H a) := by
  unfold ContR at h
  split at h
  · obtain ⟨vs, h1, _⟩ := h
    rw [h1]
    exact ⟨by simp, by simp, by simp, trivial⟩
  · obtain ⟨_, _, _, _, h⟩ := h
    exact h.some
  · exact h.elim
theorem ContR.cont {a : Addr} {d : D} (h : ContR g F μ H a d) : isCont d = true := by
  unfold ContR at h
  split at h
  · rfl
  · rfl
  · exact h.elim
/-- a content that is no longer changed is a value -/
theorem ContR.rel {a : Addr} {d : D} (h : ContR g F μ H a d) (hf : F a) : RelD g F μ H d (.ref a) := by
  unfold ContR at h
  split at h
  · obtain ⟨vs, h1, h2⟩ := h
    simp only [RelD]
    exact ⟨a, vs, rfl, .inl ⟨hf, .inl h1⟩, h2⟩
  · obtain ⟨kv, ws, h1, h2, h3⟩ := h
    simp only [RelD]
    exact ⟨a, kv, ws, rfl, hf, h1, h2, h3⟩
  · exact h.elim

/-- nothing of the state changes but heap, frozen zone and objects -/
theorem R.keep (r : R g Z F μ ρ st σ H) (x : Ext Z F μ H F' μ H') (ho : ∀ (i : Nat) d a, ρ[i]? = some (.own d) → σ[i]? = some (some (.ref a)) → H' a = H a ∧ ¬F' a)
    (hm : ∀ a ∈ μ, H' a = H a ∧ ¬F' a) (hfd : ∀ a, F' a → H' a ≠ none) : R g Z F' μ ρ st σ H' where
  len := r.len
  val := fun i d h => by
    obtain ⟨v, e, q⟩ := r.val i d h
    exact ⟨v, e, q.ext x _ _⟩
  own := fun i d h => by
    obtain ⟨a, e, q, nf, nz, nm⟩ := r.own i d h
    obtain ⟨h1, h2⟩ := ho i d a h e
    exact ⟨a, e, q.ext x h1, h2, nz, nm⟩
  apart := r.apart
  sto := fun h d e => by
    obtain ⟨a, e1, q⟩ := r.sto h d e
    exact ⟨a, e1, q.ext x (hm a (List.mem_of_getElem? e1)).1⟩
  stl := r.stl
  nd := r.nd
  mo := fun a h => ⟨(hm a h).2, (r.mo a h).2⟩
  fd := hfd
  zd := fun a h => by rw [x.z a h]; exact r.zd a h

/-- an address is frozen -/
def frzn (F : Addr → Prop) (p : Addr) : Addr → Prop := fun a => F a ∨ a = p
theorem Ext.freeze {p : Addr} (hz : ¬Z p) : Ext Z F μ H (frzn F p) μ H :=
  ⟨fun _ _ => rfl, fun a h q => q.elim id fun e => absurd (e ▸ h) hz, fun _ h => ⟨.inl h, rfl⟩, fun _ _ h => h, fun _ _ _ h => h, [], by simp⟩
theorem R.freeze {p : Addr} (r : R g Z F μ ρ st σ H) (hz : ¬Z p) (hm : p ∉ μ) (ho : ∀ (i : Nat) e, ρ[i]? = some (.own e) → σ[i]? ≠ some (some (.ref p))) (hp : H p ≠ none) : R g Z (frzn F p) μ ρ st σ H :=
  r.keep (Ext.freeze hz) (fun i d a e1 e2 => ⟨rfl, fun q => q.elim (fun z => by
      obtain ⟨a', e, _, nf, _⟩ := r.own i d e1
      rw [e] at e2
      cases e2
      exact nf z) fun e => ho i d e1 (e ▸ e2)⟩)
    (fun a h => ⟨rfl, fun q => q.elim (r.mo a h).1 fun e => hm (e ▸ h)⟩) fun a h => h.elim (r.fd a) fun e => e ▸ hp

/-- a result becomes a value -/
theorem VR.thaw {f : Bool} {d : D} {v : V} (r : R g Z F μ ρ st σ H) (h : VR g Z F μ ρ σ H f d v) : ∃ F', Ext Z F μ H F' μ H ∧ R g Z F' μ ρ st σ H ∧ RelD g F' μ H d v := by
  rcases h with ⟨_, h⟩ | ⟨_, p, rfl, h1, h2, h3, h4, h5⟩
  · exact ⟨F, .refl, r, h⟩
  · refine ⟨frzn F p, Ext.freeze h3, r.freeze h3 h4 h5 h1.some.1, ?_⟩
    exact (h1.ext (Ext.freeze h3) rfl).rel (.inr rfl)

/-- a new object -/
theorem Ext.laid {p : Addr} {o : HO} (hn : H p = none) (hz : ∀ a, Z a → H a ≠ none) (hf : ∀ a, F a → H a ≠ none) : Ext Z F μ H F μ (upd H p o) where
  z := fun a h => upd_ne fun e => hz a h (e ▸ hn)
  zf := fun _ _ h => h
  f := fun a h => ⟨h, upd_ne fun e => hf a h (e ▸ hn)⟩
  t := fun a xs h => by rw [upd_ne (ne_of_none h hn)]; exact h
  frz := fun a o u h => by rw [upd_ne (ne_of_none h hn)]; exact h
  m := ⟨[], by simp⟩
theorem R.laid {p : Addr} {o : HO} (r : R g Z F μ ρ st σ H) (hn : H p = none) : R g Z F μ ρ st σ (upd H p o) := by
  have ne : ∀ a, H a ≠ none → a ≠ p := fun a h e => h (e ▸ hn)
  refine r.keep (Ext.laid hn r.zd r.fd) (fun i d a e1 e2 => ?_) (fun a h => ?_) fun a h => by rw [upd_ne (ne a (r.fd a h))]; exact r.fd a h
  · obtain ⟨a', e, q, nf, _⟩ := r.own i d e1
    rw [e] at e2
    cases e2
    exact ⟨upd_ne (ne _ q.some.1), nf⟩
  · obtain ⟨h', e⟩ := List.mem_iff_getElem?.mp h
    have hl : h' < st.length := by
      rw [← r.stl]
      exact (List.getElem?_eq_some_iff.mp e).1
    obtain ⟨a', e', q⟩ := r.sto h' _ (List.getElem?_eq_getElem hl)
    rw [e] at e'
    cases e'
    exact ⟨upd_ne (ne _ q.some.1), (r.mo a h).1⟩

/-- how a primitive's result lies: a value of the heap as it is, or a new object -/
def Alc (g : Gh) (F : Addr → Prop) (μ : List Addr) (H : Hp) (d : D) (f : Bool) (v : V) (H' : Hp) : Prop :=
  (H' = H ∧ (f && isCont d) = false ∧ RelD g F μ H d v) ∨
  (∃ p vs ds, v = .ref p ∧ H p = none ∧ d = .tup ds ∧ H' = upd H p (.tup vs) ∧ RelDs g F μ H ds vs) ∨
  (∃ p vs ds, v = .ref p ∧ H p = none ∧ d = .lst ds ∧ f = true ∧ H' = upd H p (.lst vs) ∧ RelDs g F μ H ds vs)
theorem Alc.done {f : Bool} {d : D} {v : V} (r : R g Z F μ ρ st σ H) (h : Alc g F μ H d f v H') : Ext Z F μ H F μ H' ∧ R g Z F μ ρ st σ H' ∧ VR g Z F μ ρ σ H' f d v := by
  rcases h with ⟨rfl, h1, h2⟩ | ⟨p, vs, ds, rfl, hn, rfl, rfl, h1⟩ | ⟨p, vs, ds, rfl, hn, rfl, rfl, rfl, h1⟩
  · exact ⟨.refl, r, .inl ⟨h1, h2⟩⟩
  · refine ⟨Ext.laid hn r.zd r.fd, r.laid hn, .inl ⟨by cases f <;> rfl, ?_⟩⟩
    simp only [RelD]
    exact ⟨p, vs, rfl, ⟨.inl (.inl upd_same), fun _ => upd_same⟩, h1.ext (Ext.laid (Z := Z) hn r.zd r.fd) _ _⟩
  · refine ⟨Ext.laid hn r.zd r.fd, r.laid hn, .inr ⟨rfl, p, rfl, ⟨vs, upd_same, h1.ext (Ext.laid (Z := Z) hn r.zd r.fd) _ _⟩, fun z => r.fd p z hn, fun z => r.zd p z hn, fun z => ?_, fun i e q w => ?_⟩⟩
    · obtain ⟨h', e⟩ := List.mem_iff_getElem?.mp z
      have hl : h' < st.length := by
        rw [← r.stl]
        exact (List.getElem?_eq_some_iff.mp e).1
      obtain ⟨a', e', q⟩ := r.sto h' _ (List.getElem?_eq_getElem hl)
      rw [e] at e'
      cases e'
      exact q.some.1 hn
    · obtain ⟨a', e', q, _⟩ := r.own i e q
      rw [w] at e'
      cases e'
      exact q.some.1 hn
theorem Alc.val {d : D} {v : V} {f : Bool} (hf : (f && isCont d) = false) (h : RelD g F μ H d v) : Alc g F μ H d f v H := .inl ⟨rfl, hf, h⟩
end
end Rv

set_option Elab.async false
set_option linter.all false
set_option maxRecDepth 100000
set_option maxHeartbeats 4000000
/-! The operations on values, by the layer's rules. -/
namespace Rv
open PySem PySem.Spec PyProof.Rows L2

/-- what may be read as d -/
def RelC (g : Gh) (F : Addr → Prop) (μ : List Addr) (H : Hp) (d : D) (v : V) : Prop := RelD g F μ H d v ∨ ∃ a, v = .ref a ∧ ContR g F μ H a d
abbrev ghX (X : Cx) : Gh := ⟨X.prog, X.w, X.K, X.mg⟩

section
variable {g : Gh} {F : Addr → Prop} {μ : List Addr} {H : Hp} {v : V}
theorem RelC.int {i : Int} (h : RelC g F μ H (.int i) v) : v = .int i := by
  rcases h with h | ⟨_, _, h⟩
  · simpa only [RelD] using h
  · exact h.elim
theorem RelC.bl {b : Bool} (h : RelC g F μ H (.bl b) v) : v = .bl b := by
  rcases h with h | ⟨_, _, h⟩
  · simpa only [RelD] using h
  · exact h.elim
theorem RelC.str {s : Str} (h : RelC g F μ H (.str s) v) : v = .str s := by
  rcases h with h | ⟨_, _, h⟩
  · simpa only [RelD] using h
  · exact h.elim
theorem RelC.non (h : RelC g F μ H .non v) : v = .non := by
  rcases h with h | ⟨_, _, h⟩
  · simpa only [RelD] using h
  · exact h.elim
theorem RelC.lst {ds : List D} (h : RelC g F μ H (.lst ds) v) : ∃ a vs, v = .ref a ∧ SqL g.K H a vs ∧ RelDs g F μ H ds vs := by
  rcases h with h | ⟨a, rfl, h⟩
  · simp only [RelD] at h
    obtain ⟨a, vs, e, h1, h2⟩ := h
    exact ⟨a, vs, e, h1.sql, h2⟩
  · obtain ⟨vs, h1, h2⟩ := h
    exact ⟨a, vs, rfl, .inl (.inl h1), h2⟩
theorem RelC.tupH {ds : List D} (h : RelC g F μ H (.tup ds) v) : ∃ a vs, v = .ref a ∧ (SqT g.K H a vs ∧ (intsB ds = true → H a = some (.tup vs))) ∧ RelDs g F μ H ds vs := by
  rcases h with h | ⟨_, _, h⟩
  · simpa only [RelD] using h
  · exact h.elim
theorem RelC.tup {ds : List D} (h : RelC g F μ H (.tup ds) v) : ∃ a vs, v = .ref a ∧ SqT g.K H a vs ∧ RelDs g F μ H ds vs := by
  obtain ⟨a, vs, e, h1, h2⟩ := h.tupH
  exact ⟨a, vs, e, h1.1, h2⟩
theorem RelC.dic {ks ds : List D} (h : RelC g F μ H (.dic ks ds) v) : ∃ a kv ws, v = .ref a ∧ RelDs g F μ H ks kv ∧ RelDs g F μ H ds ws ∧ DHold H a ks kv ws := by
  rcases h with h | ⟨a, rfl, h⟩
  · simp only [RelD] at h
    obtain ⟨a, kv, ws, e, _, h1, h2, h3⟩ := h
    exact ⟨a, kv, ws, e, h1, h2, h3⟩
  · obtain ⟨kv, ws, h1, h2, h3⟩ := h
    exact ⟨a, kv, ws, rfl, h1, h2, h3⟩
theorem relInt {i : Int} : RelD g F μ H (.int i) (.int i) := by simp only [RelD]
theorem relBl {i : Bool} : RelD g F μ H (.bl i) (.bl i) := by simp only [RelD]
theorem relStr {i : Str} : RelD g F μ H (.str i) (.str i) := by simp only [RelD]
theorem relNon : RelD g F μ H .non .non := by simp only [RelD]

mutual
theorem dp_of : ∀ (n : Nat) (d : D) (v : V), okD n d = true → RelC g F μ H d v → Dp g.K H v (py d)
  | _, .non, v, _, h => by rw [h.non]; simp only [py]; exact .non
  | _, .bl b, v, _, h => by rw [h.bl]; simp only [py]; exact .bl b
  | _, .int b, v, _, h => by rw [h.int]; simp only [py]; exact .int b
  | _, .str b, v, _, h => by rw [h.str]; simp only [py]; exact .str b
  | 0, .tup _, _, o, _ => by simp [okD] at o
  | 0, .lst _, _, o, _ => by simp [okD] at o
  | n + 1, .tup ds, v, o, h => by
    obtain ⟨a, vs, rfl, h1, h2⟩ := h.tup
    simp only [py]
    refine .tup h1 (dps_of n ds vs ?_ h2)
    simpa [okD] using o
  | n + 1, .lst ds, v, o, h => by
    obtain ⟨a, vs, rfl, h1, h2⟩ := h.lst
    simp only [py]
    refine .lst h1 (dps_of n ds vs ?_ h2)
    simpa [okD] using o
  | n, .dic _ _, _, o, _ => by cases n <;> simp [okD] at o
  | n, .ref _, _, o, _ => by cases n <;> simp [okD] at o
  | n, .fn _, _, o, _ => by cases n <;> simp [okD] at o
theorem dps_of : ∀ (n : Nat) (ds : List D) (vs : List V), (∀ x ∈ ds, okD n x = true) → RelDs g F μ H ds vs → DpAll g.K H vs (pys ds)
  | _, [], vs, _, h => by
    simp only [RelDs] at h
    subst h
    simp only [pys]
    exact .nil
  | n, d :: ds, vs, o, h => by
    simp only [RelDs] at h
    obtain ⟨v, r, rfl, h1, h2⟩ := h
    simp only [pys]
    exact .cons (dp_of n d v (o d (by simp)) (.inl h1)) (dps_of n ds r (fun x hx => o x (by simp [hx])) h2)
end
end

mutual
theorem ok_plain : ∀ (n : Nat) (d : D), okD n d = true → (py d).plain = true
  | _, .non, _ => by simp [py, PyData.plain]
  | _, .bl b, _ => by simp [py, PyData.plain]
  | _, .int b, _ => by simp [py, PyData.plain]
  | _, .str b, _ => by simp [py, PyData.plain]
  | 0, .tup _, o => by simp [okD] at o
  | 0, .lst _, o => by simp [okD] at o
  | n + 1, .tup ds, o => by simp only [py, PyData.plain]; exact oks_plain n ds (by simpa [okD] using o)
  | n + 1, .lst ds, o => by simp only [py, PyData.plain]; exact oks_plain n ds (by simpa [okD] using o)
  | n, .dic _ _, o => by cases n <;> simp [okD] at o
  | n, .ref _, o => by cases n <;> simp [okD] at o
  | n, .fn _, o => by cases n <;> simp [okD] at o
theorem oks_plain : ∀ (n : Nat) (ds : List D), (∀ x ∈ ds, okD n x = true) → PyData.plainAll (pys ds) = true
  | _, [], _ => by simp [pys, PyData.plainAll]
  | n, d :: ds, o => by simp only [pys, PyData.plainAll, ok_plain n d (o d (by simp)), oks_plain n ds (fun x hx => o x (by simp [hx])), Bool.and_self]
end
mutual
theorem ok_depth : ∀ (n : Nat) (d : D), okD n d = true → (py d).depth ≤ n
  | _, .non, _ => by simp [py, PyData.depth]
  | _, .bl b, _ => by simp [py, PyData.depth]
  | _, .int b, _ => by simp [py, PyData.depth]
  | _, .str b, _ => by simp [py, PyData.depth]
  | 0, .tup _, o => by simp [okD] at o
  | 0, .lst _, o => by simp [okD] at o
  | n + 1, .tup ds, o => by
    have := oks_depth n ds (by simpa [okD] using o)
    simp only [py, PyData.depth]
    omega
  | n + 1, .lst ds, o => by
    have := oks_depth n ds (by simpa [okD] using o)
    simp only [py, PyData.depth]
    omega
  | n, .dic _ _, o => by cases n <;> simp [okD] at o
  | n, .ref _, o => by cases n <;> simp [okD] at o
  | n, .fn _, o => by cases n <;> simp [okD] at o
theorem oks_depth : ∀ (n : Nat) (ds : List D), (∀ x ∈ ds, okD n x = true) → PyData.depthAll (pys ds) ≤ n
  | _, [], _ => by simp [pys, PyData.depthAll]
  | n, d :: ds, o => by
    have h1 := ok_depth n d (o d (by simp))
    have h2 := oks_depth n ds (fun x hx => o x (by simp [hx]))
    simp only [pys, PyData.depthAll]
    omega
end
mutual
theorem eqv_py : ∀ (n : Nat) (a b : D), okD n a = true → ∀ m, okD m b = true → PyData.eqv (py a) (py b) = eqD a b
  | n, .non, b, _, m, ob => by cases b <;> first | (cases m <;> simp [okD] at ob; done) | simp [py, PyData.eqv, eqD]
  | n, .bl x, b, _, m, ob => by cases b <;> first | (cases m <;> simp [okD] at ob; done) | simp [py, PyData.eqv, eqD, b2i]
  | n, .int x, b, _, m, ob => by cases b <;> first | (cases m <;> simp [okD] at ob; done) | simp [py, PyData.eqv, eqD, b2i]
  | n, .str x, b, _, m, ob => by cases b <;> first | (cases m <;> simp [okD] at ob; done) | simp [py, PyData.eqv, eqD]
  | 0, .tup _, _, o, _, _ => by simp [okD] at o
  | 0, .lst _, _, o, _, _ => by simp [okD] at o
  | n + 1, .tup xs, b, oa, m, ob => by
    cases b with
    | tup ys =>
      cases m with
      | zero => simp [okD] at ob
      | succ m =>
        simp only [py, PyData.eqv, eqD]
        exact eqvs_py n xs ys (by simpa [okD] using oa) m (by simpa [okD] using ob)
    | _ => first | (cases m <;> simp [okD] at ob; done) | simp [py, PyData.eqv, eqD]
  | n + 1, .lst xs, b, oa, m, ob => by
    cases b with
    | lst ys =>
      cases m with
      | zero => simp [okD] at ob
      | succ m =>
        simp only [py, PyData.eqv, eqD]
        exact eqvs_py n xs ys (by simpa [okD] using oa) m (by simpa [okD] using ob)
    | _ => first | (cases m <;> simp [okD] at ob; done) | simp [py, PyData.eqv, eqD]
  | n, .dic _ _, _, o, _, _ => by cases n <;> simp [okD] at o
  | n, .ref _, _, o, _, _ => by cases n <;> simp [okD] at o
  | n, .fn _, _, o, _, _ => by cases n <;> simp [okD] at o
theorem eqvs_py : ∀ (n : Nat) (xs ys : List D), (∀ x ∈ xs, okD n x = true) → ∀ m, (∀ x ∈ ys, okD m x = true) → PyData.eqvAll (pys xs) (pys ys) = eqDs xs ys
  | _, [], ys, _, _, _ => by cases ys <;> simp [pys, PyData.eqvAll, eqDs]
  | n, x :: xs, ys, ox, m, oy => by
    cases ys with
    | nil => simp [pys, PyData.eqvAll, eqDs]
    | cons y ys =>
      simp only [pys, PyData.eqvAll, eqDs]
      rw [eqv_py n x y (ox x (by simp)) m (oy y (by simp)), eqvs_py n xs ys (fun z hz => ox z (by simp [hz])) m (fun z hz => oy z (by simp [hz]))]
end
theorem pys_map : ∀ ds : List D, pys ds = ds.map py
  | [] => by simp [pys]
  | d :: ds => by simp [pys, pys_map ds]
theorem all_ok {n : Nat} {ds : List D} (h : ds.all (okD n) = true) : ∀ x ∈ ds, okD n x = true := fun x hx => List.all_eq_true.mp h x hx
theorem any_py {n m : Nat} {ds : List D} {d : D} (h : ∀ x ∈ ds, okD n x = true) (hd : okD m d = true) : ((pys ds).any fun y => PyData.eqv y (py d)) = ds.any fun z => eqD z d := by
  rw [pys_map, List.any_map]
  induction ds with
  | nil => rfl
  | cons x ds ih =>
    simp only [List.any_cons, Function.comp]
    rw [eqv_py n x d (h x (by simp)) m hd]
    congr 1
    exact ih fun y hy => h y (by simp [hy])

abbrev Rmk (X : Cx) : Prop := X.A.units + 200 < cLine

section
variable {X : Cx}

def copOf : Cop → CmpOp
  | .eq => .Eq | .ne => .NotEq | .lt => .Lt | .le => .LtE | .gt => .Gt | .ge => .GtE | .is_ => .Is | .isn => .IsNot | .in_ => .In | .nin => .NotIn
def bopOf : Bop → Operator
  | .add => .Add | .sub => .Sub | .mul => .Mult | .fdiv => .FloorDiv | .mod => .Mod | .pow => .Pow | .shl => .LShift | .shr => .RShift | .band => .BitAnd | .bor => .BitOr

/-- a comparison's reading -/
def rCmp (g : Gh) (o : Cop) : R2 := fun v1 v2 H Q => ∃ F μ x y b, RelC g F μ H x v1 ∧ RelC g F μ H y v2 ∧ cmpD o x y = some b ∧ Q (.bl b) H

theorem cmp_int {f : Value → Value → Sem Value} {p : Int → Int → Bool} (ho : OpR X f (rI0 fun i j => .bl (p i j))) {pins : List (Addr × Obj)} {s : Shared} {σ : L2.St} {H : Hp} {x y : V} {v u : Value} {Q : VK} (I : Inv X pins σ H s) (rx : RelV x v) (ry : RelV y u)
    {i j : Int} (e1 : x = .int i) (e2 : y = .int j) (q : Q (.bl (p i j)) H) : wpAny (model X.prog X.w) X.A (f v u) (EP X pins σ Q) X.xe s :=
  ho pins s σ H x y v u Q I rx ry ⟨i, j, e1, e2, q⟩

/-- in: a value that reads as d in what reads as c -/
theorem in_run {g : Gh} (hg : ghX X = g) (hu : Rmk X) {neg : Bool} {pins : List (Addr × Obj)} {s : Shared} {σ : L2.St} {H : Hp} {x y : V} {v u : Value} {Q : VK} {F : Addr → Prop} {μ : List Addr} {d c : D} {b : Bool} (I : Inv X pins σ H s) (rx : RelV x v) (ry : RelV y u)
    (hd : RelC g F μ H d x) (hc : RelC g F μ H c y) (e : inD d c = some b) (nd : ∀ ks vs, c ≠ .dic ks vs) (q : Q (.bl (if neg then !b else b)) H) :
    wpAny (model X.prog X.w) X.A (compareOp (if neg then .NotIn else .In) v u) (EP X pins σ Q) X.xe s := by
  subst hg
  have seq : ∀ {ds : List D}, okD 40 d = true → ds.all (okD 40) = true → (c = .lst ds ∨ c = .tup ds) → b = (ds.any fun z => eqD z d) → wpAny (model X.prog X.w) X.A (compareOp (if neg then .NotIn else .In) v u) (EP X pins σ Q) X.xe s := by
    intro ds o1 o2 hcc hb
    have o2' := all_ok o2
    have dx := dp_of 40 d x o1 hd
    obtain ⟨as, r1⟩ := Dp.reads I (py d) x v dx rx
    have h1 := oks_plain 40 ds o2'
    have h2 := ok_plain 40 d o1
    have h3 := ok_depth 40 d o1
    have hu' : X.A.units + 1 + min (PyData.depthAll (pys ds)) (py d).depth < cLine := by
      have : Rmk X := hu
      unfold Rmk at this
      omega
    have hb' := any_py (ds := ds) (d := d) o2' o1
    rcases hcc with rfl | rfl
    · have dy := dp_of 41 (.lst ds) y (by simpa [okD] using o2) hc
      obtain ⟨bs, r2⟩ := Dp.reads I (py (.lst ds)) y u dy ry
      simp only [py] at r2
      cases neg with
      | false => exact SeqAt.in_list_data r2 r1 h1 h2 hu' ⟨.bl _, H, I, by rw [hb', ← hb]; rfl, q⟩
      | true => exact SeqAt.notIn_list_data r2 r1 h1 h2 hu' ⟨.bl _, H, I, by rw [hb', ← hb]; rfl, q⟩
    · have dy := dp_of 41 (.tup ds) y (by simpa [okD] using o2) hc
      obtain ⟨bs, r2⟩ := Dp.reads I (py (.tup ds)) y u dy ry
      simp only [py] at r2
      cases neg with
      | false => exact SeqAt.in_tuple_data r2 r1 h1 h2 hu' ⟨.bl _, H, I, by rw [hb', ← hb]; rfl, q⟩
      | true => exact SeqAt.notIn_tuple_data r2 r1 h1 h2 hu' ⟨.bl _, H, I, by rw [hb', ← hb]; rfl, q⟩
  cases c with
  | lst ds =>
    simp only [inD] at e
    split at e
    · rename_i h
      rw [Bool.and_eq_true] at h
      exact seq h.1 h.2 (.inl rfl) (Option.some.inj e).symm
    · cases e
  | tup ds =>
    simp only [inD] at e
    split at e
    · rename_i h
      rw [Bool.and_eq_true] at h
      exact seq h.1 h.2 (.inr rfl) (Option.some.inj e).symm
    · cases e
  | str z =>
    cases d with
    | str w =>
      have e' : sub1 w z = b := Option.some.inj e
      have hx := hd.str
      have hy := hc.str
      subst hx hy
      unfold sub1 at e'
      cases neg with
      | false => exact op_in_str pins s σ H _ _ v u Q I rx ry ⟨w, z, rfl, rfl, by rw [e']; exact q⟩
      | true => exact op_notin_str pins s σ H _ _ v u Q I rx ry ⟨w, z, rfl, rfl, by rw [e']; exact q⟩
    | _ => simp [inD] at e
  | dic ks vs => exact absurd rfl (nd ks vs)
  | _ => simp [inD] at e

theorem op_cmp (hu : Rmk X) (o : Cop) (hne : o ≠ .in_ ∧ o ≠ .nin) : OpR X (compareOp (copOf o)) (rCmp (ghX X) o) := by
  intro pins s σ H x y v u Q I rx ry h
  obtain ⟨F, μ, a, b, k, ha, hb, e, q⟩ := h
  have eqs : okD 40 a = true → okD 40 b = true → ∃ as bs, Reads s.heap v (py a) as ∧ Reads s.heap u (py b) bs ∧ (py a).plain = true ∧ (py b).plain = true ∧ X.A.units + min (py a).depth (py b).depth < cLine ∧ PyData.eqv (py a) (py b) = eqD a b := by
    intro o1 o2
    obtain ⟨as, r1⟩ := Dp.reads I (py a) x v (dp_of 40 a x o1 ha) rx
    obtain ⟨bs, r2⟩ := Dp.reads I (py b) y u (dp_of 40 b y o2 hb) ry
    refine ⟨as, bs, r1, r2, ok_plain 40 a o1, ok_plain 40 b o2, ?_, eqv_py 40 a b o1 40 o2⟩
    have h3 := ok_depth 40 a o1
    have : Rmk X := hu
    unfold Rmk at this
    omega
  have iis : ∀ {p : Int → Int → Bool} {f : Value → Value → Sem Value} (ho : OpR X f (rI0 fun i j => .bl (p i j))) {i j : Int}, a = .int i → b = .int j → k = p i j → wpAny (model X.prog X.w) X.A (f v u) (EP X pins σ Q) X.xe s := by
    intro p f ho i j ea eb ek
    subst ea eb ek
    exact ho pins s σ H x y v u Q I rx ry ⟨i, j, ha.int, hb.int, q⟩
  cases o with
  | eq =>
    simp only [cmpD] at e
    split at e
    · rename_i h
      rw [Bool.and_eq_true] at h
      obtain ⟨as, bs, r1, r2, p1, p2, hu', ee⟩ := eqs h.1 h.2
      exact SeqAt.eq_plain r1 r2 p1 p2 hu' ⟨.bl _, H, I, by rw [ee, Option.some.inj e]; rfl, q⟩
    · cases e
  | ne =>
    simp only [cmpD] at e
    split at e
    · rename_i h
      rw [Bool.and_eq_true] at h
      obtain ⟨as, bs, r1, r2, p1, p2, hu', ee⟩ := eqs h.1 h.2
      exact SeqAt.ne_plain r1 r2 p1 p2 hu' ⟨.bl _, H, I, by rw [ee, Option.some.inj e]; rfl, q⟩
    · cases e
  | lt => cases a <;> cases b <;> first | (simp [cmpD] at e; done) | (simp only [cmpD, Option.some.injEq] at e; exact iis op_lt rfl rfl e.symm)
  | le => cases a <;> cases b <;> first | (simp [cmpD] at e; done) | (simp only [cmpD, Option.some.injEq] at e; exact iis op_le rfl rfl e.symm)
  | gt => cases a <;> cases b <;> first | (simp [cmpD] at e; done) | (simp only [cmpD, Option.some.injEq] at e; exact iis op_gt rfl rfl e.symm)
  | ge => cases a <;> cases b <;> first | (simp [cmpD] at e; done) | (simp only [cmpD, Option.some.injEq] at e; exact iis op_ge rfl rfl e.symm)
  | is_ =>
    cases b <;> first | (cases a <;> simp [cmpD] at e; done) | skip
    have hy := hb.non
    subst hy
    have hx : k = decide (x = .non) := by
      simp only [cmpD, Option.some.injEq] at e
      subst e
      cases a with
      | non => rw [ha.non]; rfl
      | bl _ => rw [ha.bl]; rfl
      | int _ => rw [ha.int]; rfl
      | str _ => rw [ha.str]; rfl
      | tup _ => obtain ⟨_, _, e, _⟩ := ha.tup; rw [e]; rfl
      | lst _ => obtain ⟨_, _, e, _⟩ := ha.lst; rw [e]; rfl
      | dic _ _ => obtain ⟨_, _, _, e, _⟩ := ha.dic; rw [e]; rfl
      | ref _ =>
        rcases ha with h | ⟨_, _, h⟩
        · simp only [RelD] at h
          obtain ⟨_, e, _⟩ := h
          rw [e]; rfl
        · exact h.elim
      | fn _ =>
        rcases ha with h | ⟨_, _, h⟩
        · simp only [RelD] at h
          obtain ⟨_, e, _⟩ := h
          rw [e]; rfl
        · exact h.elim
    exact op_isN pins s σ H x _ v u Q I rx ry ⟨rfl, by rw [← hx]; exact q⟩
  | isn =>
    cases b <;> first | (cases a <;> simp [cmpD] at e; done) | skip
    have hy := hb.non
    subst hy
    have hx : k = !decide (x = .non) := by
      simp only [cmpD, Option.some.injEq] at e
      subst e
      cases a with
      | non => rw [ha.non]; rfl
      | bl _ => rw [ha.bl]; rfl
      | int _ => rw [ha.int]; rfl
      | str _ => rw [ha.str]; rfl
      | tup _ => obtain ⟨_, _, e, _⟩ := ha.tup; rw [e]; rfl
      | lst _ => obtain ⟨_, _, e, _⟩ := ha.lst; rw [e]; rfl
      | dic _ _ => obtain ⟨_, _, _, e, _⟩ := ha.dic; rw [e]; rfl
      | ref _ =>
        rcases ha with h | ⟨_, _, h⟩
        · simp only [RelD] at h
          obtain ⟨_, e, _⟩ := h
          rw [e]; rfl
        · exact h.elim
      | fn _ =>
        rcases ha with h | ⟨_, _, h⟩
        · simp only [RelD] at h
          obtain ⟨_, e, _⟩ := h
          rw [e]; rfl
        · exact h.elim
    exact op_notN pins s σ H x _ v u Q I rx ry ⟨rfl, by rw [← hx]; exact q⟩
  | in_ => exact absurd rfl hne.1
  | nin => exact absurd rfl hne.2

/-! ### binary operations -/
def rBin (g : Gh) (o : Bop) : R2 := fun v1 v2 H Q => ∃ F μ x y z f, RelC g F μ H x v1 ∧ RelC g F μ H y v2 ∧ binD o x y = some (z, f) ∧ ∀ v H', Alc g F μ H z f v H' → Q v H'
theorem lim_line : lim = sizeLine := by rw [sizeLine_eq]

theorem op_catL {pins : List (Addr × Obj)} {s : Shared} {σ : L2.St} {H : Hp} {Q : VK} {a b : Addr} {xs zs : List V} (I : Inv X pins σ H s) (ha : SqL X.K H a xs) (hb : SqL X.K H b zs) (hz : xs.length + zs.length ≤ sizeLine)
    (q : ∀ p, H p = none → Q (.ref p) (upd H p (.lst (xs ++ zs)))) : wpAny (model X.prog X.w) X.A (binaryOp .Add (.ref a) (.ref b)) (EP X pins σ Q) X.xe s := by
  obtain ⟨its, r, p1, _⟩ := I.list ha
  obtain ⟨its2, r2, p2, _⟩ := I.list hb
  obtain ⟨⟨cls, dd, data, sl⟩, ho, hc, n, hd⟩ := p1.isList
  obtain ⟨⟨cls2, dd2, data2, sl2⟩, ho2, hc2, n2, hd2⟩ := p2.isList
  simp only at hc hd hc2 hd2
  subst hc hd hc2 hd2
  have l1 := r.length
  have l2 := r2.length
  refine concat_meets ⟨_, ho, rfl⟩ ⟨_, ho2, rfl⟩ noFill_list_add seq_list_add PySem.F.slot_list_add PySem.F.entry_list_add (PySem.F.args_list_add_2 _ _) (list_addW a b its.toArray its2.toArray n n2 dd dd2 sl sl2 (by rw [List.size_toArray, List.size_toArray]; omega)) ⟨ho, ho2, ?_⟩
  have hf : H s.heap.objs.size = none := I.hok.fresh (Nat.le_refl _)
  refine ⟨.ref s.heap.objs.size, upd H s.heap.objs.size (.lst (xs ++ zs)), I.laid (t' := s.toks) (fun b o e => Heap.get?_push_of_some _ e) (Nat.le_refl _) ?_, rfl, q _ hf⟩
  refine ⟨by rw [List.length_append]; omega, its ++ its2, 0, r.append r2, ?_⟩
  rw [Heap.get?_push_size _ rfl]
  simp

theorem op_bin (o : Bop) : OpR X (binaryOp (bopOf o)) (rBin (ghX X) o) := by
  intro pins s σ H x y v u Q I rx ry h
  obtain ⟨F, μ, a, b, z, f, ha, hb, e, q⟩ := h
  have pure_ : ∀ {w : V}, (f && isCont z) = false → RelD (ghX X) F μ H z w → Q w H := fun h1 h2 => q _ _ (.val h1 h2)
  have ii : ∀ {C : Int → Int → Prop} {p : Int → Int → Int} {fn : Value → Value → Sem Value} (ho : OpR X fn (rI C fun i j => .int (p i j))) {i j : Int}, a = .int i → b = .int j → C i j → z = .int (p i j) → wpAny (model X.prog X.w) X.A (fn v u) (EP X pins σ Q) X.xe s := by
    intro C p fn ho i j ea eb hc ez
    subst ea eb ez
    exact ho pins s σ H x y v u Q I rx ry ⟨i, j, ha.int, hb.int, hc, pure_ (by cases f <;> rfl) relInt⟩
  have ii0 : ∀ {p : Int → Int → Int} {fn : Value → Value → Sem Value} (ho : OpR X fn (rI0 fun i j => .int (p i j))) {i j : Int}, a = .int i → b = .int j → z = .int (p i j) → wpAny (model X.prog X.w) X.A (fn v u) (EP X pins σ Q) X.xe s := by
    intro p fn ho i j ea eb ez
    subst ea eb ez
    exact ho pins s σ H x y v u Q I rx ry ⟨i, j, ha.int, hb.int, pure_ (by cases f <;> rfl) relInt⟩
  cases o with
  | add =>
    cases a <;> cases b <;> first | (simp [binD] at e; done) | skip
    · simp only [binD, Option.some.injEq, Prod.mk.injEq] at e
      exact ii0 op_add rfl rfl e.1.symm
    · simp only [binD] at e
      split at e
      · rename_i hl
        simp only [Option.some.injEq, Prod.mk.injEq] at e
        obtain ⟨rfl, rfl⟩ := e
        exact op_add_str pins s σ H x y v u Q I rx ry ⟨_, _, ha.str, hb.str, by rw [← lim_line]; exact hl, pure_ rfl relStr⟩
      · cases e
    · rename_i za zb
      simp only [binD] at e
      split at e
      · rename_i hl
        simp only [Option.some.injEq, Prod.mk.injEq] at e
        obtain ⟨rfl, rfl⟩ := e
        obtain ⟨p, vs, rfl, h1, h2⟩ := ha.tupH
        obtain ⟨p', ws, rfl, h3, h4⟩ := hb.tupH
        have l1 := h2.length
        have l2 := h4.length
        refine op_catA pins s σ H _ _ v u Q I rx ry ⟨p, p', vs, ws, rfl, rfl, h1.1, h3.1, by rw [← lim_line]; omega, fun hv => ?_, fun _ hw => ?_, fun _ _ pp hp => ?_⟩
        · subst hv
          have : (‹List D› : List D) = ‹List D› := rfl
          refine pure_ rfl ?_
          simp only [RelD]
          have h2' := h2.length
          have hz : za = [] := List.length_eq_zero_iff.mp (by simpa using h2')
          subst hz
          exact ⟨p', ws, rfl, h3, RelDs.append h2 h4⟩
        · subst hw
          refine pure_ rfl ?_
          simp only [RelD]
          have h4' := h4.length
          have hz : zb = [] := List.length_eq_zero_iff.mp (by simpa using h4')
          subst hz
          rw [List.append_nil]
          exact ⟨p, vs, rfl, h1, h2⟩
        · exact q _ _ (.inr (.inl ⟨pp, vs ++ ws, _, rfl, hp, rfl, rfl, RelDs.append h2 h4⟩))
      · cases e
    · simp only [binD] at e
      split at e
      · rename_i hl
        simp only [Option.some.injEq, Prod.mk.injEq] at e
        obtain ⟨rfl, rfl⟩ := e
        obtain ⟨p, vs, rfl, h1, h2⟩ := ha.lst
        obtain ⟨p', ws, rfl, h3, h4⟩ := hb.lst
        have l1 := h2.length
        have l2 := h4.length
        cases rx
        cases ry
        exact op_catL I h1 h3 (by rw [← lim_line]; omega) fun pp hp => q _ _ (.inr (.inr ⟨pp, vs ++ ws, _, rfl, hp, rfl, rfl, rfl, RelDs.append h2 h4⟩))
      · cases e
  | sub =>
    cases a <;> cases b <;> first | (simp [binD] at e; done) | skip
    simp only [binD, Option.some.injEq, Prod.mk.injEq] at e
    exact ii0 op_sub rfl rfl e.1.symm
  | mul =>
    cases a <;> cases b <;> first | (simp [binD] at e; done) | skip
    simp only [binD] at e
    split at e
    · rename_i hc
      simp only [Option.some.injEq, Prod.mk.injEq] at e
      refine ii op_mul rfl rfl ?_ e.1.symm
      unfold cMul at hc
      simp only [Bool.or_eq_true, Bool.and_eq_true, decide_eq_true_eq] at hc
      exact hc
    · cases e
  | fdiv =>
    cases a <;> cases b <;> first | (simp [binD] at e; done) | skip
    simp only [binD] at e
    split at e
    · rename_i hc
      simp only [Option.some.injEq, Prod.mk.injEq] at e
      exact ii op_fdiv rfl rfl hc e.1.symm
    · cases e
  | mod =>
    cases a <;> cases b <;> first | (simp [binD] at e; done) | skip
    simp only [binD] at e
    split at e
    · rename_i hc
      simp only [Option.some.injEq, Prod.mk.injEq] at e
      exact ii op_mod rfl rfl hc e.1.symm
    · cases e
  | pow =>
    cases a <;> cases b <;> first | (simp [binD] at e; done) | skip
    simp only [binD] at e
    split at e
    · rename_i hc
      simp only [Option.some.injEq, Prod.mk.injEq] at e
      exact ii op_pow rfl rfl ⟨hc.1, by omega, hc.2.2⟩ e.1.symm
    · cases e
  | shl =>
    cases a <;> cases b <;> first | (simp [binD] at e; done) | skip
    simp only [binD] at e
    split at e
    · rename_i hc
      simp only [Option.some.injEq, Prod.mk.injEq] at e
      exact ii op_shl rfl rfl ⟨hc.1, by omega, hc.2.2⟩ e.1.symm
    · cases e
  | shr =>
    cases a <;> cases b <;> first | (simp [binD] at e; done) | skip
    simp only [binD] at e
    split at e
    · rename_i hc
      simp only [Option.some.injEq, Prod.mk.injEq] at e
      exact ii op_shr rfl rfl hc e.1.symm
    · cases e
  | band =>
    cases a <;> cases b <;> first | (simp [binD] at e; done) | skip
    simp only [binD, Option.some.injEq, Prod.mk.injEq] at e
    exact ii0 op_and rfl rfl e.1.symm
  | bor =>
    cases a <;> cases b <;> first | (simp [binD] at e; done) | skip
    simp only [binD, Option.some.injEq, Prod.mk.injEq] at e
    exact ii0 op_or rfl rfl e.1.symm

/-! ### items and slices -/
theorem atI_map {ds : List D} {vs : List V} {g : Gh} {F : Addr → Prop} {μ : List Addr} {H : Hp} (h : RelDs g F μ H ds vs) {i : Int} {d : D} (e : atI ds i = some d) : ∃ v, atI vs i = some v ∧ RelD g F μ H d v := by
  unfold atI at e ⊢
  rw [← h.length]
  cases q : ixN ds.length i with
  | none => rw [q] at e; cases e
  | some j =>
    rw [q] at e
    exact h.get e
def rIdx (g : Gh) : R2 := fun v1 v2 H Q => ∃ F μ x y z, RelC g F μ H x v1 ∧ RelD g F μ H y v2 ∧ (∀ ks vs, x ≠ .dic ks vs) ∧ idxD x y = some z ∧ ∀ v, RelD g F μ H z v → Q v H
theorem ix_idx : IxR X (rIdx (ghX X)) := by
  intro value slice pins s σ H x y v u Q I rx ry h hs
  obtain ⟨F, μ, a, b, z, ha, hb, nd, e, q⟩ := h
  cases a <;> first | (simp [idxD] at e; done) | skip
  · cases b <;> first | (simp [idxD] at e; done) | skip
    simp only [idxD] at e
    split at e
    · rename_i hl
      obtain ⟨c, ec, ez⟩ := Option.map_eq_some_iff.mp e
      subst ez
      have hx := ha.str
      have hy := hb
      simp only [RelD] at hy
      exact ix_str value slice pins s σ H x y v u Q I rx ry ⟨_, _, c, hx, hy, by rw [← lim_line]; exact hl, ec, q _ relStr⟩ hs
    · cases e
  · cases b <;> first | (simp [idxD] at e; done) | skip
    obtain ⟨p, vs, rfl, h1, h2⟩ := ha.tup
    have hy := hb
    simp only [RelD] at hy
    obtain ⟨w, e1, e2⟩ := atI_map h2 e
    exact ix_tup value slice pins s σ H _ y v u Q I rx ry ⟨p, vs, _, w, rfl, hy, h1, e1, q _ e2⟩ hs
  · cases b <;> first | (simp [idxD] at e; done) | skip
    obtain ⟨p, vs, rfl, h1, h2⟩ := ha.lst
    have hy := hb
    simp only [RelD] at hy
    obtain ⟨w, e1, e2⟩ := atI_map h2 e
    exact ix_list value slice pins s σ H _ y v u Q I rx ry ⟨p, vs, _, w, rfl, hy, h1, e1, q _ e2⟩ hs
  · exact absurd rfl (nd _ _)

theorem cut_rel {ds : List D} {vs : List V} {g : Gh} {F : Addr → Prop} {μ : List Addr} {H : Hp} (h : RelDs g F μ H ds vs) (lo hi : Option Int) : RelDs g F μ H (cutL ds lo hi) (cutV vs lo hi) := by
  unfold cutL cutV
  rw [h.length]
  exact (h.drop _).take _
def rSlc (g : Gh) : V → Option Int → Option Int → Hp → VK → Prop := fun v lo hi H Q => ∃ F μ x z f, RelC g F μ H x v ∧ cutD x lo hi = some (z, f) ∧ ∀ v H', Alc g F μ H z f v H' → Q v H'
theorem sl_slc : SlR X (rSlc (ghX X)) := by
  intro pins s σ H x v vl vu lo hi sl Q I rx hs pl pu h
  obtain ⟨F, μ, a, z, f, ha, e, q⟩ := h
  cases a <;> first | (simp [cutD] at e; done) | skip
  · rename_i za
    simp only [cutD, Option.some.injEq, Prod.mk.injEq] at e
    obtain ⟨rfl, rfl⟩ := e
    obtain ⟨p, vs, rfl, h1, h2⟩ := ha.tupH
    refine sl_tupA pins s σ H _ v vl vu lo hi sl Q I rx hs pl pu ⟨p, vs, rfl, h1.1, fun hw => ?_, fun _ pp hp => ?_⟩
    · refine q _ _ (.val rfl ?_)
      simp only [RelD]
      have ez : cutL za lo hi = za := by
        unfold cutL
        rw [h2.length, hw.1, hw.2, ← h2.length]
        simp
      rw [ez]
      refine ⟨p, vs, rfl, h1, ?_⟩
      have := cut_rel h2 lo hi
      rw [ez] at this
      have e2 : cutV vs lo hi = vs := by
        unfold cutV
        rw [hw.1, hw.2]
        simp
      rw [e2] at this
      exact this
    · exact q _ _ (.inr (.inl ⟨pp, _, _, rfl, hp, rfl, rfl, cut_rel h2 lo hi⟩))
  · simp only [cutD, Option.some.injEq, Prod.mk.injEq] at e
    obtain ⟨rfl, rfl⟩ := e
    obtain ⟨p, vs, rfl, h1, h2⟩ := ha.lst
    exact sl_list pins s σ H _ v vl vu lo hi sl Q I rx hs pl pu ⟨p, vs, rfl, h1, fun pp hp => q _ _ (.inr (.inr ⟨pp, _, _, rfl, hp, rfl, rfl, rfl, cut_rel h2 lo hi⟩))⟩
end

/-! ### dicts -/
section
variable {g : Gh} {F : Addr → Prop} {μ : List Addr} {H : Hp}
def keyD : Key → D
  | .inl i => .int i
  | .inr s => .str s
theorem key_rel {d : D} {k : Key} (h : RelD g F μ H d (kV k)) : d = keyD k := by
  cases k with
  | inl i =>
    cases d <;> simp only [RelD, kV] at h <;> first | (cases h; done) | (obtain ⟨_, h⟩ := h; first | (cases h.1; done) | (obtain ⟨_, h, _⟩ := h; cases h; done) | (obtain ⟨_, _, h, _⟩ := h; cases h; done)) | (cases h; rfl)
  | inr i =>
    cases d <;> simp only [RelD, kV] at h <;> first | (cases h; done) | (obtain ⟨_, h⟩ := h; first | (cases h.1; done) | (obtain ⟨_, h, _⟩ := h; cases h; done) | (obtain ⟨_, _, h, _⟩ := h; cases h; done)) | (cases h; rfl)
theorem key_of' {d : D} {v : V} (ok : okKey d = true) (h : RelD g F μ H d v) : ∃ k, v = kV k ∧ d = keyD k := by
  cases d <;> first | (cases ok; done) | skip
  · simp only [RelD] at h
    exact ⟨.inl _, h, rfl⟩
  · simp only [RelD] at h
    exact ⟨.inr _, h, rfl⟩
theorem eq_key (a b : Key) : eqD (keyD a) (keyD b) = decide (a = b) := by
  cases a <;> cases b
  · simp only [keyD, eqD, Sum.inl.injEq]
    rw [Bool.eq_iff_iff, beq_iff_eq, decide_eq_true_iff]
  · simp [keyD, eqD]
  · simp [keyD, eqD]
  · simp only [keyD, eqD, Sum.inr.injEq]
    rw [Bool.eq_iff_iff, beq_iff_eq, decide_eq_true_iff]
theorem dic_look : ∀ {keys : List Key} {ks vs : List D} {ws : List V} {k : Key}, RelDs g F μ H ks (keys.map kV) → RelDs g F μ H vs ws → keys.length = ws.length →
    (∀ x, dLook ks vs (keyD k) = some x → ∃ w, valV (keys.zip ws) k = some w ∧ RelD g F μ H x w) ∧ (dLook ks vs (keyD k) = none → valV (keys.zip ws) k = none)
  | [], ks, vs, ws, k, h1, h2, hl => by
    cases ks with
    | nil => exact ⟨fun x e => by simp [dLook] at e, fun _ => rfl⟩
    | cons a b =>
      simp only [RelDs] at h1
      obtain ⟨_, _, e, _⟩ := h1
      cases e
  | q :: keys, ks, vs, ws, k, h1, h2, hl => by
    cases ws with
    | nil => simp at hl
    | cons w ws =>
      cases ks with
      | nil => simp only [RelDs] at h1; cases h1
      | cons d ks =>
        cases vs with
        | nil => simp only [RelDs] at h2; cases h2
        | cons x vs =>
          simp only [RelDs, List.map_cons] at h1 h2
          obtain ⟨_, _, e1, h3, h4⟩ := h1
          obtain ⟨_, _, e2, h5, h6⟩ := h2
          cases e1
          cases e2
          have hd := key_rel h3
          subst hd
          have ih := dic_look (k := k) h4 h6 (by simpa using hl)
          simp only [dLook, eq_key, List.zip_cons_cons]
          by_cases e : q = k
          · simp only [e, decide_true, if_true]
            exact ⟨fun y hy => ⟨w, valV_pos rfl, by cases hy; exact h5⟩, fun hy => by cases hy⟩
          · simp only [e, decide_false, if_false, Bool.false_eq_true]
            rw [valV_neg (show ¬ (q, w).1 = k from e)]
            exact ih
theorem keys_rel : ∀ {keys : List Key} {ks : List D}, RelDs g F μ H ks (keys.map kV) → ks = keys.map keyD
  | [], ks, h => by
    cases ks with
    | nil => rfl
    | cons a b => simp only [RelDs] at h; obtain ⟨_, _, e, _⟩ := h; cases e
  | q :: keys, ks, h => by
    cases ks with
    | nil => simp only [RelDs] at h; cases h
    | cons d ks =>
      simp only [RelDs, List.map_cons] at h
      obtain ⟨_, _, e1, h3, h4⟩ := h
      cases e1
      rw [key_rel h3, keys_rel h4]
      rfl
theorem keyD_rel (k : Key) : RelD g F μ H (keyD k) (kV k) := by
  cases k <;> simp only [keyD, kV, RelD]
theorem rel_keys : ∀ (keys : List Key), RelDs g F μ H (keys.map keyD) (keys.map kV)
  | [] => .nil
  | q :: keys => .cons (keyD_rel q) (rel_keys keys)
theorem any_key (k : Key) : ∀ keys : List Key, (keys.map keyD).any (fun q => eqD q (keyD k)) = keys.any fun q => decide (q = k)
  | [] => rfl
  | q :: keys => by rw [List.map_cons, List.any_cons, List.any_cons, eq_key, any_key k keys]
theorem any_zip (k : Key) : ∀ (keys : List Key) (ws : List V), keys.length = ws.length → ((keys.zip ws).any fun kv => decide (kv.1 = k)) = keys.any fun q => decide (q = k)
  | [], _, _ => rfl
  | q :: keys, [], h => by simp at h
  | q :: keys, w :: ws, h => by rw [List.zip_cons_cons, List.any_cons, List.any_cons, any_zip k keys ws (by simpa using h)]
theorem map_zip (k : Key) (w : V) : ∀ (keys : List Key) (ws : List V), keys.length = ws.length → (keys.zip ws).map (fun kv => if kv.1 = k then (kv.1, w) else kv) = keys.zip (List.zipWith (fun q v => if q = k then w else v) keys ws)
  | [], _, _ => rfl
  | q :: keys, [], h => by simp at h
  | q :: keys, v :: ws, h => by
    rw [List.zip_cons_cons, List.map_cons, map_zip k w keys ws (by simpa using h), List.zipWith_cons_cons, List.zip_cons_cons]
    by_cases e : q = k
    · simp [e]
    · simp [e]
theorem rel_zip (k : Key) {x : D} {w : V} (hx : RelD g F μ H x w) : ∀ (keys : List Key) (vs : List D) (ws : List V), RelDs g F μ H vs ws → RelDs g F μ H (List.zipWith (fun q v => if eqD q (keyD k) then x else v) (keys.map keyD) vs) (List.zipWith (fun q v => if q = k then w else v) keys ws)
  | [], _, _, _ => .nil
  | q :: keys, vs, ws, h => by
    cases vs with
    | nil => simp only [RelDs] at h; subst h; exact .nil
    | cons v vs =>
      simp only [RelDs] at h
      obtain ⟨y, r, rfl, h1, h2⟩ := h
      rw [List.map_cons, List.zipWith_cons_cons, List.zipWith_cons_cons, eq_key]
      refine .cons ?_ (rel_zip k hx keys vs r h2)
      by_cases e : q = k
      · simp only [e, decide_true, if_true]; exact hx
      · simp only [e, decide_false, if_false, Bool.false_eq_true]; exact h1
/-- a key stored -/
theorem dic_put {keys : List Key} {vs : List D} {ws : List V} {k : Key} {x : D} {w : V} (hl : keys.length = ws.length) (hv : RelDs g F μ H vs ws) (hx : RelD g F μ H x w) :
    ∃ (keys' : List Key) (ws' : List V), keys'.length = ws'.length ∧ (dPut (keys.map keyD) vs (keyD k) x).1 = keys'.map keyD ∧ RelDs g F μ H (dPut (keys.map keyD) vs (keyD k) x).2 ws' ∧ putK (keys.zip ws) k w = keys'.zip ws' := by
  unfold dPut putK
  rw [any_key, any_zip k keys ws hl]
  by_cases e : (keys.any fun q => decide (q = k)) = true
  · rw [if_pos e, if_pos e]
    exact ⟨keys, _, by rw [List.length_zipWith, ← hl, Nat.min_self], rfl, rel_zip k hx keys vs ws hv, map_zip k w keys ws hl⟩
  · rw [if_neg e, if_neg e]
    refine ⟨keys ++ [k], ws ++ [w], by simp [hl], by simp, hv.append (.one hx), ?_⟩
    rw [List.zip_append hl]
    rfl
/-- what a dict holds at a key -/
theorem RelC.look {ks vs : List D} {d : D} {v y : V} (h : RelC g F μ H (.dic ks vs) v) (hd : RelD g F μ H d y) (ok : okKey d = true) :
    ∃ a, v = .ref a ∧ ((∀ x, dLook ks vs d = some x → ∃ w, DGet H a y (some w) ∧ RelD g F μ H x w) ∧ (dLook ks vs d = none → DGet H a y none)) := by
  obtain ⟨a, kv, ws, rfl, h1, h2, keys, rfl, hl, e⟩ := h.dic
  obtain ⟨k, rfl, rfl⟩ := key_of' ok hd
  obtain ⟨q1, q2⟩ := dic_look (k := k) h1 h2 hl
  refine ⟨a, rfl, fun x hx => ?_, fun hx => ?_⟩
  · obtain ⟨w, e1, e2⟩ := q1 x hx
    exact ⟨w, .inl ⟨_, k, .inl e, rfl, e1.symm⟩, e2⟩
  · exact .inl ⟨_, k, .inl e, rfl, (q2 hx).symm⟩
end
section
variable {X : Cx}
theorem in_dic (hu : X.A.units + 1 < cLine) {neg : Bool} {pins : List (Addr × Obj)} {s : Shared} {σ : L2.St} {H : Hp} {x y : V} {v u : Value} {Q : VK} {F : Addr → Prop} {μ : List Addr} {d : D} {ks vs : List D} {b : Bool} (I : Inv X pins σ H s) (rx : RelV x v) (ry : RelV y u)
    (hd : RelC (ghX X) F μ H d x) (hc : RelC (ghX X) F μ H (.dic ks vs) y) (e : inD d (.dic ks vs) = some b) (q : Q (.bl (if neg then !b else b)) H) :
    wpAny (model X.prog X.w) X.A (compareOp (if neg then .NotIn else .In) v u) (EP X pins σ Q) X.xe s := by
  simp only [inD] at e
  have e : okKey d = true ∧ (dLook ks vs d).isSome = b := by
    cases d <;> simp [okKey] at e ⊢ <;> exact e
  obtain ⟨ok, e⟩ := e
  have hd' : RelD (ghX X) F μ H d x := by
    cases d <;> first | (cases ok; done) | (rcases hd with h | ⟨_, _, h⟩; exact h; exact h.elim)
  obtain ⟨a, rfl, h1, h2⟩ := hc.look hd' ok
  cases (show u = Value.ref a from ry)
  have hg : ∃ o : Option V, DGet H a x o ∧ o.isSome = b := by
    cases hl : dLook ks vs d with
    | none =>
      rw [hl] at e
      exact ⟨none, h2 hl, e⟩
    | some z =>
      rw [hl] at e
      obtain ⟨w, g1, _⟩ := h1 z hl
      exact ⟨some w, g1, e⟩
  obtain ⟨o, g1, rfl⟩ := hg
  cases neg with
  | false => exact d_in hu I g1 rx fun s3 I3 => ⟨.bl o.isSome, H, I3, rfl, q⟩
  | true => exact d_notIn hu I g1 rx fun s3 I3 => ⟨.bl (!o.isSome), H, I3, rfl, q⟩
theorem ix_dic (hu : X.A.units + 1 < cLine) {value slice : Expr} {pins : List (Addr × Obj)} {s : Shared} {σ : L2.St} {H : Hp} {x y : V} {v u : Value} {Q : VK} {F : Addr → Prop} {μ : List Addr} {ks vs : List D} {b z : D} (I : Inv X pins σ H s) (rx : RelV x v) (ry : RelV y u)
    (ha : RelC (ghX X) F μ H (.dic ks vs) x) (hb : RelD (ghX X) F μ H b y) (e : idxD (.dic ks vs) b = some z) (q : ∀ v, RelD (ghX X) F μ H z v → Q v H) (hs : subscripted slice false v u = operate [v, u] (getItem v u)) :
    wpAny (model X.prog X.w) X.A (subscriptTail value slice v u) (EP X pins σ Q) X.xe s := by
  have e : okKey b = true ∧ dLook ks vs b = some z := by
    simp only [idxD] at e
    cases b <;> simp [okKey] at e ⊢ <;> exact e
  obtain ⟨ok, e⟩ := e
  obtain ⟨a, rfl, h1, h2⟩ := ha.look hb ok
  cases (show v = Value.ref a from rx)
  obtain ⟨w, g1, g2⟩ := h1 z e
  exact tail_any (dict_typeIs I g1) PySem.F.slot_dict_getitem.lookup (d_getItem hu I g1 ry fun w' s3 I3 rw' => ⟨w, H, I3, rw', q w g2⟩) hs
end
end Rv

set_option Elab.async false
set_option linter.all false
set_option maxRecDepth 100000
set_option maxHeartbeats 4000000
/-! sorted of a tuple. -/
namespace Rv
open PySem PySem.Spec PyProof.Rows L2 PySem.W PySem.Calls
section
variable {prog : Program} {w : World} {A : Around} {E : Value → Shared → Prop} {s : Shared} {β : Type} {vs : List Value} {bs : List β} {enc : β → PyData} {RR : Value → β → Prop}
/-- the items of a tuple, brought into a list -/
theorem collect_tup {l : Addr} {Q : List Value → Shared → Prop} (hl : IsTup s.heap l vs.toArray) (hsz : vs.length ≤ sizeLine) (h : Q vs { s with heap := (s.heap.push (seqObj "list" #[] 0)).update s.heap.objs.size (Obj.mapSeq (· ++ vs.toArray)) }) : wpAny (model prog w) A (collect (.ref l)) Q E s := by
  obtain ⟨o, ho, hc, n, hd⟩ := hl
  unfold collect
  refine wpAny_bind (wpAny_runValue (codeAny_builtin entry_proto_collect' ?_))
  show wpAny _ _ (do again (.builtin "list.__iadd__" ⟨[← newList [], Value.ref l], []⟩)) _ _ s
  refine wpAny_bind (wpAny_newList (wpAny_pure ⟨Code.quiet_builtin _ (by decide +kernel), codeAny_builtin entry_list_iadd' ?_⟩))
  have ho' := Heap.get?_push_of_some (seqObj "list" #[] 0) ho
  show wpAny _ _ (Builtin.List.listExtendWith (Value.ref s.heap.objs.size) (Value.ref l) (Value.ref s.heap.objs.size)) _ _ { s with heap := s.heap.push (seqObj "list" #[] 0) }
  unfold Builtin.List.listExtendWith
  refine wpAny_bind (wpAny_typeOf (T := "tuple") ⟨o, ho', hc⟩ ?_)
  rw [if_pos (by rw [show (Value.type "tuple" == Value.type "tuple") = true from rfl]; simp)]
  refine wpAny_bind (listItems_at ho' hd (wpAny_bind (listItems_at (xs := #[]) (n := 0) (Heap.get?_push_size _ rfl) rfl ?_)))
  rw [if_neg (by simp)]
  refine wpAny_bind (listUpdate_at (xs := #[]) (n := 0) (Heap.get?_push_size _ rfl) rfl (wpAny_pure ?_) (Nat.zero_le _) (by show (#[] ++ vs.toArray).size ≤ sizeLine + 1; simp; omega))
  show wpAny (model prog w) A (load s.heap.objs.size >>= fun o => match o.data with
      | .seq xs _ => pure xs.toList
      | _ => unsupported "internal:collect") Q E { s with heap := (s.heap.push (seqObj "list" #[] 0)).update s.heap.objs.size (Obj.mapSeq (· ++ vs.toArray)) }
  refine wpAny_bind (wpAny_load (get?_update_seq (Heap.get?_push_size _ rfl) _) ?_)
  show wpAny _ _ (pure ((#[] : Array Value) ++ vs.toArray).toList) Q E _
  have e : ((#[] : Array Value) ++ vs.toArray).toList = vs := by simp
  rw [e]
  exact wpAny_pure h
theorem sorted_tup_body {l : Addr} {Q : Value → Shared → Prop} (hl : IsTup s.heap l vs.toArray) (hL : vs.length ≤ sizeLine)
    (body : ∀ E' : Value → Shared → Prop, wpAny (model prog w) A.in1.in1 (Builtin.«list.sort» ⟨[Value.ref (s.heap.objs.size + 1)], []⟩) (fun f s' => f = .done (.ret .none) ∧ Q (.ref (s.heap.objs.size + 1)) s') E' { s with heap := copyHeap s.heap vs }) :
    wpAny (model prog w) A (call (.builtin "sorted") [Value.ref l]) Q E s := by
  refine call_function_entry_kw kind_sorted plain_sorted entry_sorted (args_sorted1 _) ?_
  unfold Builtin.«sorted»
  refine wpAny_bind (m := checkCount "sorted" 1 1 _) (wpAny_pure (wpAny_bind (collect_tup hl hL (wpAny_bind (wpAny_newList ?_ hL)))))
  have hsz : ((s.heap.push (seqObj "list" #[] 0)).update s.heap.objs.size (Obj.mapSeq fun x => x ++ vs.toArray)).objs.size = s.heap.objs.size + 1 := by rw [Heap.size_update, size_push']
  show wpAny _ _ _ _ _ { s with heap := PySem.W.copyHeap s.heap vs }
  rw [hsz]
  refine wpAny_bind (wpAny_holding (wpAny_call_entry_kw slot_list_sort ⟨_, copyHeap_at s.heap vs, rfl⟩ entry_list_sort ?_ (args_list_sort _)))
  refine wpAny_mono (body _) (fun f s' hf => ?_) fun _ _ e => e
  exact ⟨_, hf.1, wpAny_pure ⟨_, rfl, hf.2⟩⟩
/-- sorted(t) of a tuple that reads as data -/
theorem sorted_tup_data {l : Addr} {Q : Value → Shared → Prop} (hl : IsTup s.heap l vs.toArray) (e : EachIs RR vs bs) (er : EachIs (fun v b => ∃ as, Reads s.heap v (enc b) as) vs bs) (hal : AllAlike (bs.map enc)) (hk : Sortable (bs.map enc)) (hL : bs.length ≤ sizeLine)
    (hu : ∀ b, b ∈ bs → A.units + 2 + (enc b).depth < cLine) (h : ∀ out, out.length = bs.length → EachIs RR out (bs.mergeSort (dataLe false enc)) → Q (.ref (s.heap.objs.size + 1)) { s with heap := sortedAll s.heap vs (List.toArray out) }) :
    wpAny (model prog w) A (call (.builtin "sorted") [Value.ref l]) Q E s := by
  have er' : EachIs (fun v b => ∃ as, Reads (sortingHeap (copyHeap s.heap vs) (s.heap.objs.size + 1) vs) v (enc b) as) vs bs := er.mono fun _ _ ⟨as, r⟩ => ⟨as, PyProof.Rows.Reads.keeps (fun _ _ => sorting_copy_old) r⟩
  have hL' : vs.length ≤ sizeLine := by rw [e.length]; exact hL
  refine sorted_tup_body hl hL' fun E' => list_sort_vals (s := { s with heap := copyHeap s.heap vs }) (copyHeap_at s.heap vs) (SortsAt.data (s := { s with heap := sortingHeap (copyHeap s.heap vs) (s.heap.objs.size + 1) vs }) (each_map (R := fun v d => ∃ as, Reads (sortingHeap (copyHeap s.heap vs) (s.heap.objs.size + 1) vs) v d as) enc er') hal hk (bound_map hu)) hL' ⟨rfl, ?_⟩
  exact h _ (by rw [sortVals_length false rfl]; exact e.length) (sortVals_data false e er' hal)
end
end Rv

set_option Elab.async false
set_option linter.all false
set_option maxRecDepth 100000
set_option maxHeartbeats 4000000
/-! The built-in functions, by the layer's rules. -/
namespace Rv
open PySem PySem.Spec PyProof.Rows L2

def bltV : Blt → Value
  | .len => .builtin "len" | .sorted => .builtin "sorted" | .tuple => .type "tuple" | .list => .type "list" | .sum => .builtin "sum" | .all => .builtin "all" | .any => .builtin "any"
  | .abs => .builtin "abs" | .int => .type "int" | .str => .type "str" | .min => .builtin "min" | .max => .builtin "max" | .divmod => .builtin "divmod" | .gcd => .builtin "math.gcd"

/-- argument lists, the first of which may be read alone -/
def RelCs (g : Gh) (F : Addr → Prop) (μ : List Addr) (H : Hp) : List D → List V → Prop
  | [], vs => vs = []
  | d :: ds, vs => ∃ v r, vs = v :: r ∧ RelC g F μ H d v ∧ RelDs g F μ H ds r
theorem RelCs.of {g : Gh} {F : Addr → Prop} {μ : List Addr} {H : Hp} : ∀ {ds : List D} {vs : List V}, RelDs g F μ H ds vs → RelCs g F μ H ds vs
  | [], vs, h => by simpa only [RelDs, RelCs] using h
  | d :: ds, vs, h => by
    simp only [RelDs] at h
    obtain ⟨v, r, e, h1, h2⟩ := h
    exact ⟨v, r, e, .inl h1, h2⟩

def rBlt (g : Gh) (b : Blt) : List V → Hp → VK → Prop := fun vs H Q => ∃ F μ ds z f, RelCs g F μ H ds vs ∧ bltD b ds = some (z, f) ∧ ∀ v H', Alc g F μ H z f v H' → Q v H'

section
variable {g : Gh} {F : Addr → Prop} {μ : List Addr} {H : Hp}
theorem RelCs.one {d : D} {vs : List V} (h : RelCs g F μ H [d] vs) : ∃ v, vs = [v] ∧ RelC g F μ H d v := by
  obtain ⟨v, r, e, h1, h2⟩ := h
  simp only [RelDs] at h2
  subst h2
  exact ⟨v, e, h1⟩
theorem RelCs.two {d e : D} {vs : List V} (h : RelCs g F μ H [d, e] vs) : ∃ v w, vs = [v, w] ∧ RelC g F μ H d v ∧ RelD g F μ H e w := by
  obtain ⟨v, r, e, h1, h2⟩ := h
  simp only [RelDs] at h2
  obtain ⟨w, r', e2, h2, h3⟩ := h2
  subst h3 e2
  exact ⟨v, w, e, h1, h2⟩
theorem relDs_ints : ∀ {ds : List D} {l : List Int} {vs : List V}, intsOf ds = some l → RelDs g F μ H ds vs → vs = l.map V.int ∧ ds = l.map D.int
  | [], l, vs, e, h => by
    simp only [intsOf, Option.some.injEq] at e
    subst e
    simp only [RelDs] at h
    exact ⟨h, rfl⟩
  | d :: ds, l, vs, e, h => by
    cases d <;> first | (simp [intsOf] at e; done) | skip
    simp only [intsOf] at e
    obtain ⟨l', e', rfl⟩ := Option.map_eq_some_iff.mp e
    simp only [RelDs, RelD] at h
    obtain ⟨v, r, rfl, rfl, h2⟩ := h
    obtain ⟨h3, h4⟩ := relDs_ints e' h2
    subst h3 h4
    exact ⟨rfl, rfl⟩
theorem relDs_bls : ∀ {ds : List D} {l : List Bool} {vs : List V}, blsOf ds = some l → RelDs g F μ H ds vs → vs = l.map V.bl
  | [], l, vs, e, h => by
    simp only [blsOf, Option.some.injEq] at e
    subst e
    simp only [RelDs] at h
    exact h
  | d :: ds, l, vs, e, h => by
    cases d <;> first | (simp [blsOf] at e; done) | skip
    simp only [blsOf] at e
    obtain ⟨l', e', rfl⟩ := Option.map_eq_some_iff.mp e
    simp only [RelDs, RelD] at h
    obtain ⟨v, r, rfl, rfl, h2⟩ := h
    rw [relDs_bls e' h2]
    rfl
theorem fold_min : ∀ (l : List Int) (x : Int), (l.foldl min x ∈ x :: l) ∧ ∀ y ∈ x :: l, l.foldl min x ≤ y
  | [], x => by simp
  | a :: l, x => by
    obtain ⟨h1, h2⟩ := fold_min l (min x a)
    rw [List.foldl_cons]
    refine ⟨?_, fun y hy => ?_⟩
    · rcases List.mem_cons.mp h1 with e | e
      · rw [e]
        by_cases h : x ≤ a
        · simp [Int.min_eq_left h]
        · simp [Int.min_eq_right (show a ≤ x by omega)]
      · simp [e]
    · have h3 := h2 (min x a) (by simp)
      have h4 : min x a ≤ x := Int.min_le_left ..
      have h5 : min x a ≤ a := Int.min_le_right ..
      simp only [List.mem_cons] at hy
      rcases hy with e | e | e
      · omega
      · omega
      · exact h2 y (by simp [e])
theorem fold_max : ∀ (l : List Int) (x : Int), (l.foldl max x ∈ x :: l) ∧ ∀ y ∈ x :: l, y ≤ l.foldl max x
  | [], x => by simp
  | a :: l, x => by
    obtain ⟨h1, h2⟩ := fold_max l (max x a)
    rw [List.foldl_cons]
    refine ⟨?_, fun y hy => ?_⟩
    · rcases List.mem_cons.mp h1 with e | e
      · rw [e]
        by_cases h : x ≤ a
        · simp [Int.max_eq_right h]
        · simp [Int.max_eq_left (show a ≤ x by omega)]
      · simp [e]
    · have h3 := h2 (max x a) (by simp)
      have h4 : x ≤ max x a := Int.le_max_left ..
      have h5 : a ≤ max x a := Int.le_max_right ..
      simp only [List.mem_cons] at hy
      rcases hy with e | e | e
      · omega
      · omega
      · exact h2 y (by simp [e])
end

theorem leD_data : PySem.W.dataLe false py = leD := rfl
theorem isTupNE_py {d : D} (h : isTupNE d = true) : ∃ x r, py d = .tuple (x :: r) := by
  cases d with
  | tup ds =>
    cases ds with
    | nil => cases h
    | cons a r => exact ⟨py a, pys r, by simp only [py, pys]⟩
  | _ => cases h
theorem noTupN_py {d : D} {n : Nat} (o : okD n d = true) (h : noTupN d = true) : py d ≠ .none ∧ ∀ xs, py d ≠ .tuple xs := by
  cases d with
  | tup ds => cases h
  | non => cases h
  | dic _ _ => cases n <;> simp [okD] at o
  | ref _ => cases n <;> simp [okD] at o
  | fn _ => cases n <;> simp [okD] at o
  | _ => simp only [py]; exact ⟨by simp, by simp⟩

section
variable {X : Cx}
theorem each_of {g : Gh} {F : Addr → Prop} {μ : List Addr} {H : Hp} : ∀ {ds : List D} {vs : List V} {us : List Value}, RelDs g F μ H ds vs → Vals vs us → PySem.W.EachIs (fun u d => ∃ x, RelV x u ∧ RelD g F μ H d x) us ds
  | [], vs, us, h, r => by
    simp only [RelDs] at h
    subst h
    cases r
    exact .nil
  | d :: ds, vs, us, h, r => by
    simp only [RelDs] at h
    obtain ⟨v, r', rfl, h1, h2⟩ := h
    cases r with
    | cons r1 r2 => exact .cons ⟨v, r1, h1⟩ (each_of h2 r2)
theorem each_back {g : Gh} {F : Addr → Prop} {μ : List Addr} {H : Hp} : ∀ {ds : List D} {us : List Value}, PySem.W.EachIs (fun u d => ∃ x, RelV x u ∧ RelD g F μ H d x) us ds → ∃ vs, RelDs g F μ H ds vs ∧ Vals vs us
  | _, _, .nil => ⟨[], .nil, .nil⟩
  | _, _, .cons ⟨x, r, h⟩ t => by
    obtain ⟨vs, h1, h2⟩ := each_back t
    exact ⟨x :: vs, .cons h h1, .cons r h2⟩
theorem each_imp {α β : Type} {R S : α → β → Prop} : ∀ {us : List α} {ds : List β}, PySem.W.EachIs R us ds → (∀ u d, d ∈ ds → R u d → S u d) → PySem.W.EachIs S us ds
  | _, _, .nil, _ => .nil
  | _, _, .cons h t, f => .cons (f _ _ (by simp) h) (each_imp t fun u d hd => f u d (by simp [hd]))

theorem sorted_run (hu : Rmk X) {F : Addr → Prop} {μ : List Addr} {pins : List (Addr × Obj)} {s : Shared} {σ : L2.St} {H : Hp} {Q : VK} {a : Addr} {ds out : List D} {vs : List V} (I : Inv X pins σ H s) (ha : SqL X.K H a vs) (h : RelDs (ghX X) F μ H ds vs) (e : sortD ds = some out)
    (q : ∀ v H', Alc (ghX X) F μ H (.lst out) true v H' → Q v H') : wpAny (model X.prog X.w) X.A (call (.builtin "sorted") [.ref a]) (EP X pins σ Q) X.xe s := by
  have e := sortD_M e
  unfold sortM at e
  split at e
  · rename_i hs
    have e' := Option.some.inj e
    subst e'
    unfold sortable at hs
    simp only [Bool.and_eq_true, Bool.or_eq_true, List.all_eq_true] at hs
    obtain ⟨⟨hok, hal⟩, hk⟩ := hs
    obtain ⟨its, rv, hl, hz⟩ := I.list ha
    have he := each_of h rv
    have hlen := h.length
    refine PySem.W.sorted_data (R := fun u d => ∃ x, RelV x u ∧ RelD (ghX X) F μ H d x) (enc := py) hl.isList he ?_ ?_ ?_ (by rw [hlen]; exact hz) ?_ fun o ho eo => ?_
    · exact each_imp he fun u d hd ⟨x, r, hx⟩ => Dp.reads I (py d) x u (dp_of 20 d x (hok d hd) (.inl hx)) r
    · intro x hx y hy
      obtain ⟨b, hb, rfl⟩ := List.mem_map.mp hx
      obtain ⟨c, hc, rfl⟩ := List.mem_map.mp hy
      exact hal b hb c hc
    · rcases hk with hk | hk
      · exact .inl fun d hd => by
          obtain ⟨b, hb, rfl⟩ := List.mem_map.mp hd
          exact isTupNE_py (hk b hb)
      · exact .inr fun d hd => by
          obtain ⟨b, hb, rfl⟩ := List.mem_map.mp hd
          exact noTupN_py (hok b hb) (hk b hb)
    · intro b hb
      have := ok_depth 20 b (hok b hb)
      have : Rmk X := hu
      unfold Rmk at this
      omega
    · rw [leD_data] at eo
      obtain ⟨ws, h1, h2⟩ := each_back eo
      obtain ⟨ep, he'⟩ := PyProof.Rows.sortedAll_at s.heap its o.toArray
      have hw : ws.length ≤ sizeLine := by rw [h2.length, ho, hlen]; exact hz
      exact ⟨.ref _, upd H (s.heap.objs.size + 1) (.lst ws), I.laid (t' := s.toks) (fun _ _ => PyProof.Rows.sortedAll_old) (Nat.le_succ _) ⟨hw, o, ep, h2, he'⟩, rfl,
        q _ _ (.inr (.inr ⟨_, ws, _, rfl, I.hok.fresh (Nat.le_succ _), rfl, rfl, rfl, h1⟩))⟩
  · cases e

theorem sorted_runT (hu : Rmk X) {F : Addr → Prop} {μ : List Addr} {pins : List (Addr × Obj)} {s : Shared} {σ : L2.St} {H : Hp} {Q : VK} {a : Addr} {ds out : List D} {vs : List V} (I : Inv X pins σ H s) (ha : SqT X.K H a vs) (h : RelDs (ghX X) F μ H ds vs) (e : sortD ds = some out)
    (q : ∀ v H', Alc (ghX X) F μ H (.lst out) true v H' → Q v H') : wpAny (model X.prog X.w) X.A (call (.builtin "sorted") [.ref a]) (EP X pins σ Q) X.xe s := by
  have e := sortD_M e
  unfold sortM at e
  split at e
  · rename_i hs
    have e' := Option.some.inj e
    subst e'
    unfold sortable at hs
    simp only [Bool.and_eq_true, Bool.or_eq_true, List.all_eq_true] at hs
    obtain ⟨⟨hok, hal⟩, hk⟩ := hs
    obtain ⟨its, rv, hl, hz⟩ := I.tuple ha
    have he := each_of h rv
    have hlen := h.length
    refine sorted_tup_data (RR := fun u d => ∃ x, RelV x u ∧ RelD (ghX X) F μ H d x) (enc := py) hl he ?_ ?_ ?_ (by rw [hlen]; exact hz) ?_ fun o ho eo => ?_
    · exact each_imp he fun u d hd ⟨x, r, hx⟩ => Dp.reads I (py d) x u (dp_of 20 d x (hok d hd) (.inl hx)) r
    · intro x hx y hy
      obtain ⟨b, hb, rfl⟩ := List.mem_map.mp hx
      obtain ⟨c, hc, rfl⟩ := List.mem_map.mp hy
      exact hal b hb c hc
    · rcases hk with hk | hk
      · exact .inl fun d hd => by
          obtain ⟨b, hb, rfl⟩ := List.mem_map.mp hd
          exact isTupNE_py (hk b hb)
      · exact .inr fun d hd => by
          obtain ⟨b, hb, rfl⟩ := List.mem_map.mp hd
          exact noTupN_py (hok b hb) (hk b hb)
    · intro b hb
      have := ok_depth 20 b (hok b hb)
      have : Rmk X := hu
      unfold Rmk at this
      omega
    · rw [leD_data] at eo
      obtain ⟨ws, h1, h2⟩ := each_back eo
      obtain ⟨ep, he'⟩ := PyProof.Rows.sortedAll_at s.heap its o.toArray
      have hw : ws.length ≤ sizeLine := by rw [h2.length, ho, hlen]; exact hz
      exact ⟨.ref _, upd H (s.heap.objs.size + 1) (.lst ws), I.laid (t' := s.toks) (fun _ _ => PyProof.Rows.sortedAll_old) (Nat.le_succ _) ⟨hw, o, ep, h2, he'⟩, rfl,
        q _ _ (.inr (.inr ⟨_, ws, _, rfl, I.hok.fresh (Nat.le_succ _), rfl, rfl, rfl, h1⟩))⟩
  · cases e

theorem cr_blt (hc : X.calm = true) (hu : Rmk X) (b : Blt) : CallR X (bltV b) (rBlt (ghX X) b) := by
  intro pins s σ H vs us Q I r h
  obtain ⟨F, μ, ds, z, f, hd, e, q⟩ := h
  have pure_ : ∀ {w : V}, (f && isCont z) = false → RelD (ghX X) F μ H z w → Q w H := fun h1 h2 => q _ _ (.val h1 h2)
  match ds, hd, e with
  | [], hd, e => cases b <;> simp [bltD] at e
  | [a], hd, e =>
    obtain ⟨v, rfl, hv⟩ := hd.one
    cases b with
    | len =>
      simp only [bltD] at e
      obtain ⟨n, en, ez⟩ := Option.map_eq_some_iff.mp e
      simp only [Prod.mk.injEq] at ez
      obtain ⟨rfl, rfl⟩ := ez
      cases a <;> first | (simp [lenD] at en; done) | skip
      · simp only [lenD] at en
        split at en
        · rename_i hl
          rw [hv.str] at r
          have en' := Option.some.inj en
          subst en'
          exact call_len pins s σ H _ us Q I r ⟨_, _, rfl, ⟨by rw [← lim_line]; exact hl, rfl⟩, pure_ rfl relInt⟩
        · cases en
      · obtain ⟨p, ws, rfl, h1, h2⟩ := hv.tup
        have en' := Option.some.inj en
        subst en'
        exact call_len pins s σ H _ us Q I r ⟨_, _, rfl, .inr ⟨ws, h1, h2.length⟩, pure_ rfl relInt⟩
      · obtain ⟨p, ws, rfl, h1, h2⟩ := hv.lst
        have en' := Option.some.inj en
        subst en'
        exact call_len pins s σ H _ us Q I r ⟨_, _, rfl, .inl ⟨ws, h1, h2.length⟩, pure_ rfl relInt⟩
      · obtain ⟨p, kv, ws, rfl, h1, h2, keys, rfl, hl, e5⟩ := hv.dic
        have en' := Option.some.inj en
        subst en'
        rw [Vals.ref1 r]
        have hk := h1.length
        rw [List.length_map] at hk
        refine d_len I (.inl e5) fun t s' I' => ⟨.int (keys.zip ws).length, H, I', ⟨t, rfl⟩, pure_ rfl ?_⟩
        rw [List.length_zip, ← hl, Nat.min_self, ← hk]
        exact relInt
    | sorted =>
      cases a <;> first | (simp [bltD, seqD] at e; done) | skip
      · simp only [bltD, seqD, Option.bind_some] at e
        obtain ⟨out, en, ez⟩ := Option.map_eq_some_iff.mp e
        simp only [Prod.mk.injEq] at ez
        obtain ⟨rfl, rfl⟩ := ez
        obtain ⟨p, ws, rfl, h1, h2⟩ := hv.tup
        rw [Vals.ref1 r]
        exact sorted_runT hu I h1 h2 en q
      · simp only [bltD, seqD, Option.bind_some] at e
        obtain ⟨out, en, ez⟩ := Option.map_eq_some_iff.mp e
        simp only [Prod.mk.injEq] at ez
        obtain ⟨rfl, rfl⟩ := ez
        obtain ⟨p, ws, rfl, h1, h2⟩ := hv.lst
        rw [Vals.ref1 r]
        exact sorted_run hu I h1 h2 en q
    | tuple =>
      cases a <;> first | (simp [bltD, seqD] at e; done) | skip
      · simp only [bltD, seqD, Option.map_some, Option.some.injEq, Prod.mk.injEq] at e
        obtain ⟨rfl, rfl⟩ := e
        obtain ⟨p, ws, rfl, h1, h2⟩ := hv.tupH
        refine call_tuple_of pins s σ H _ us Q I r ⟨p, ws, rfl, .inr ⟨h1.1, pure_ rfl ?_⟩⟩
        simp only [RelD]
        exact ⟨p, ws, rfl, h1, h2⟩
      · simp only [bltD, seqD, Option.map_some, Option.some.injEq, Prod.mk.injEq] at e
        obtain ⟨rfl, rfl⟩ := e
        obtain ⟨p, ws, rfl, h1, h2⟩ := hv.lst
        exact call_tuple_of pins s σ H _ us Q I r ⟨p, ws, rfl, .inl ⟨h1, fun l hl => q _ _ (.inr (.inl ⟨l, ws, _, rfl, hl, rfl, rfl, h2⟩))⟩⟩
    | list =>
      cases a <;> first | (simp [bltD, seqD] at e; done) | skip
      · simp only [bltD, seqD, Option.map_some, Option.some.injEq, Prod.mk.injEq] at e
        obtain ⟨rfl, rfl⟩ := e
        obtain ⟨p, ws, rfl, h1, h2⟩ := hv.tup
        exact call_list_of pins s σ H _ us Q I r ⟨p, ws, rfl, .inr h1, fun l hl => q _ _ (.inr (.inr ⟨l, ws, _, rfl, hl, rfl, rfl, rfl, h2⟩))⟩
      · simp only [bltD, seqD, Option.map_some, Option.some.injEq, Prod.mk.injEq] at e
        obtain ⟨rfl, rfl⟩ := e
        obtain ⟨p, ws, rfl, h1, h2⟩ := hv.lst
        exact call_list_of pins s σ H _ us Q I r ⟨p, ws, rfl, .inl h1, fun l hl => q _ _ (.inr (.inr ⟨l, ws, _, rfl, hl, rfl, rfl, rfl, h2⟩))⟩
    | sum =>
      cases a <;> first | (simp [bltD] at e; done) | skip
      simp only [bltD] at e
      obtain ⟨l, en, ez⟩ := Option.map_eq_some_iff.mp e
      simp only [Prod.mk.injEq] at ez
      obtain ⟨rfl, rfl⟩ := ez
      obtain ⟨p, ws, rfl, h1, h2⟩ := hv.lst
      have h3 := (relDs_ints en h2).1
      subst h3
      exact cr_sum hc pins s σ H _ us Q I r ⟨p, l, rfl, h1, pure_ rfl relInt⟩
    | all =>
      cases a <;> first | (simp [bltD] at e; done) | skip
      simp only [bltD] at e
      obtain ⟨l, en, ez⟩ := Option.map_eq_some_iff.mp e
      simp only [Prod.mk.injEq] at ez
      obtain ⟨rfl, rfl⟩ := ez
      obtain ⟨p, ws, rfl, h1, h2⟩ := hv.lst
      have h3 := relDs_bls en h2
      subst h3
      exact cr_all hc pins s σ H _ us Q I r ⟨p, l, rfl, h1, pure_ rfl relBl⟩
    | any =>
      cases a <;> first | (simp [bltD] at e; done) | skip
      simp only [bltD] at e
      obtain ⟨l, en, ez⟩ := Option.map_eq_some_iff.mp e
      simp only [Prod.mk.injEq] at ez
      obtain ⟨rfl, rfl⟩ := ez
      obtain ⟨p, ws, rfl, h1, h2⟩ := hv.lst
      have h3 := relDs_bls en h2
      subst h3
      exact cr_any hc pins s σ H _ us Q I r ⟨p, l, rfl, h1, pure_ rfl relBl⟩
    | abs =>
      cases a <;> first | (simp [bltD] at e; done) | skip
      simp only [bltD, Option.some.injEq, Prod.mk.injEq] at e
      obtain ⟨rfl, rfl⟩ := e
      rw [hv.int] at r
      exact call_abs pins s σ H _ us Q I r ⟨_, rfl, pure_ rfl relInt⟩
    | int =>
      cases a <;> first | (simp [bltD] at e; done) | skip
      · simp only [bltD, Option.some.injEq, Prod.mk.injEq] at e
        obtain ⟨rfl, rfl⟩ := e
        rw [hv.bl] at r
        exact call_int1 pins s σ H _ us Q I r (.inr ⟨_, rfl, pure_ rfl relInt⟩)
      · simp only [bltD, Option.some.injEq, Prod.mk.injEq] at e
        obtain ⟨rfl, rfl⟩ := e
        rw [hv.int] at r
        exact call_int1 pins s σ H _ us Q I r (.inl ⟨_, rfl, pure_ rfl relInt⟩)
    | min =>
      cases a <;> first | (simp [bltD] at e; done) | skip
      simp only [bltD] at e
      split at e
      · rename_i x l en
        simp only [Option.some.injEq, Prod.mk.injEq] at e
        obtain ⟨rfl, rfl⟩ := e
        obtain ⟨p, ws, rfl, h1, h2⟩ := hv.lst
        have h3 := (relDs_ints en h2).1
        subst h3
        refine cr_min hc pins s σ H _ us Q I r ⟨p, x :: l, rfl, h1, by simp, fun m hm hle => ?_⟩
        obtain ⟨g1, g2⟩ := fold_min l x
        have e1 : m = l.foldl min x := by
          have := hle _ g1
          have := g2 m hm
          omega
        rw [e1]
        exact pure_ rfl relInt
      · cases e
    | max =>
      cases a <;> first | (simp [bltD] at e; done) | skip
      simp only [bltD] at e
      split at e
      · rename_i x l en
        simp only [Option.some.injEq, Prod.mk.injEq] at e
        obtain ⟨rfl, rfl⟩ := e
        obtain ⟨p, ws, rfl, h1, h2⟩ := hv.lst
        have h3 := (relDs_ints en h2).1
        subst h3
        refine cr_max hc pins s σ H _ us Q I r ⟨p, x :: l, rfl, h1, by simp, fun m hm hle => ?_⟩
        obtain ⟨g1, g2⟩ := fold_max l x
        have e1 : m = l.foldl max x := by
          have := hle _ g1
          have := g2 m hm
          omega
        rw [e1]
        exact pure_ rfl relInt
      · cases e
    | str => simp [bltD] at e
    | divmod => simp [bltD] at e
    | gcd => simp [bltD] at e
  | [a, a'], hd, e =>
    obtain ⟨v, w, rfl, hv, hw⟩ := hd.two
    have hw' : RelC (ghX X) F μ H a' w := .inl hw
    cases b with
    | min =>
      cases a <;> cases a' <;> first | (simp [bltD] at e; done) | skip
      simp only [bltD, Option.some.injEq, Prod.mk.injEq] at e
      obtain ⟨rfl, rfl⟩ := e
      rw [hv.int, hw'.int] at r
      exact call_min2 hc pins s σ H _ us Q I r ⟨_, _, rfl, pure_ rfl relInt⟩
    | max =>
      cases a <;> cases a' <;> first | (simp [bltD] at e; done) | skip
      simp only [bltD, Option.some.injEq, Prod.mk.injEq] at e
      obtain ⟨rfl, rfl⟩ := e
      rw [hv.int, hw'.int] at r
      exact call_max2 hc pins s σ H _ us Q I r ⟨_, _, rfl, pure_ rfl relInt⟩
    | divmod =>
      cases a <;> cases a' <;> first | (simp [bltD] at e; done) | skip
      simp only [bltD] at e
      split at e
      · rename_i hj
        simp only [Option.some.injEq, Prod.mk.injEq] at e
        obtain ⟨rfl, rfl⟩ := e
        rw [hv.int, hw'.int] at r
        exact call_divmod pins s σ H _ us Q I r ⟨_, _, rfl, hj, fun p hp => q _ _ (.inr (.inl ⟨p, _, _, rfl, hp, rfl, rfl, .cons relInt (.one relInt)⟩))⟩
      · cases e
    | gcd =>
      cases a <;> cases a' <;> first | (simp [bltD] at e; done) | skip
      simp only [bltD, Option.some.injEq, Prod.mk.injEq] at e
      obtain ⟨rfl, rfl⟩ := e
      rw [hv.int, hw'.int] at r
      exact cr_gcd pins s σ H _ us Q I r ⟨_, _, rfl, pure_ rfl relInt⟩
    | len => simp [bltD] at e
    | sorted => cases a <;> simp [bltD] at e
    | tuple => simp [bltD] at e
    | list => simp [bltD] at e
    | sum => cases a <;> simp [bltD] at e
    | all => cases a <;> simp [bltD] at e
    | any => cases a <;> simp [bltD] at e
    | abs => cases a <;> simp [bltD] at e
    | int => cases a <;> simp [bltD] at e
    | str => simp [bltD] at e
  | a :: a' :: a'' :: t, hd, e => cases b <;> cases a <;> (try cases a') <;> simp [bltD] at e
end
end Rv

set_option Elab.async false
set_option linter.all false
set_option maxRecDepth 100000
set_option maxHeartbeats 4000000
/-! The check that a text's expression is brought to one of the small language, and what it gives: expressions. -/
namespace Rv
open PySem PySem.Spec PyProof.Rows L2

structure Ck where
  N : List Str
  free : List Str
  gb : List (Str × String)
  kw : List (Str × List Str × List Nat)

def okNm (x : Str) : Bool := !(x == ("__debug__" : Str)) && !(x == ("__classdict__" : Str)) && !decide (x = ("__name__" : Str))
def visB (sc : Scope) (x : Str) : Bool := match sc.names.lookup x with
  | some .local => true
  | some .cell => true
  | some .free => true
  | _ => false
def locB (sc : Scope) (x : Str) : Bool := match sc.names.lookup x with
  | some .local => true
  | some .cell => true
  | _ => false
def glB (sc : Scope) (x : Str) : Bool := (match sc.names.lookup x with
  | some .globalImplicit => true
  | _ => false) && okNm x
def bltN : Blt → Str
  | .len => "len" | .sorted => "sorted" | .tuple => "tuple" | .list => "list" | .sum => "sum" | .all => "all" | .any => "any"
  | .abs => "abs" | .int => "int" | .str => "str" | .min => "min" | .max => "max" | .divmod => "divmod" | .gcd => "gcd"
def isGcd : Blt → Bool
  | .gcd => true
  | _ => false
def slotB (ck : Ck) (sc : Scope) (i : Nat) (x : Str) : Bool := decide (ck.N[i]? = some x) && visB sc x && okNm x
def freeB (ck : Ck) (sc : Scope) (x y : Str) : Bool := decide (x = y) && glB sc x && ck.free.contains x
def nStar : Expr → Bool
  | .Starred _ _ => false
  | _ => true
def plainIx : Expr → Bool
  | .Slice _ _ _ _ => false
  | _ => true
/-- its truth is that of its value -/
def plainT : Expr → Bool
  | .UnaryOp _ _ _ => false
  | .BoolOp _ _ _ => false
  | .IfExp _ _ _ _ => false
  | .Compare _ _ _ _ => false
  | _ => true
def noSet : Expr → Bool
  | .Set _ _ _ => false
  | _ => true

/-- a plain name that may be stored here: fn, the names whose cells were made at the entry -/
def tgB (fn : Str → Bool) (sc : Scope) (y : Str) : Bool := locB sc y && (fn y || decide (sc.names.lookup y = some .local))
def ownCell (scope : Scope) (y : Str) : Bool := scope.names.lookup y == some .cell
/-- the receiver is no call without arguments -/
def abOk : Expr → Bool
  | .Call _ (_ :: _) _ _ => true
  | .Call _ _ _ _ => false
  | _ => true
def nStE : E → Bool
  | .star _ => false
  | _ => true
def mthN : Mth → Str
  | .index => "index" | .count => "count" | .get => "get" | .join => "join" | .split => "split"
def mthB : Mth → Bool
  | .index => true
  | .count => true
  | _ => false
def tyN : Ty → Str
  | .int => "int" | .bool => "bool" | .str => "str" | .tuple => "tuple" | .list => "list"
def ownOf (N : List Str) (vars : List Nat) : List (Str × Nat) := vars.map fun i => (N.getD i "", i)
mutual
def tvars : E → List Nat
  | .var i => [i]
  | .tup ts => tvarsL ts
  | _ => []
def tvarsL : List E → List Nat
  | [] => []
  | t :: ts => tvars t ++ tvarsL ts
end
def subB (l vars : List Nat) : Bool := l.all fun i => vars.contains i
/-- keys and values of a display, one behind another -/
def flatKV : List (Option Expr) → List Expr → List Expr
  | some k :: ks, v :: vs => k :: v :: flatKV ks vs
  | _, _ => []

section
variable (ck : Ck)
mutual
/-- the expression is the one told by the first -/
def cE : E → Scope → Expr → Bool
  | .lit d, sc => fun e => match e with
    | .Constant .none _ _ => (match d with | .non => true | _ => false)
    | .Constant (.bool b) _ _ => (match d with | .bl c => b == c | _ => false)
    | .Constant (.int b) _ _ => (match d with | .int c => b == c | _ => false)
    | .Constant (.str b) _ _ => (match d with | .str c => decide (b = c) | _ => false)
    | _ => false
  | .gc x, sc => fun e => match e with
    | .Name y _ => decide (x = y) && glB sc x
    | _ => false
  | .var i, sc => fun e => match e with
    | .Name y _ => slotB ck sc i y
    | _ => false
  | .mv i, sc => fun e => match e with
    | .Name y _ => slotB ck sc i y
    | _ => false
  | .bin o a b, sc => fun e => match e with
    | .BinOp l op r _ => decide (op = bopOf o) && cE a sc l && cE b sc r
    | _ => false
  | .neg a, sc => fun e => match e with
    | .UnaryOp .USub x _ => cE a sc x
    | _ => false
  | .inv a, sc => fun e => match e with
    | .UnaryOp .Invert x _ => cE a sc x
    | _ => false
  | .bnot a, sc => fun e => match e with
    | .UnaryOp .Not x _ => cE a sc x
    | _ => false
  | .bop k es, sc => fun e => match e with
    | .BoolOp op xs _ => (match op with | .And => k | .Or => !k) && !es.isEmpty && cEs es sc xs
    | _ => false
  | .cmp o a b, sc => fun e => match e with
    | .Compare l [op] [r] _ => decide (op = copOf o) && cE a sc l && cE b sc r && noSet r
    | _ => false
  | .cmp2 o o' a b c, sc => fun e => match e with
    | .Compare l [op, op'] [r, r'] _ => decide (op = copOf o) && decide (op' = copOf o') && cE a sc l && cE b sc r && cE c sc r' && noSet r && noSet r'
    | _ => false
  | .cmpO o i b, sc => fun e => match e with
    | .Compare (.Name y _) [op] [r] _ => decide (op = copOf o) && slotB ck sc i y && cE b sc r && noSet r
    | _ => false
  | .inO neg a i, sc => fun e => match e with
    | .Compare l [op] [.Name y _] _ => decide (op = if neg then .NotIn else .In) && cE a sc l && slotB ck sc i y
    | _ => false
  | .ife c a b, sc => fun e => match e with
    | .IfExp t x y _ => cE c sc t && cE a sc x && cE b sc y
    | _ => false
  | .tup es, sc => fun e => match e with
    | .Tuple xs _ _ => cDs es sc xs
    | _ => false
  | .lst es, sc => fun e => match e with
    | .List xs _ => cDs es sc xs
    | _ => false
  | .newH es, sc => fun e => match e with
    | .List xs _ => cDs es sc xs
    | _ => false
  | .idx a k, sc => fun e => match e with
    | .Subscript x s _ => cE a sc x && cE k sc s && plainIx s
    | _ => false
  | .idxO i k, sc => fun e => match e with
    | .Subscript (.Name y _) s _ => slotB ck sc i y && cE k sc s && plainIx s
    | _ => false
  | .slc a lo hi, sc => fun e => match e with
    | .Subscript x (.Slice l u none _) _ => cE a sc x && (match lo with | .omit => l.isNone | _ => match l with | some q => cE lo sc q | none => false) && (match hi with | .omit => u.isNone | _ => match u with | some q => cE hi sc q | none => false)
    | _ => false
  | .slcO i lo hi, sc => fun e => match e with
    | .Subscript (.Name y _) (.Slice l u none _) _ => slotB ck sc i y && (match lo with | .omit => l.isNone | _ => match l with | some q => cE lo sc q | none => false) && (match hi with | .omit => u.isNone | _ => match u with | some q => cE hi sc q | none => false)
    | _ => false
  | .call f args, sc => fun e => match e with
    | .Call (.Name y _) xs [] _ => decide (f = y) && glB sc f && (cEs args sc xs && args.all nStE) && xs.all nStar
    | _ => false
  | .callK f pm args, sc => fun e => match e with
    | .Call (.Name y _) [] kws _ => decide (f = y) && glB sc f && kws.all (·.arg.isSome) && decide ((f, kws.filterMap (·.arg), pm) ∈ ck.kw) && (cEs args sc (kws.map (·.value)) && args.all nStE) && (kws.map (·.value)).all nStar
    | _ => false
  | .rev a, sc => fun e => match e with
    | .Subscript x (.Slice none none (some (.UnaryOp .USub (.Constant (.int 1) _ _) _)) _) _ => cE a sc x
    | _ => false
  | .blt b args, sc => fun e => match e with
    | .Call (.Name y _) (x :: xs) [] _ => (if isGcd b then decide (y = bltN b) && glB sc (bltN b) && decide (ck.gb.lookup (bltN b) = some "math.gcd") else freeB ck sc (bltN b) y) && (cEs args sc (x :: xs) && args.all nStE) && (x :: xs).all nStar
    | _ => false
  | .lenO i, sc => fun e => match e with
    | .Call (.Name f _) [.Name y _] [] _ => freeB ck sc (bltN .len) f && slotB ck sc i y
    | _ => false
  | .mth m a args, sc => fun e => match e with
    | .Call (.Attribute o n apos) (x :: xs) [] pos => mthB m && decide (n = mthN m) && cE a sc o && cEs args sc (x :: xs) && (x :: xs).all nStar && args.all nStE && decide ((x :: xs).length < 30) && abOk o && (apos.endLine == pos.line)
    | _ => false
  | .dic kvs, sc => fun e => match e with
    | .Dict keys values _ => keys.all (·.isSome) && decide (keys.length = values.length) && !keys.isEmpty && decide (keys.length ≤ 15) && decide (kvs.length % 2 = 0) && kvs.all nStE && cEs kvs sc (flatKV keys values)
    | _ => false
  | .lenset es, sc => fun e => match e with
    | .Call (.Name f _) [.Set xs k _] [] _ => freeB ck sc "len" f && decide (k = 0) && cEs es sc xs && xs.all nStar && es.all nStE
    | _ => false
  | .isi t a, sc => fun e => match e with
    | .Call (.Name f _) [x, .Name y _] [] _ => freeB ck sc "isinstance" f && freeB ck sc (tyN t) y && cE a sc x && nStar x
    | _ => false
  | .srtSet a, sc => fun e => match e with
    | .Call (.Name f _) [.Call (.Name y _) [x] [] _] [] _ => freeB ck sc "sorted" f && freeB ck sc "set" y && cE a sc x && nStar x
    | _ => false
  | .lenSet a, sc => fun e => match e with
    | .Call (.Name f _) [.Call (.Name y _) [x] [] _] [] _ => freeB ck sc "len" f && freeB ck sc "set" y && cE a sc x && nStar x
    | _ => false
  | .comp tg it ifs elt vars, sc => fun e => match e with
    | .ListComp eltE [⟨tgE, itE, ifsE, z⟩] scope _ => decide (z = 0) && blkC ck.N sc scope (ownOf ck.N vars) && subB (tvars tg) vars && cI it sc tgE itE && cT (ownCell scope) tg (relS scope sc) tgE && decide (ifs.length ≤ 1) && cEs ifs (relS scope sc) ifsE && cE elt (relS scope sc) eltE && noSet itE
    | _ => false
  | .comp2 tg it ifs tg' it' ifs' elt vars vars', sc => fun e => match e with
    | .ListComp eltE [⟨tgE, itE, ifsE, z⟩, ⟨tgE', itE', ifsE', z'⟩] scope _ => decide (z = 0) && decide (z' = 0) && blkC ck.N sc scope (ownOf ck.N vars) && subB (tvars tg) vars && subB (tvars tg') vars' && subB vars' vars && cI it sc tgE itE && cT (ownCell scope) tg (relS scope sc) tgE && decide (ifs.length ≤ 1) && cEs ifs (relS scope sc) ifsE &&
        cI it' (relS scope sc) tgE' itE' && cT (ownCell scope) tg' (relS scope sc) tgE' && decide (ifs'.length ≤ 1) && cEs ifs' (relS scope sc) ifsE' && cE elt (relS scope sc) eltE && noSet itE && noSet itE'
    | _ => false
  | _, _ => fun _ => false
/-- what a loop walks -/
def cI : E → Scope → Expr → (Expr → Bool)
  | .rng args, sc, _ => fun e => match e with
    | .Call (.Name f _) xs [] _ => freeB ck sc "range" f && (decide (xs.length = 1) || decide (xs.length = 2)) && cEs args sc xs && xs.all nStar && args.all nStE
    | _ => false
  | .zip a b, sc, tgE => fun e => match e with
    | .Call (.Name f _) [x, y] [] _ => freeB ck sc "zip" f && cE a sc x && cE b sc y && nStar x && nStar y && (match tgE with | .Tuple _ _ _ => true | _ => false)
    | _ => false
  | .enu a, sc, tgE => fun e => match e with
    | .Call (.Name f _) [x] [] _ => freeB ck sc "enumerate" f && cE a sc x && nStar x && (match tgE with | .Tuple _ _ _ => true | _ => false)
    | _ => false
  | .it a, sc, _ => fun e => cE a sc e
  | _, _, _ => fun _ => false
/-- what a value is stored to -/
def cT (fn : Str → Bool) : E → Scope → (Expr → Bool)
  | .var i, sc => fun e => match e with
    | .Name y _ => decide (ck.N[i]? = some y) && tgB fn sc y
    | _ => false
  | .tup ts, sc => fun e => match e with
    | .Tuple xs _ _ => cTs fn ts sc xs && xs.all nStar
    | _ => false
  | .idxO i k, sc => fun e => match e with
    | .Subscript (.Name y _) s _ => slotB ck sc i y && cE k sc s && plainIx s
    | _ => false
  | _, _ => fun _ => false
def cTs (fn : Str → Bool) : List E → Scope → (List Expr → Bool)
  | [], _ => fun xs => xs.isEmpty
  | t :: ts, sc => fun xs => match xs with
    | x :: xs => cT fn t sc x && cTs fn ts sc xs
    | [] => false
def cEs : List E → Scope → List Expr → Bool
  | [], _ => fun xs => xs.isEmpty
  | e :: es, sc => fun xs => match xs with
    | x :: xs => cE e sc x && cEs es sc xs
    | [] => false
def cDs : List E → Scope → List Expr → Bool
  | [], _ => fun xs => xs.isEmpty
  | .star e :: es, sc => fun xs => match xs with
    | .Starred y _ :: xs => cE e sc y && cDs es sc xs
    | _ => false
  | e :: es, sc => fun xs => match xs with
    | x :: xs => nStar x && cE e sc x && cDs es sc xs
    | [] => false
end
theorem cE_there (d : D) (sc : Scope) (e : Expr) (h : cE ck (.lit d) sc e = false) : cE ck (.lit d) sc e ≠ true := by
  simp only [cE] at h ⊢
  rw [h]
  exact Bool.false_ne_true
end
end Rv

set_option Elab.async false
set_option linter.all false
set_option maxRecDepth 100000
set_option maxHeartbeats 4000000
/-! What the check gives: the readings of expressions. -/
namespace Rv
open PySem PySem.Spec PyProof.Rows L2

section
variable (g : Gh) (Γ : Tab) (cf : Str → List D → St → Option (D × Bool × St))
/-- an expression's reading: what comes may be new -/
def TE_ (ir : E) : TE := fun σ H Q => ∃ Z F μ ρ st d f ρ' st', R g Z F μ ρ st σ H ∧ evE Γ cf ir ρ st = some (d, f, ρ', st') ∧
  ∀ F' μ' H' v, Ext Z F μ H F' μ' H' → R g Z F' μ' ρ' st' σ H' → VR g Z F' μ' ρ' σ H' f d v → Q v H'
/-- .. what comes is a value -/
def TD_ (ir : E) : TE := fun σ H Q => ∃ Z F μ ρ st d f ρ' st', R g Z F μ ρ st σ H ∧ evE Γ cf ir ρ st = some (d, f, ρ', st') ∧
  ∀ F' μ' H' v, Ext Z F μ H F' μ' H' → R g Z F' μ' ρ' st' σ H' → RelD g F' μ' H' d v → Q v H'
def TT_ (ir : E) : TT := fun σ H Q => ∃ Z F μ ρ st b f ρ' st', R g Z F μ ρ st σ H ∧ evE Γ cf ir ρ st = some (.bl b, f, ρ', st') ∧
  ∀ F' μ' H', Ext Z F μ H F' μ' H' → R g Z F' μ' ρ' st' σ H' → Q b H'
def TL_ (es : List E) : TA := fun σ H Q => ∃ Z F μ ρ st ds ρ' st', R g Z F μ ρ st σ H ∧ evL Γ cf es ρ st = some (ds, ρ', st') ∧
  ∀ F' μ' H' vs, Ext Z F μ H F' μ' H' → R g Z F' μ' ρ' st' σ H' → RelDs g F' μ' H' ds vs → Q vs H'
/-- a name's value, whatever it holds -/
def TV_ (i : Nat) : TE := fun σ H Q => ∃ v, σ[i]? = some (some v) ∧ Q v H
/-- a def's promise: what the evaluator makes of it -/
def spF (f : Str) (n : Nat) : Sp := fun vs H Q _ => ∃ Z F μ st ds d fr st', R g Z F μ [] st [] H ∧ RelDs g F μ H ds vs ∧ ds.length = n ∧ cf f ds st = some (d, fr, st') ∧
  ∀ F' μ' H' v, Ext Z F μ H F' μ' H' → R g Z F' μ' [] st' [] H' → VR g Z F' μ' [] [] H' fr d v → Q v H'
end

/-- what is known where a def's body runs -/

def KB0 (K : PySem.W.Frag) (fd : FuncData) (ps ks : List Str) (pm : List Nat) : Prop := ∀ (s : Shared) (ws : List Value), ws.length = ks.length → BindsTo s fd ⟨[], ks.zip ws⟩ (ps.zip (pickV .none pm ws))
structure Cok (ck : Ck) (Γ : Tab) (cf : Str → List D → St → Option (D × Bool × St)) (k : Nat) (X : Cx) : Prop where
  calm : X.calm = true
  N : X.N = ck.N
  nd : X.N.Nodup
  code : PySem.W.kdsCode X.K X.env.code = true
  room : Room k X.A
  free : ∀ x, ck.free.contains x = true → X.mg x = none
  gb : ∀ x b, ck.gb.lookup x = some b → X.mg x = some (.builtin b)
  gcs : ∀ x d, Γ.gcs x = some d → ∃ u v, X.mg x = some u ∧ RelV v u ∧ ∀ F μ H, RelD (ghX X) F μ H d v
  fns : ∀ f fn, Γ.fns f = some fn → ∃ fa fd, X.mg f = some (.ref fa) ∧ PySem.W.keepIn X.K (.ref fa) = true ∧ Binds X.K fd fn.ps [] ∧ FnOk X.prog X.w X.K X.mg X.base CX0 k fa fd fn.ps (spF (ghX X) cf f fn.ps.length) ∧ ∀ ks pm, (f, ks, pm) ∈ ck.kw → KB0 X.K fd fn.ps ks pm
  cfl : ∀ f ds st r, cf f ds st = some r → ∃ fn, Γ.fns f = some fn ∧ ds.length = fn.ps.length
theorem Cok.rm {ck : Ck} {Γ : Tab} {cf : Str → List D → St → Option (D × Bool × St)} {k : Nat} {X : Cx} (c : Cok ck Γ cf k X) : Rmk X := by
  have := c.room.un
  unfold Rmk
  omega
theorem Cok.u64 {ck : Ck} {Γ : Tab} {cf : Str → List D → St → Option (D × Bool × St)} {k : Nat} {X : Cx} (c : Cok ck Γ cf k X) : X.A.units + 64 < cLine := by
  have := c.rm
  unfold Rmk at this
  omega
theorem Cok.u1 {ck : Ck} {Γ : Tab} {cf : Str → List D → St → Option (D × Bool × St)} {k : Nat} {X : Cx} (c : Cok ck Γ cf k X) : X.A.units + 1 < cLine := by
  have := c.room.un
  omega

section
variable {ck : Ck} {Γ : Tab} {cf : Str → List D → St → Option (D × Bool × St)} {k : Nat} {X : Cx} {Z : Addr → Prop} {e : Expr} {ir : E}
theorem PEimp {t t' : TE} (h : PE X e t) (w : ∀ σ H Q, t' σ H Q → t σ H Q) : PE X e t' := ⟨fun pins s σ H Q I q => h.run pins s σ H Q I (w σ H Q q)⟩
theorem PTimp {t t' : TT} (h : PT X e t) (w : ∀ σ H Q, t' σ H Q → t σ H Q) : PT X e t' := ⟨fun pins s σ H Q I q => h.run pins s σ H Q I (w σ H Q q)⟩
theorem PWimp {t t' : TT} (h : PW X e t) (w : ∀ σ H Q, t' σ H Q → t σ H Q) : PW X e t' := ⟨fun wh pins s σ H Q I q => h.run wh pins s σ H Q I (w σ H Q q)⟩
theorem PAimp {es : List Expr} {t t' : TA} (h : PA X es t) (w : ∀ σ H Q, t' σ H Q → t σ H Q) : PA X es t' := ⟨fun pos pins s σ H Q I q => h.run pos pins s σ H Q I (w σ H Q q)⟩

theorem toD {g : Gh} (h : PE X e (TE_ g Γ cf ir)) : PE X e (TD_ g Γ cf ir) := PEimp h fun σ H Q ⟨Z, F, μ, ρ, st, d, f, ρ', st', r, ev, q⟩ =>
  ⟨Z, F, μ, ρ, st, d, f, ρ', st', r, ev, fun F' μ' H' v x r' hv => by
    obtain ⟨F2, x2, r2, h2⟩ := hv.thaw r'
    exact q F2 μ' H' v (x.trans x2) r2 h2⟩
/-- a test by its value -/
theorem toT {g : Gh} (h : PE X e (TE_ g Γ cf ir)) (he : plainT e = true) : PT X e (TT_ g Γ cf ir) := by
  refine PTimp (pt_val (toD h) ?_) fun σ H Q ⟨Z, F, μ, ρ, st, b, f, ρ', st', r, ev, q⟩ => ?_
  · intro whole
    cases e with
    | UnaryOp => cases he
    | BoolOp => cases he
    | IfExp => cases he
    | Compare => cases he
    | _ => rfl
  · refine ⟨Z, F, μ, ρ, st, _, f, ρ', st', r, ev, fun F' μ' H' v x r' hv => ?_⟩
    simp only [RelD] at hv
    exact ⟨b, hv, q F' μ' H' x r'⟩
theorem isTrue_ifE {t a b : Expr} {pos : Pos} {tt ta tb : TT} (h : PT X t tt) (ha : PT X a ta) (hb : PT X b tb) : PT X (.IfExp t a b pos) (fun σ H Q => tt σ H fun c H1 => if c = true then ta σ H1 Q else tb σ H1 Q) := by
  refine ⟨fun pins s σ H Q I q => ?_⟩
  refine isTrue_IfExp (thn (h.run pins s σ H _ I q) fun c s1 ⟨H1, I1, q1⟩ => ?_)
  cases c with
  | true => exact ha.run pins s1 σ H1 Q I1 q1
  | false => exact hb.run pins s1 σ H1 Q I1 q1

theorem starEach_cons {x : Expr} {xs : List Expr} {env : Env} (h : nStar x = true) : starEach (x :: xs) env = (false, eval x env) :: starEach xs env := by
  cases x <;> first | rfl | cases h
theorem noStars {pos : Pos} {env : Env} : ∀ {xs : List Expr}, xs.all nStar = true → (backTo pos (starEach xs env)).any (·.1) = false
  | [], _ => rfl
  | x :: xs, h => by
    simp only [List.all_cons, Bool.and_eq_true] at h
    rw [starEach_cons h.1]
    show (false || (backTo pos (starEach xs env)).any (·.1)) = false
    rw [noStars h.2]
    rfl

/-! ### names -/
theorem vis_of {sc : Scope} {x : Str} (h : visB sc x = true) : Vis sc x := by
  unfold visB at h
  split at h
  · exact .inl (by assumption)
  · exact .inr (.inl (by assumption))
  · exact .inr (.inr (by assumption))
  · cases h
theorem okNm_of {x : Str} (h : okNm x = true) : (x == ("__debug__" : Str)) = false ∧ (x == ("__classdict__" : Str)) = false ∧ x ≠ "__name__" := by
  unfold okNm at h
  simp only [Bool.and_eq_true, Bool.not_eq_true', decide_eq_false_iff_not] at h
  exact ⟨h.1.1, h.1.2, h.2⟩
theorem gl_of {x : Str} (h : glB X.env.scope x = true) : Gl X x ∧ okNm x = true := by
  unfold glB at h
  rw [Bool.and_eq_true] at h
  refine ⟨?_, h.2⟩
  have h1 := h.1
  show X.env.scope.names.lookup x = _
  split at h1
  · assumption
  · cases h1
theorem free_of {x y : Str} (c : Cok ck Γ cf k X) (h : freeB ck X.env.scope x y = true) : y = x ∧ Gl X x ∧ okNm x = true ∧ X.mg x = none := by
  unfold freeB at h
  simp only [Bool.and_eq_true, decide_eq_true_eq] at h
  obtain ⟨h1, h2⟩ := gl_of h.1.2
  exact ⟨h.1.1.symm, h1, h2, c.free x h.2⟩
theorem slot_pe {i : Nat} {x : Str} {pos : Pos} (c : Cok ck Γ cf k X) (h : slotB ck X.env.scope i x = true) : PE X (.Name x pos) (TV_ i) := by
  unfold slotB at h
  simp only [Bool.and_eq_true, decide_eq_true_eq] at h
  obtain ⟨⟨h1, h2⟩, h3⟩ := h
  obtain ⟨o1, o2, _⟩ := okNm_of h3
  exact pe_var (by rw [c.N]; exact h1) (vis_of h2) o1 o2

section
variable {g : Gh} {F : Addr → Prop} {μ : List Addr} {ρ : Ss} {st : List D} {σ : L2.St} {H : Hp}
/-- what a slot holds may be read -/
theorem R.slot (r : R g Z F μ ρ st σ H) {i : Nat} {d : D} (h : slotD ρ st i = some d) {v : V} (hv : σ[i]? = some (some v)) : RelC g F μ H d v := by
  unfold slotD at h
  split at h
  · rename_i n e
    obtain ⟨w, e1, q⟩ := r.val i _ e
    rw [hv] at e1
    cases e1
    simp only [RelD] at q
    obtain ⟨a, ev, em⟩ := q
    obtain ⟨a', e2, q2⟩ := r.sto n d h
    rw [em] at e2
    cases e2
    exact .inr ⟨a, ev, q2⟩
  · rename_i d' _ e
    cases h
    obtain ⟨w, e1, q⟩ := r.val i _ e
    rw [hv] at e1
    cases e1
    exact .inl q
  · rename_i d' e
    cases h
    obtain ⟨a, e1, q, _⟩ := r.own i _ e
    rw [hv] at e1
    cases e1
    exact .inr ⟨a, rfl, q⟩
  · cases h
theorem R.slotv (r : R g Z F μ ρ st σ H) {i : Nat} {d : D} (h : slotD ρ st i = some d) : ∃ v, σ[i]? = some (some v) := by
  unfold slotD at h
  split at h
  · rename_i n e
    obtain ⟨w, e1, q⟩ := r.val i _ e
    exact ⟨w, e1⟩
  · rename_i d' _ e
    obtain ⟨w, e1, q⟩ := r.val i _ e
    exact ⟨w, e1⟩
  · rename_i d' e
    obtain ⟨a, e1, q, _⟩ := r.own i _ e
    exact ⟨_, e1⟩
  · cases h
theorem getS {ρ : Ss} {i j : Nat} {s s' : Sl} (h : (ρ.set i s)[j]? = some s') : (i = j ∧ s' = s ∧ i < ρ.length) ∨ (i ≠ j ∧ ρ[j]? = some s') := by
  rw [List.getElem?_set] at h
  split at h
  · rename_i e
    subst e
    split at h
    · cases h
      exact .inl ⟨rfl, rfl, by assumption⟩
    · cases h
  · rename_i e
    exact .inr ⟨e, h⟩
/-- an own list or dict of a slot becomes a value -/
theorem R.frz (r : R g Z F μ ρ st σ H) {i : Nat} {d : D} (h : ρ[i]? = some (.own d)) : ∃ a F', σ[i]? = some (some (.ref a)) ∧ Ext Z F μ H F' μ H ∧ R g Z F' μ (ρ.set i (.val d)) st σ H ∧ RelD g F' μ H d (.ref a) := by
  obtain ⟨a, e, q, nf, nz, nm⟩ := r.own i d h
  have x : Ext Z F μ H (frzn F a) μ H := Ext.freeze nz
  have q' : RelD g (frzn F a) μ H d (.ref a) := (q.ext x rfl).rel (.inr rfl)
  refine ⟨a, frzn F a, e, x, ⟨?_, fun j d' hj => ?_, fun j d' hj => ?_, fun j l d' e' b hj hl ej el => ?_, fun n d' hn => ?_, r.stl, r.nd, fun b hb => ⟨fun z => z.elim (r.mo b hb).1 fun z => nm (z ▸ hb), (r.mo b hb).2⟩, fun b hb => hb.elim (r.fd b) fun z => z ▸ q.some.1, r.zd⟩, q'⟩
  · rw [List.length_set]
    exact r.len
  · rcases getS hj with ⟨rfl, e2, _⟩ | ⟨_, hj⟩
    · cases e2
      exact ⟨_, e, q'⟩
    · obtain ⟨v, e2, q2⟩ := r.val j d' hj
      exact ⟨v, e2, q2.ext x _ _⟩
  · rcases getS hj with ⟨rfl, e2, _⟩ | ⟨ne, hj⟩
    · cases e2
    · obtain ⟨b, e2, q2, nf2, nz2, nm2⟩ := r.own j d' hj
      refine ⟨b, e2, q2.ext x rfl, fun z => z.elim nf2 fun z => ?_, nz2, nm2⟩
      subst z
      exact ne (r.apart i j d d' b h hj e e2)
  · rcases getS hj with ⟨rfl, e2, _⟩ | ⟨_, hj⟩
    · cases e2
    · rcases getS hl with ⟨rfl, e2, _⟩ | ⟨_, hl⟩
      · cases e2
      · exact r.apart j l d' e' b hj hl ej el
  · obtain ⟨b, e2, q2⟩ := r.sto n d' hn
    exact ⟨b, e2, q2.ext x rfl⟩
/-- .. or goes -/
theorem R.mov (r : R g Z F μ ρ st σ H) {i : Nat} {d : D} (h : ρ[i]? = some (.own d)) : ∃ a, σ[i]? = some (some (.ref a)) ∧ R g Z F μ (ρ.set i .un) st σ H ∧ VR g Z F μ (ρ.set i .un) σ H true d (.ref a) := by
  obtain ⟨a, e, q, nf, nz, nm⟩ := r.own i d h
  refine ⟨a, e, ⟨?_, fun j d' hj => ?_, fun j d' hj => ?_, fun j l d' e' b hj hl ej el => ?_, r.sto, r.stl, r.nd, r.mo, r.fd, r.zd⟩, .inr ⟨by rw [q.cont]; rfl, a, rfl, q, nf, nz, nm, fun j e' hj ej => ?_⟩⟩
  · rw [List.length_set]
    exact r.len
  · rcases getS hj with ⟨rfl, e2, _⟩ | ⟨_, hj⟩
    · cases e2
    · exact r.val j d' hj
  · rcases getS hj with ⟨rfl, e2, _⟩ | ⟨ne, hj⟩
    · cases e2
    · exact r.own j d' hj
  · rcases getS hj with ⟨rfl, e2, _⟩ | ⟨_, hj⟩
    · cases e2
    · rcases getS hl with ⟨rfl, e2, _⟩ | ⟨_, hl⟩
      · cases e2
      · exact r.apart j l d' e' b hj hl ej el
  · rcases getS hj with ⟨rfl, e2, _⟩ | ⟨ne, hj⟩
    · cases e2
    · exact ne (r.apart i j d e' a h hj e ej)
theorem VR.val {f : Bool} {d : D} {v : V} (hf : (f && isCont d) = false) (h : RelD g F μ H d v) : VR g Z F μ ρ σ H f d v := .inl ⟨hf, h⟩
end

/-! ### one operation -/
section
variable {g : Gh}
/-- an operation with two operands -/
theorem bin_imp {r : R2} {a b : E} {ir : E} (hev : ∀ ρ st d f ρ' st', evE Γ cf ir ρ st = some (d, f, ρ', st') → ∃ x fx ρ1 st1 y fy, evE Γ cf a ρ st = some (x, fx, ρ1, st1) ∧ evE Γ cf b ρ1 st1 = some (y, fy, ρ', st') ∧
      ∀ F μ H v1 v2 (Q : VK), RelD g F μ H x v1 → RelD g F μ H y v2 → (∀ v H', Alc g F μ H d f v H' → Q v H') → r v1 v2 H Q) :
    ∀ σ H Q, TE_ g Γ cf ir σ H Q → tOp r (TD_ g Γ cf a) (TD_ g Γ cf b) σ H Q := by
  intro σ H Q ⟨Z, F, μ, ρ, st, d, f, ρ', st', rr, ev, q⟩
  obtain ⟨x, fx, ρ1, st1, y, fy, e1, e2, hr⟩ := hev _ _ _ _ _ _ ev
  refine ⟨Z, F, μ, ρ, st, x, fx, ρ1, st1, rr, e1, fun F1 μ1 H1 v1 x1 r1 h1 => ⟨Z, F1, μ1, ρ1, st1, y, fy, ρ', st', r1, e2, fun F2 μ2 H2 v2 x2 r2 h2 => ?_⟩⟩
  refine hr F2 μ2 H2 v1 v2 _ (h1.ext x2 _ _) h2 fun v H' ha => ?_
  obtain ⟨x3, r3, h3⟩ := ha.done r2
  exact q F2 μ2 H' v ((x1.trans x2).trans x3) r3 h3
/-- .. the left one a name -/
theorem slotL_imp {r : R2} {i : Nat} {b : E} {ir : E} (hev : ∀ ρ st d f ρ' st', evE Γ cf ir ρ st = some (d, f, ρ', st') → ∃ x0 x y fy, slotD ρ st i = some x0 ∧ evE Γ cf b ρ st = some (y, fy, ρ', st') ∧ slotD ρ' st' i = some x ∧
      ∀ F μ H v1 v2 (Q : VK), RelC g F μ H x v1 → RelD g F μ H y v2 → (∀ v H', Alc g F μ H d f v H' → Q v H') → r v1 v2 H Q) :
    ∀ σ H Q, TE_ g Γ cf ir σ H Q → tOp r (TV_ i) (TD_ g Γ cf b) σ H Q := by
  intro σ H Q ⟨Z, F, μ, ρ, st, d, f, ρ', st', rr, ev, q⟩
  obtain ⟨x0, x, y, fy, e0, e1, e2, hr⟩ := hev _ _ _ _ _ _ ev
  obtain ⟨v1, hv1⟩ := rr.slotv e0
  refine ⟨v1, hv1, Z, F, μ, ρ, st, y, fy, ρ', st', rr, e1, fun F1 μ1 H1 v2 x1 r1 h1 => ?_⟩
  refine hr F1 μ1 H1 v1 v2 _ (r1.slot e2 hv1) h1 fun v H' ha => ?_
  obtain ⟨x3, r3, h3⟩ := ha.done r1
  exact q F1 μ1 H' v (x1.trans x3) r3 h3
theorem slotR_imp {r : R2} {i : Nat} {a : E} {ir : E} (hev : ∀ ρ st d f ρ' st', evE Γ cf ir ρ st = some (d, f, ρ', st') → ∃ x y fx, evE Γ cf a ρ st = some (x, fx, ρ', st') ∧ slotD ρ' st' i = some y ∧
      ∀ F μ H v1 v2 (Q : VK), RelD g F μ H x v1 → RelC g F μ H y v2 → (∀ v H', Alc g F μ H d f v H' → Q v H') → r v1 v2 H Q) :
    ∀ σ H Q, TE_ g Γ cf ir σ H Q → tOp r (TD_ g Γ cf a) (TV_ i) σ H Q := by
  intro σ H Q ⟨Z, F, μ, ρ, st, d, f, ρ', st', rr, ev, q⟩
  obtain ⟨x, y, fx, e1, e2, hr⟩ := hev _ _ _ _ _ _ ev
  refine ⟨Z, F, μ, ρ, st, x, fx, ρ', st', rr, e1, fun F1 μ1 H1 v1 x1 r1 h1 => ?_⟩
  obtain ⟨v2, hv2⟩ := r1.slotv e2
  refine ⟨v2, hv2, hr F1 μ1 H1 v1 v2 _ h1 (r1.slot e2 hv2) fun v H' ha => ?_⟩
  obtain ⟨x3, r3, h3⟩ := ha.done r1
  exact q F1 μ1 H' v (x1.trans x3) r3 h3
end
end
end Rv

set_option Elab.async false
set_option linter.all false
set_option maxRecDepth 100000
set_option maxHeartbeats 4000000
/-! What the evaluator's answers say of the parts. -/
namespace Rv
open PySem PySem.Spec PyProof.Rows L2
section
variable {Γ : Tab} {cf : Str → List D → St → Option (D × Bool × St)} {ρ ρ' : Ss} {st st' : St} {d : D} {f : Bool}
theorem ev_bin {o : Bop} {a b : E} (h : evE Γ cf (.bin o a b) ρ st = some (d, f, ρ', st')) : ∃ x fx ρ1 st1 y fy, evE Γ cf a ρ st = some (x, fx, ρ1, st1) ∧ evE Γ cf b ρ1 st1 = some (y, fy, ρ', st') ∧ binD o x y = some (d, f) := by
  simp only [evE] at h
  split at h
  · rename_i x fx ρ1 st1 e1
    split at h
    · rename_i y fy ρ2 st2 e2
      split at h
      · rename_i z ff e3
        cases h
        exact ⟨x, fx, ρ1, st1, y, fy, e1, e2, e3⟩
      · cases h
    · cases h
  · cases h
theorem ev_neg {a : E} (h : evE Γ cf (.neg a) ρ st = some (d, f, ρ', st')) : ∃ i fx, evE Γ cf a ρ st = some (.int i, fx, ρ', st') ∧ d = .int (-i) ∧ f = false := by
  simp only [evE] at h
  split at h
  · cases h
    exact ⟨_, _, by assumption, rfl, rfl⟩
  · cases h
theorem ev_inv {a : E} (h : evE Γ cf (.inv a) ρ st = some (d, f, ρ', st')) : ∃ i fx, evE Γ cf a ρ st = some (.int i, fx, ρ', st') ∧ d = .int (Builtin.bitNot i) ∧ f = false := by
  simp only [evE] at h
  split at h
  · cases h
    exact ⟨_, _, by assumption, rfl, rfl⟩
  · cases h
theorem ev_bnot {a : E} (h : evE Γ cf (.bnot a) ρ st = some (d, f, ρ', st')) : ∃ i fx, evE Γ cf a ρ st = some (.bl i, fx, ρ', st') ∧ d = .bl (!i) ∧ f = false := by
  simp only [evE] at h
  split at h
  · cases h
    exact ⟨_, _, by assumption, rfl, rfl⟩
  · cases h
theorem ev_cmp {o : Cop} {a b : E} (h : evE Γ cf (.cmp o a b) ρ st = some (d, f, ρ', st')) : ∃ x fx ρ1 st1 y fy z, evE Γ cf a ρ st = some (x, fx, ρ1, st1) ∧ evE Γ cf b ρ1 st1 = some (y, fy, ρ', st') ∧ cmpD o x y = some z ∧ d = .bl z ∧ f = false := by
  simp only [evE] at h
  split at h
  · rename_i x fx ρ1 st1 e1
    split at h
    · rename_i y fy ρ2 st2 e2
      split at h
      · rename_i z e3
        cases h
        exact ⟨x, fx, ρ1, st1, y, fy, z, e1, e2, e3, rfl, rfl⟩
      · cases h
    · cases h
  · cases h
theorem ev_cmp2 {o o' : Cop} {a b c : E} (h : evE Γ cf (.cmp2 o o' a b c) ρ st = some (d, f, ρ', st')) : ∃ x fx ρ1 st1 y fy ρ2 st2 z, evE Γ cf a ρ st = some (x, fx, ρ1, st1) ∧ evE Γ cf b ρ1 st1 = some (y, fy, ρ2, st2) ∧ cmpD o x y = some z ∧ f = false ∧
    ((z = false ∧ d = .bl false ∧ ρ' = ρ2 ∧ st' = st2) ∨ (z = true ∧ ∃ u fu w, evE Γ cf c ρ2 st2 = some (u, fu, ρ', st') ∧ cmpD o' y u = some w ∧ d = .bl w)) := by
  simp only [evE] at h
  split at h
  · rename_i x fx ρ1 st1 e1
    split at h
    · rename_i y fy ρ2 st2 e2
      split at h
      · rename_i e3
        split at h
        · rename_i u fu ρ3 st3 e4
          split at h
          · rename_i w e5
            cases h
            exact ⟨x, fx, ρ1, st1, y, fy, ρ2, st2, true, e1, e2, e3, rfl, .inr ⟨rfl, u, fu, w, e4, e5, rfl⟩⟩
          · cases h
        · cases h
      · rename_i e3
        cases h
        exact ⟨x, fx, ρ1, st1, y, fy, _, _, false, e1, e2, e3, rfl, .inl ⟨rfl, rfl, rfl, rfl⟩⟩
      · cases h
    · cases h
  · cases h
theorem ev_cmpO {o : Cop} {i : Nat} {b : E} (h : evE Γ cf (.cmpO o i b) ρ st = some (d, f, ρ', st')) : ∃ x0 x y fy z, slotD ρ st i = some x0 ∧ evE Γ cf b ρ st = some (y, fy, ρ', st') ∧ slotD ρ' st' i = some x ∧ cmpD o x y = some z ∧ d = .bl z ∧ f = false := by
  simp only [evE] at h
  split at h
  · cases h
  · rename_i x0 e0
    split at h
    · rename_i y fy ρ1 st1 e1
      split at h
      · rename_i x e2
        split at h
        · rename_i z e3
          cases h
          exact ⟨x0, x, y, fy, z, e0, e1, e2, e3, rfl, rfl⟩
        · cases h
      · cases h
    · cases h
theorem ev_inO {neg : Bool} {i : Nat} {a : E} (h : evE Γ cf (.inO neg a i) ρ st = some (d, f, ρ', st')) : ∃ x fx c z, evE Γ cf a ρ st = some (x, fx, ρ', st') ∧ slotD ρ' st' i = some c ∧ inD x c = some z ∧ d = .bl (if neg then !z else z) ∧ f = false := by
  simp only [evE] at h
  split at h
  · rename_i x fx ρ1 st1 e1
    split at h
    · rename_i c e2
      split at h
      · rename_i z e3
        cases h
        exact ⟨x, fx, c, z, e1, e2, e3, rfl, rfl⟩
      · cases h
    · cases h
  · cases h
theorem ev_ife {c a b : E} (h : evE Γ cf (.ife c a b) ρ st = some (d, f, ρ', st')) : ∃ t ft ρ1 st1, evE Γ cf c ρ st = some (.bl t, ft, ρ1, st1) ∧ (if t then evE Γ cf a ρ1 st1 else evE Γ cf b ρ1 st1) = some (d, f, ρ', st') := by
  simp only [evE] at h
  split at h
  · exact ⟨true, _, _, _, by assumption, h⟩
  · exact ⟨false, _, _, _, by assumption, h⟩
  · cases h
theorem ev_tup {es : List E} (h : evE Γ cf (.tup es) ρ st = some (d, f, ρ', st')) : ∃ ds, evL Γ cf es ρ st = some (ds, ρ', st') ∧ ds.length ≤ lim ∧ d = .tup ds ∧ f = false := by
  simp only [evE] at h
  split at h
  · rename_i ds ρ1 st1 e1
    split at h
    · cases h
      exact ⟨ds, e1, by assumption, rfl, rfl⟩
    · cases h
  · cases h
theorem ev_lst {es : List E} (h : evE Γ cf (.lst es) ρ st = some (d, f, ρ', st')) : ∃ ds, evL Γ cf es ρ st = some (ds, ρ', st') ∧ ds.length ≤ lim ∧ d = .lst ds ∧ f = true := by
  simp only [evE] at h
  split at h
  · rename_i ds ρ1 st1 e1
    split at h
    · cases h
      exact ⟨ds, e1, by assumption, rfl, rfl⟩
    · cases h
  · cases h
theorem ev_newH {es : List E} (h : evE Γ cf (.newH es) ρ st = some (d, f, ρ', st')) : ∃ ds st1, evL Γ cf es ρ st = some (ds, ρ', st1) ∧ ds.length ≤ lim ∧ d = .ref st1.length ∧ f = false ∧ st' = st1 ++ [.lst ds] := by
  simp only [evE] at h
  split at h
  · rename_i ds ρ1 st1 e1
    split at h
    · cases h
      exact ⟨ds, st1, e1, by assumption, rfl, rfl, rfl⟩
    · cases h
  · cases h
theorem ev_idx {a b : E} (h : evE Γ cf (.idx a b) ρ st = some (d, f, ρ', st')) : ∃ x fx ρ1 st1 y fy, evE Γ cf a ρ st = some (x, fx, ρ1, st1) ∧ evE Γ cf b ρ1 st1 = some (y, fy, ρ', st') ∧ idxD x y = some d ∧ f = false := by
  simp only [evE] at h
  split at h
  · rename_i x fx ρ1 st1 e1
    split at h
    · rename_i y fy ρ2 st2 e2
      split at h
      · rename_i z e3
        cases h
        exact ⟨x, fx, ρ1, st1, y, fy, e1, e2, e3, rfl⟩
      · cases h
    · cases h
  · cases h
theorem ev_idxO {i : Nat} {b : E} (h : evE Γ cf (.idxO i b) ρ st = some (d, f, ρ', st')) : ∃ x0 x y fy, slotD ρ st i = some x0 ∧ evE Γ cf b ρ st = some (y, fy, ρ', st') ∧ slotD ρ' st' i = some x ∧ idxD x y = some d ∧ f = false := by
  simp only [evE] at h
  split at h
  · cases h
  · rename_i x0 e0
    split at h
    · rename_i y fy ρ1 st1 e1
      split at h
      · rename_i x e2
        split at h
        · rename_i z e3
          cases h
          exact ⟨x0, x, y, fy, e0, e1, e2, e3, rfl⟩
        · cases h
      · cases h
    · cases h
theorem ev_slc {a lo hi : E} (h : evE Γ cf (.slc a lo hi) ρ st = some (d, f, ρ', st')) : ∃ x fx ρ1 st1 y fy ρ2 st2 z fz, evE Γ cf a ρ st = some (x, fx, ρ1, st1) ∧ evE Γ cf lo ρ1 st1 = some (y, fy, ρ2, st2) ∧ evE Γ cf hi ρ2 st2 = some (z, fz, ρ', st') ∧ slcD x (bndE lo y) (bndE hi z) = some (d, f) := by
  simp only [evE] at h
  split at h
  · rename_i x fx ρ1 st1 e1
    split at h
    · rename_i y fy ρ2 st2 e2
      split at h
      · rename_i z fz ρ3 st3 e3
        split at h
        · rename_i r ff e4
          cases h
          exact ⟨x, fx, ρ1, st1, y, fy, ρ2, st2, z, fz, e1, e2, e3, e4⟩
        · cases h
      · cases h
    · cases h
  · cases h
theorem ev_slcO {i : Nat} {lo hi : E} (h : evE Γ cf (.slcO i lo hi) ρ st = some (d, f, ρ', st')) : ∃ x0 x y fy ρ2 st2 z fz, slotD ρ st i = some x0 ∧ evE Γ cf lo ρ st = some (y, fy, ρ2, st2) ∧ evE Γ cf hi ρ2 st2 = some (z, fz, ρ', st') ∧ slotD ρ' st' i = some x ∧ slcD x (bndE lo y) (bndE hi z) = some (d, f) := by
  simp only [evE] at h
  split at h
  · cases h
  · rename_i x0 e0
    split at h
    · rename_i y fy ρ2 st2 e2
      split at h
      · rename_i z fz ρ3 st3 e3
        split at h
        · rename_i x e4
          split at h
          · rename_i r ff e5
            cases h
            exact ⟨x0, x, y, fy, ρ2, st2, z, fz, e0, e2, e3, e4, e5⟩
          · cases h
        · cases h
      · cases h
    · cases h
theorem ev_call {x : Str} {es : List E} (h : evE Γ cf (.call x es) ρ st = some (d, f, ρ', st')) : ∃ ds st1, evL Γ cf es ρ st = some (ds, ρ', st1) ∧ cf x ds st1 = some (d, f, st') := by
  simp only [evE] at h
  split at h
  · rename_i ds ρ1 st1 e1
    split at h
    · rename_i d' fr st2 e2
      cases h
      exact ⟨ds, st1, e1, e2⟩
    · cases h
  · cases h
theorem ev_callK {x : Str} {pm : List Nat} {es : List E} (h : evE Γ cf (.callK x pm es) ρ st = some (d, f, ρ', st')) : ∃ ds st1, evL Γ cf es ρ st = some (ds, ρ', st1) ∧ cf x (pickV .non pm ds) st1 = some (d, f, st') := by
  simp only [evE] at h
  split at h
  · rename_i ds ρ1 st1 e1
    split at h
    · rename_i d' fr st2 e2
      cases h
      exact ⟨ds, st1, e1, e2⟩
    · cases h
  · cases h
theorem ev_rev {a : E} (h : evE Γ cf (.rev a) ρ st = some (d, f, ρ', st')) : ∃ x fx, evE Γ cf a ρ st = some (x, fx, ρ', st') ∧ revD x = some (d, f) := by
  simp only [evE] at h
  split at h
  · rename_i x fx ρ1 st1 e1
    split at h
    · rename_i d' fr e2
      cases h
      exact ⟨x, fx, e1, e2⟩
    · cases h
  · cases h
theorem ev_blt {b : Blt} {es : List E} (h : evE Γ cf (.blt b es) ρ st = some (d, f, ρ', st')) : ∃ ds, evL Γ cf es ρ st = some (ds, ρ', st') ∧ bltD b ds = some (d, f) := by
  simp only [evE] at h
  split at h
  · rename_i ds ρ1 st1 e1
    split at h
    · rename_i d' fr e2
      cases h
      exact ⟨ds, e1, e2⟩
    · cases h
  · cases h
theorem ev_lenO {i : Nat} (h : evE Γ cf (.lenO i) ρ st = some (d, f, ρ', st')) : ∃ x n, slotD ρ st i = some x ∧ lenD x = some n ∧ d = .int n ∧ f = false ∧ ρ' = ρ ∧ st' = st := by
  simp only [evE] at h
  split at h
  · rename_i x e1
    split at h
    · rename_i n e2
      cases h
      exact ⟨x, n, e1, e2, rfl, rfl, rfl, rfl⟩
    · cases h
  · cases h
theorem ev_cons {e : E} {es : List E} {ds : List D} (hn : ∀ a, e ≠ .star a) (h : evL Γ cf (e :: es) ρ st = some (ds, ρ', st')) : ∃ x fx ρ1 st1 r, evE Γ cf e ρ st = some (x, fx, ρ1, st1) ∧ evL Γ cf es ρ1 st1 = some (r, ρ', st') ∧ ds = x :: r := by
  rw [evL] at h
  · split at h
    · rename_i x fx ρ1 st1 e1
      split at h
      · rename_i r ρ2 st2 e2
        cases h
        exact ⟨x, fx, ρ1, st1, r, e1, e2, rfl⟩
      · cases h
    · cases h
  · exact hn
theorem ev_star {e : E} {es : List E} {ds : List D} (h : evL Γ cf (.star e :: es) ρ st = some (ds, ρ', st')) : ∃ x fx ρ1 st1 xs r, evE Γ cf e ρ st = some (x, fx, ρ1, st1) ∧ seqD x = some xs ∧ evL Γ cf es ρ1 st1 = some (r, ρ', st') ∧ ds = xs ++ r := by
  simp only [evL] at h
  split at h
  · rename_i x fx ρ1 st1 e1
    split at h
    · rename_i xs e2
      split at h
      · rename_i r ρ2 st2 e3
        cases h
        exact ⟨x, fx, ρ1, st1, xs, r, e1, e2, e3, rfl⟩
      · cases h
    · cases h
  · cases h
end
end Rv

set_option Elab.async false
set_option linter.all false
set_option maxRecDepth 100000
set_option maxHeartbeats 8000000
/-! The nodes, one by one. -/
namespace Rv
open PySem PySem.Spec PyProof.Rows L2
section
variable {ck : Ck} {Γ : Tab} {cf : Str → List D → St → Option (D × Bool × St)} {k : Nat} {X : Cx} {Z : Addr → Prop}

abbrev PEo (X : Cx) (Γ : Tab) (cf : Str → List D → St → Option (D × Bool × St)) (e : Expr) (ir : E) : Prop := PE X e (TE_ (ghX X) Γ cf ir)
abbrev PTo (X : Cx) (Γ : Tab) (cf : Str → List D → St → Option (D × Bool × St)) (e : Expr) (ir : E) : Prop := PT X e (TT_ (ghX X) Γ cf ir)
abbrev PLo (X : Cx) (Γ : Tab) (cf : Str → List D → St → Option (D × Bool × St)) (es : List Expr) (irs : List E) : Prop := PA X es (TL_ (ghX X) Γ cf irs)

/-- a constant value -/
theorem n_const {d : D} {v : V} {e : Expr} {ir : E} (h : PE X e (tC v)) (hev : ∀ ρ st d' f ρ' st', evE Γ cf ir ρ st = some (d', f, ρ', st') → d' = d ∧ f = false ∧ ρ' = ρ ∧ st' = st) (hr : ∀ F μ H, RelD (ghX X) F μ H d v) : PEo X Γ cf e ir :=
  PEimp h fun σ H Q ⟨Z, F, μ, ρ, st, d', f, ρ', st', r, ev, q⟩ => by
    obtain ⟨rfl, rfl, rfl, rfl⟩ := hev _ _ _ _ _ _ ev
    exact q F μ H v .refl r (.val rfl (hr _ _ _))

theorem n_lit {d : D} {sc : Scope} {e : Expr} (c : Cok ck Γ cf k X) (h : cE ck (.lit d) sc e = true) : PEo X Γ cf e (.lit d) ∧ plainT e = true := by
  have hev : ∀ ρ st d' f ρ' st', evE Γ cf (.lit d) ρ st = some (d', f, ρ', st') → d' = d ∧ f = false ∧ ρ' = ρ ∧ st' = st := by
    intro ρ st d' f ρ' st' h
    simp only [evE, Option.some.injEq, Prod.mk.injEq] at h
    obtain ⟨h1, h2, h3, h4⟩ := h
    exact ⟨h1.symm, h2.symm, h3.symm, h4.symm⟩
  simp only [cE] at h
  split at h
  · cases d <;> first | (cases h; done) | exact ⟨n_const pe_non hev fun _ _ _ => relNon, rfl⟩
  · cases d <;> first | (cases h; done) | skip
    have h' := eq_of_beq h
    subst h'
    exact ⟨n_const pe_bl hev fun _ _ _ => relBl, rfl⟩
  · cases d <;> first | (cases h; done) | skip
    have h' := eq_of_beq h
    subst h'
    exact ⟨n_const pe_int hev fun _ _ _ => relInt, rfl⟩
  · cases d <;> first | (cases h; done) | skip
    have h' := of_decide_eq_true h
    subst h'
    exact ⟨n_const pe_str hev fun _ _ _ => relStr, rfl⟩
  · cases h
theorem n_gc {x : Str} {e : Expr} (c : Cok ck Γ cf k X) (h : cE ck (.gc x) X.env.scope e = true) : PEo X Γ cf e (.gc x) ∧ plainT e = true := by
  simp only [cE] at h
  split at h
  · rename_i y pos
    simp only [Bool.and_eq_true, decide_eq_true_eq] at h
    obtain ⟨rfl, h⟩ := h
    obtain ⟨h1, h2⟩ := gl_of h
    obtain ⟨o1, _, _⟩ := okNm_of h2
    refine ⟨?_, rfl⟩
    cases q : Γ.gcs x with
    | none =>
      refine ⟨fun pins s σ H Q I hq => ?_⟩
      obtain ⟨Z, F, μ, ρ, st, d, f, ρ', st', r, ev, _⟩ := hq
      simp only [evE, q] at ev
      cases ev
    | some d =>
      obtain ⟨u, v, e1, e2, e3⟩ := c.gcs x d q
      refine n_const (pe_glob h1 e1 e2 o1) (fun ρ st d' f ρ' st' ev => ?_) e3
      simp only [evE, q, Option.some.injEq, Prod.mk.injEq] at ev
      obtain ⟨h1, h2, h3, h4⟩ := ev
      exact ⟨h1.symm, h2.symm, h3.symm, h4.symm⟩
  · cases h
theorem n_var {i : Nat} {e : Expr} (c : Cok ck Γ cf k X) (h : cE ck (.var i) X.env.scope e = true) : PEo X Γ cf e (.var i) ∧ plainT e = true := by
  simp only [cE] at h
  split at h
  · rename_i y pos
    refine ⟨PEimp (slot_pe c h) fun σ H Q ⟨Z, F, μ, ρ, st, d, f, ρ', st', r, ev, q⟩ => ?_, rfl⟩
    simp only [evE] at ev
    split at ev
    · rename_i d' e1
      cases ev
      obtain ⟨v, e2, h2⟩ := r.val i _ e1
      exact ⟨v, e2, q F μ H v .refl r (.val rfl h2)⟩
    · rename_i d' e1
      cases ev
      obtain ⟨a, F', e2, x, r', h2⟩ := r.frz e1
      exact ⟨_, e2, q F' μ H _ x r' (.val rfl h2)⟩
    · cases ev
  · cases h
theorem n_mv {i : Nat} {e : Expr} (c : Cok ck Γ cf k X) (h : cE ck (.mv i) X.env.scope e = true) : PEo X Γ cf e (.mv i) ∧ plainT e = true := by
  simp only [cE] at h
  split at h
  · rename_i y pos
    refine ⟨PEimp (slot_pe c h) fun σ H Q ⟨Z, F, μ, ρ, st, d, f, ρ', st', r, ev, q⟩ => ?_, rfl⟩
    simp only [evE] at ev
    split at ev
    · rename_i d' e1
      cases ev
      obtain ⟨v, e2, h2⟩ := r.val i _ e1
      exact ⟨v, e2, q F μ H v .refl r (.val rfl h2)⟩
    · rename_i d' e1
      cases ev
      obtain ⟨a, e2, r', h2⟩ := r.mov e1
      exact ⟨_, e2, q F μ H _ .refl r' h2⟩
    · cases ev
  · cases h

theorem n_bin {o : Bop} {a b : E} {l r : Expr} {pos : Pos} (ha : PEo X Γ cf l a) (hb : PEo X Γ cf r b) : PEo X Γ cf (.BinOp l (bopOf o) r pos) (.bin o a b) :=
  PEimp (pe_op (op_bin o) (toD ha) (toD hb)) (bin_imp fun ρ st d f ρ' st' ev => by
    obtain ⟨x, fx, ρ1, st1, y, fy, e1, e2, e3⟩ := ev_bin ev
    exact ⟨x, fx, ρ1, st1, y, fy, e1, e2, fun F μ H v1 v2 Q h1 h2 q => ⟨F, μ, x, y, d, f, .inl h1, .inl h2, e3, q⟩⟩)
theorem un_imp {g : Gh} {r : V → Hp → VK → Prop} {a ir : E} (hev : ∀ ρ st d f ρ' st', evE Γ cf ir ρ st = some (d, f, ρ', st') → ∃ x fx, evE Γ cf a ρ st = some (x, fx, ρ', st') ∧ ∀ F μ H v1 (Q : VK), RelD g F μ H x v1 → (∀ v H', Alc g F μ H d f v H' → Q v H') → r v1 H Q) :
    ∀ σ H Q, TE_ g Γ cf ir σ H Q → tUn r (TD_ g Γ cf a) σ H Q := by
  intro σ H Q ⟨Z, F, μ, ρ, st, d, f, ρ', st', rr, ev, q⟩
  obtain ⟨x, fx, e1, hr⟩ := hev _ _ _ _ _ _ ev
  refine ⟨Z, F, μ, ρ, st, x, fx, ρ', st', rr, e1, fun F1 μ1 H1 v1 x1 r1 h1 => ?_⟩
  refine hr F1 μ1 H1 v1 _ h1 fun v H' ha => ?_
  obtain ⟨x3, r3, h3⟩ := ha.done r1
  exact q F1 μ1 H' v (x1.trans x3) r3 h3
theorem n_neg {a : E} {x : Expr} {pos : Pos} (ha : PEo X Γ cf x a) : PEo X Γ cf (.UnaryOp .USub x pos) (.neg a) :=
  PEimp (pe_un un_neg (toD ha)) (un_imp fun ρ st d f ρ' st' ev => by
    obtain ⟨i, fx, e1, rfl, rfl⟩ := ev_neg ev
    exact ⟨_, fx, e1, fun F μ H v1 Q h1 q => by
      simp only [RelD] at h1
      exact ⟨i, h1, q _ _ (.val rfl relInt)⟩⟩)
theorem n_inv {a : E} {x : Expr} {pos : Pos} (ha : PEo X Γ cf x a) : PEo X Γ cf (.UnaryOp .Invert x pos) (.inv a) :=
  PEimp (pe_un un_inv (toD ha)) (un_imp fun ρ st d f ρ' st' ev => by
    obtain ⟨i, fx, e1, rfl, rfl⟩ := ev_inv ev
    exact ⟨_, fx, e1, fun F μ H v1 Q h1 q => by
      simp only [RelD] at h1
      exact ⟨i, h1, q _ _ (.val rfl relInt)⟩⟩)
theorem n_bnot {a : E} {x : Expr} {pos : Pos} (ha : PEo X Γ cf x a) (ht : PTo X Γ cf x a) : PEo X Γ cf (.UnaryOp .Not x pos) (.bnot a) ∧ PTo X Γ cf (.UnaryOp .Not x pos) (.bnot a) := by
  refine ⟨PEimp (pe_not (toD ha)) fun σ H Q ⟨Z, F, μ, ρ, st, d, f, ρ', st', r, ev, q⟩ => ?_, PTimp (pt_not ht) fun σ H Q ⟨Z, F, μ, ρ, st, b, f, ρ', st', r, ev, q⟩ => ?_⟩
  · obtain ⟨i, fx, e1, rfl, rfl⟩ := ev_bnot ev
    refine ⟨Z, F, μ, ρ, st, _, fx, ρ', st', r, e1, fun F1 μ1 H1 v1 x1 r1 h1 => ?_⟩
    simp only [RelD] at h1
    exact ⟨i, h1, q F1 μ1 H1 _ x1 r1 (.val rfl relBl)⟩
  · obtain ⟨i, fx, e1, e2, rfl⟩ := ev_bnot ev
    cases e2
    exact ⟨Z, F, μ, ρ, st, _, fx, ρ', st', r, e1, fun F1 μ1 H1 x1 r1 => q F1 μ1 H1 x1 r1⟩

/-- a comparison's value, its truth -/
theorem cmp_both {g : Gh} {op : CmpOp} {a b : Expr} {pos : Pos} {t : R2} {ta tb : TE} {ir : E} (ho : OpR X (compareOp op) t) (ha : PE X a ta) (hb : PE X b tb) (hm : behindInMarks op b = false)
    (hw : ∀ σ H (Q : VK), (∃ Z F μ ρ st d f ρ' st', R g Z F μ ρ st σ H ∧ evE Γ cf ir ρ st = some (d, f, ρ', st') ∧ ∀ F' μ' H' (z : Bool), d = .bl z → f = false → Ext Z F μ H F' μ' H' → R g Z F' μ' ρ' st' σ H' → Q (.bl z) H') → tOp t ta tb σ H Q) :
    PE X (.Compare a [op] [b] pos) (TE_ g Γ cf ir) ∧ PT X (.Compare a [op] [b] pos) (TT_ g Γ cf ir) := by
  refine ⟨PEimp (pe_cmpR ho ha hb hm) fun σ H Q ⟨Z, F, μ, ρ, st, d, f, ρ', st', r, ev, q⟩ => hw σ H Q ⟨Z, F, μ, ρ, st, d, f, ρ', st', r, ev, fun F' μ' H' z e1 e2 x r' => ?_⟩,
    PTimp (pt_cmpR ho ha hb hm) fun σ H Q ⟨Z, F, μ, ρ, st, b', f, ρ', st', r, ev, q⟩ => hw σ H _ ⟨Z, F, μ, ρ, st, _, f, ρ', st', r, ev, fun F' μ' H' z e1 e2 x r' => ⟨z, rfl, ?_⟩⟩⟩
  · subst e1 e2
    exact q F' μ' H' _ x r' (.val rfl relBl)
  · cases e1
    exact q F' μ' H' x r'
theorem behind_of {op : CmpOp} {b : Expr} (h : noSet b = true) : behindInMarks op b = false := by
  cases b <;> first | rfl | cases h
theorem op_cmpIn (c : Cok ck Γ cf k X) (o : Cop) : OpR X (compareOp (copOf o)) (fun v1 v2 H Q => ∃ F μ x y b, RelC (ghX X) F μ H x v1 ∧ RelC (ghX X) F μ H y v2 ∧ cmpD o x y = some b ∧ Q (.bl b) H) := by
  by_cases h1 : o = .in_
  · subst h1
    intro pins s σ H x y v u Q I rx ry ⟨F, μ, a, b, z, ha, hb, e, q⟩
    by_cases hd : ∃ ks vs, b = .dic ks vs
    · obtain ⟨ks, vs, rfl⟩ := hd
      exact in_dic c.u1 (neg := false) I rx ry ha hb e q
    · exact in_run (g := ghX X) rfl c.rm (neg := false) I rx ry ha hb e (fun ks vs e => hd ⟨ks, vs, e⟩) q
  · by_cases h2 : o = .nin
    · subst h2
      intro pins s σ H x y v u Q I rx ry ⟨F, μ, a, b, z, ha, hb, e, q⟩
      simp only [cmpD] at e
      obtain ⟨z', e', rfl⟩ := Option.map_eq_some_iff.mp e
      by_cases hd : ∃ ks vs, b = .dic ks vs
      · obtain ⟨ks, vs, rfl⟩ := hd
        exact in_dic c.u1 (neg := true) I rx ry ha hb e' q
      · exact in_run (g := ghX X) rfl c.rm (neg := true) I rx ry ha hb e' (fun ks vs e => hd ⟨ks, vs, e⟩) q
    · exact op_cmp c.rm o ⟨h1, h2⟩
theorem n_cmp {o : Cop} {a b : E} {l r : Expr} {pos : Pos} (c : Cok ck Γ cf k X) (ha : PEo X Γ cf l a) (hb : PEo X Γ cf r b) (hn : noSet r = true) :
    PEo X Γ cf (.Compare l [copOf o] [r] pos) (.cmp o a b) ∧ PTo X Γ cf (.Compare l [copOf o] [r] pos) (.cmp o a b) :=
  cmp_both (op_cmpIn c o) (toD ha) (toD hb) (behind_of hn) fun σ H Q ⟨Z, F, μ, ρ, st, d, f, ρ', st', rr, ev, q⟩ => by
    obtain ⟨x, fx, ρ1, st1, y, fy, z, e1, e2, e3, rfl, rfl⟩ := ev_cmp ev
    exact ⟨Z, F, μ, ρ, st, x, fx, ρ1, st1, rr, e1, fun F1 μ1 H1 v1 x1 r1 h1 => ⟨Z, F1, μ1, ρ1, st1, y, fy, ρ', st', r1, e2, fun F2 μ2 H2 v2 x2 r2 h2 =>
      ⟨F2, μ2, x, y, z, .inl (h1.ext x2 _ _), .inl h2, e3, q F2 μ2 H2 z rfl rfl (x1.trans x2) r2⟩⟩⟩
theorem n_cmpO {o : Cop} {i : Nat} {b : E} {y : Str} {r : Expr} {p pos : Pos} (c : Cok ck Γ cf k X) (hs : slotB ck X.env.scope i y = true) (hb : PEo X Γ cf r b) (hn : noSet r = true) :
    PEo X Γ cf (.Compare (.Name y p) [copOf o] [r] pos) (.cmpO o i b) ∧ PTo X Γ cf (.Compare (.Name y p) [copOf o] [r] pos) (.cmpO o i b) :=
  cmp_both (op_cmpIn c o) (slot_pe c hs) (toD hb) (behind_of hn) fun σ H Q ⟨Z, F, μ, ρ, st, d, f, ρ', st', rr, ev, q⟩ => by
    obtain ⟨x0, x, y, fy, z, e0, e1, e2, e3, rfl, rfl⟩ := ev_cmpO ev
    obtain ⟨v1, hv1⟩ := rr.slotv e0
    exact ⟨v1, hv1, Z, F, μ, ρ, st, y, fy, ρ', st', rr, e1, fun F1 μ1 H1 v2 x1 r1 h1 => ⟨F1, μ1, x, y, z, r1.slot e2 hv1, .inl h1, e3, q F1 μ1 H1 z rfl rfl x1 r1⟩⟩
theorem n_inO {neg : Bool} {i : Nat} {a : E} {y : Str} {l : Expr} {p pos : Pos} (c : Cok ck Γ cf k X) (hs : slotB ck X.env.scope i y = true) (ha : PEo X Γ cf l a) :
    PEo X Γ cf (.Compare l [if neg then .NotIn else .In] [.Name y p] pos) (.inO neg a i) ∧ PTo X Γ cf (.Compare l [if neg then .NotIn else .In] [.Name y p] pos) (.inO neg a i) := by
  have e0 : (if neg then CmpOp.NotIn else CmpOp.In) = copOf (if neg then .nin else .in_) := by cases neg <;> rfl
  rw [e0]
  refine cmp_both (op_cmpIn c _) (toD ha) (slot_pe c hs) (behind_of rfl) fun σ H Q ⟨Z, F, μ, ρ, st, d, f, ρ', st', rr, ev, q⟩ => ?_
  obtain ⟨x, fx, b, z, e1, e2, e3, rfl, rfl⟩ := ev_inO ev
  refine ⟨Z, F, μ, ρ, st, x, fx, ρ', st', rr, e1, fun F1 μ1 H1 v1 x1 r1 h1 => ?_⟩
  obtain ⟨v2, hv2⟩ := r1.slotv e2
  refine ⟨v2, hv2, F1, μ1, x, b, if neg then !z else z, .inl h1, r1.slot e2 hv2, ?_, q F1 μ1 H1 _ rfl rfl x1 r1⟩
  cases neg
  · exact e3
  · show (inD x b).map (!·) = _
    rw [e3]
    rfl
theorem n_cmp2 {o o' : Cop} {a b c' : E} {l m r : Expr} {pos : Pos} (c : Cok ck Γ cf k X) (ha : PEo X Γ cf l a) (hb : PEo X Γ cf m b) (hc : PEo X Γ cf r c') (h1 : behindInMarks (copOf o) m = false) (h2 : behindInMarks (copOf o') r = false) :
    PEo X Γ cf (.Compare l [copOf o, copOf o'] [m, r] pos) (.cmp2 o o' a b c') ∧ PTo X Γ cf (.Compare l [copOf o, copOf o'] [m, r] pos) (.cmp2 o o' a b c') := by
  have key : ∀ σ H (Q : VK), (∃ Z F μ ρ st d f ρ' st', R (ghX X) Z F μ ρ st σ H ∧ evE Γ cf (.cmp2 o o' a b c') ρ st = some (d, f, ρ', st') ∧ ∀ F' μ' H' (z : Bool), d = .bl z → f = false → Ext Z F μ H F' μ' H' → R (ghX X) Z F' μ' ρ' st' σ H' → Q (.bl z) H') →
      tChain (fun v1 v2 H Q => ∃ F μ x y b, RelC (ghX X) F μ H x v1 ∧ RelC (ghX X) F μ H y v2 ∧ cmpD o x y = some b ∧ Q (.bl b) H) (fun v1 v2 H Q => ∃ F μ x y b, RelC (ghX X) F μ H x v1 ∧ RelC (ghX X) F μ H y v2 ∧ cmpD o' x y = some b ∧ Q (.bl b) H)
        (TD_ (ghX X) Γ cf a) (TD_ (ghX X) Γ cf b) (TD_ (ghX X) Γ cf c') σ H Q := by
    intro σ H Q ⟨Z, F, μ, ρ, st, d, f, ρ', st', rr, ev, q⟩
    obtain ⟨x, fx, ρ1, st1, y, fy, ρ2, st2, z, e1, e2, e3, rfl, e4⟩ := ev_cmp2 ev
    refine ⟨Z, F, μ, ρ, st, x, fx, ρ1, st1, rr, e1, fun F1 μ1 H1 v1 x1 r1 g1 => ⟨Z, F1, μ1, ρ1, st1, y, fy, ρ2, st2, r1, e2, fun F2 μ2 H2 v2 x2 r2 g2 => ⟨F2, μ2, x, y, z, .inl (g1.ext x2 _ _), .inl g2, e3, z, rfl, ?_⟩⟩⟩
    rcases e4 with ⟨rfl, rfl, rfl, rfl⟩ | ⟨rfl, u, fu, w, e5, e6, rfl⟩
    · rw [if_neg Bool.false_ne_true]
      exact q F2 μ2 H2 false rfl rfl (x1.trans x2) r2
    · rw [if_pos rfl]
      exact ⟨Z, F2, μ2, ρ2, st2, u, fu, ρ', st', r2, e5, fun F3 μ3 H3 v3 x3 r3 g3 => ⟨F3, μ3, y, u, w, .inl (g2.ext x3 _ _), .inl g3, e6, q F3 μ3 H3 w rfl rfl ((x1.trans x2).trans x3) r3⟩⟩
  have hm : lastMarks [copOf o, copOf o'] [m, r] = false := h2
  refine ⟨PEimp (pe_chain (op_cmpIn c o) (op_cmpIn c o') (toD ha) (toD hb) (toD hc) hm) fun σ H Q ⟨Z, F, μ, ρ, st, d, f, ρ', st', r, ev, q⟩ => key σ H Q ⟨Z, F, μ, ρ, st, d, f, ρ', st', r, ev, fun F' μ' H' z e1 e2 x r' => ?_⟩,
    PTimp (pt_chain (op_cmpIn c o) (op_cmpIn c o') (toD ha) (toD hb) (toD hc) hm) fun σ H Q ⟨Z, F, μ, ρ, st, b, f, ρ', st', r, ev, q⟩ => key σ H _ ⟨Z, F, μ, ρ, st, _, f, ρ', st', r, ev, fun F' μ' H' z e1 e2 x r' => ⟨z, rfl, ?_⟩⟩⟩
  · subst e1 e2
    exact q F' μ' H' _ x r' (.val rfl relBl)
  · cases e1
    exact q F' μ' H' x r'
end
end Rv

set_option Elab.async false
set_option linter.all false
set_option maxRecDepth 100000
set_option maxHeartbeats 8000000
/-! The nodes, further: choices, displays, items, calls. -/
namespace Rv
open PySem PySem.Spec PyProof.Rows L2
section
variable {ck : Ck} {Γ : Tab} {cf : Str → List D → St → Option (D × Bool × St)} {k : Nat} {X : Cx} {Z : Addr → Prop}

theorem n_ife {c a b : E} {t x y : Expr} {pos : Pos} (hc : PTo X Γ cf t c) (ha : PEo X Γ cf x a) (hb : PEo X Γ cf y b) (ha' : PTo X Γ cf x a) (hb' : PTo X Γ cf y b) :
    PEo X Γ cf (.IfExp t x y pos) (.ife c a b) ∧ PTo X Γ cf (.IfExp t x y pos) (.ife c a b) := by
  refine ⟨PEimp (pe_ifExp hc ha hb) fun σ H Q ⟨Z, F, μ, ρ, st, d, f, ρ', st', r, ev, q⟩ => ?_, PTimp (isTrue_ifE hc ha' hb') fun σ H Q ⟨Z, F, μ, ρ, st, b', f, ρ', st', r, ev, q⟩ => ?_⟩
  · obtain ⟨t', ft, ρ1, st1, e1, e2⟩ := ev_ife ev
    refine ⟨Z, F, μ, ρ, st, t', ft, ρ1, st1, r, e1, fun F1 μ1 H1 x1 r1 => ?_⟩
    cases t' with
    | true =>
      rw [if_pos rfl] at e2 ⊢
      exact ⟨Z, F1, μ1, ρ1, st1, d, f, ρ', st', r1, e2, fun F2 μ2 H2 v x2 r2 h2 => q F2 μ2 H2 v (x1.trans x2) r2 h2⟩
    | false =>
      rw [if_neg Bool.false_ne_true] at e2 ⊢
      exact ⟨Z, F1, μ1, ρ1, st1, d, f, ρ', st', r1, e2, fun F2 μ2 H2 v x2 r2 h2 => q F2 μ2 H2 v (x1.trans x2) r2 h2⟩
  · obtain ⟨t', ft, ρ1, st1, e1, e2⟩ := ev_ife ev
    refine ⟨Z, F, μ, ρ, st, t', ft, ρ1, st1, r, e1, fun F1 μ1 H1 x1 r1 => ?_⟩
    cases t' with
    | true =>
      rw [if_pos rfl] at e2 ⊢
      exact ⟨Z, F1, μ1, ρ1, st1, b', f, ρ', st', r1, e2, fun F2 μ2 H2 x2 r2 => q F2 μ2 H2 (x1.trans x2) r2⟩
    | false =>
      rw [if_neg Bool.false_ne_true] at e2 ⊢
      exact ⟨Z, F1, μ1, ρ1, st1, b', f, ρ', st', r1, e2, fun F2 μ2 H2 x2 r2 => q F2 μ2 H2 (x1.trans x2) r2⟩

/-! ### and, or -/
def TEb (g : Gh) (Γ : Tab) (cf : Str → List D → St → Option (D × Bool × St)) (kk : Bool) (es : List E) : TE := fun σ H Q => ∃ Z F μ ρ st d f ρ' st', R g Z F μ ρ st σ H ∧ evBop Γ cf kk es ρ st = some (d, f, ρ', st') ∧
  ∀ F' μ' H' v, Ext Z F μ H F' μ' H' → R g Z F' μ' ρ' st' σ H' → VR g Z F' μ' ρ' σ H' f d v → Q v H'
def TTb (g : Gh) (Γ : Tab) (cf : Str → List D → St → Option (D × Bool × St)) (kk : Bool) (es : List E) : TT := fun σ H Q => ∃ Z F μ ρ st b f ρ' st', R g Z F μ ρ st σ H ∧ evBop Γ cf kk es ρ st = some (.bl b, f, ρ', st') ∧
  ∀ F' μ' H', Ext Z F μ H F' μ' H' → R g Z F' μ' ρ' st' σ H' → Q b H'
def bopO : Bool → BoolOp
  | true => .And
  | false => .Or
theorem ev_bop2 {ρ ρ' : Ss} {st st' : St} {d : D} {f kk : Bool} {a b : E} {es : List E} (h : evBop Γ cf kk (a :: b :: es) ρ st = some (d, f, ρ', st')) : ∃ t ft ρ1 st1, evE Γ cf a ρ st = some (.bl t, ft, ρ1, st1) ∧
    (if t = kk then evBop Γ cf kk (b :: es) ρ1 st1 = some (d, f, ρ', st') else d = .bl t ∧ f = false ∧ ρ' = ρ1 ∧ st' = st1) := by
  rw [evBop] at h
  · split at h
    · rename_i t ft ρ1 st1 e1
      split at h
      · rename_i hk
        have hk' := eq_of_beq hk
        exact ⟨t, ft, ρ1, st1, e1, by rw [if_pos hk']; exact h⟩
      · rename_i hk
        cases h
        exact ⟨t, ft, _, _, e1, by rw [if_neg (fun e => hk (by rw [e]; exact beq_self_eq_true _))]; exact ⟨rfl, rfl, rfl, rfl⟩⟩
    · cases h
  · simp
theorem n_bop {kk : Bool} {pos : Pos} : ∀ {es : List E} {xs : List Expr}, es ≠ [] → PySem.W.EachIs (fun x e => PEo X Γ cf x e ∧ PTo X Γ cf x e) xs es →
    PE X (.BoolOp (bopO kk) xs pos) (TEb (ghX X) Γ cf kk es) ∧ PW X (.BoolOp (bopO kk) xs pos) (TTb (ghX X) Γ cf kk es)
  | [], _, h, _ => absurd rfl h
  | [e], _, _, .cons h .nil => by
    refine ⟨PEimp (pe_one h.1) fun σ H Q ⟨Z, F, μ, ρ, st, d, f, ρ', st', r, ev, q⟩ => ⟨Z, F, μ, ρ, st, d, f, ρ', st', r, by simpa only [evBop] using ev, q⟩, ?_⟩
    cases kk with
    | true => exact PWimp (pw_and1 h.2) fun σ H Q ⟨Z, F, μ, ρ, st, d, f, ρ', st', r, ev, q⟩ => ⟨Z, F, μ, ρ, st, d, f, ρ', st', r, by simpa only [evBop] using ev, q⟩
    | false => exact PWimp (pw_or1 h.2) fun σ H Q ⟨Z, F, μ, ρ, st, d, f, ρ', st', r, ev, q⟩ => ⟨Z, F, μ, ρ, st, d, f, ρ', st', r, by simpa only [evBop] using ev, q⟩
  | a :: b :: es, _, _, .cons h (.cons h2 t) => by
    have ih := n_bop (kk := kk) (pos := pos) (es := b :: es) (by simp) (.cons h2 t)
    cases kk with
    | true =>
      refine ⟨PEimp (pe_and (toD h.1) ih.1) fun σ H Q ⟨Z, F, μ, ρ, st, d, f, ρ', st', r, ev, q⟩ => ?_, PWimp (pw_and h.2 ih.2) fun σ H Q ⟨Z, F, μ, ρ, st, b', f, ρ', st', r, ev, q⟩ => ?_⟩
      · obtain ⟨t', ft, ρ1, st1, e1, e2⟩ := ev_bop2 ev
        refine ⟨Z, F, μ, ρ, st, _, ft, ρ1, st1, r, e1, fun F1 μ1 H1 v1 x1 r1 h1 => ?_⟩
        simp only [RelD] at h1
        refine ⟨t', h1, ?_⟩
        cases t' with
        | true =>
          rw [if_pos rfl] at e2 ⊢
          exact ⟨Z, F1, μ1, ρ1, st1, d, f, ρ', st', r1, e2, fun F2 μ2 H2 v x2 r2 h2 => q F2 μ2 H2 v (x1.trans x2) r2 h2⟩
        | false =>
          rw [if_neg Bool.false_ne_true] at e2 ⊢
          obtain ⟨rfl, rfl, rfl, rfl⟩ := e2
          exact q F1 μ1 H1 _ x1 r1 (.val rfl relBl)
      · obtain ⟨t', ft, ρ1, st1, e1, e2⟩ := ev_bop2 ev
        refine ⟨Z, F, μ, ρ, st, t', ft, ρ1, st1, r, e1, fun F1 μ1 H1 x1 r1 => ?_⟩
        cases t' with
        | true =>
          rw [if_pos rfl] at e2 ⊢
          exact ⟨Z, F1, μ1, ρ1, st1, b', f, ρ', st', r1, e2, fun F2 μ2 H2 x2 r2 => q F2 μ2 H2 (x1.trans x2) r2⟩
        | false =>
          rw [if_neg Bool.false_ne_true] at e2 ⊢
          obtain ⟨e3, rfl, rfl, rfl⟩ := e2
          cases e3
          exact q F1 μ1 H1 x1 r1
    | false =>
      refine ⟨PEimp (pe_or (toD h.1) ih.1) fun σ H Q ⟨Z, F, μ, ρ, st, d, f, ρ', st', r, ev, q⟩ => ?_, PWimp (pw_or h.2 ih.2) fun σ H Q ⟨Z, F, μ, ρ, st, b', f, ρ', st', r, ev, q⟩ => ?_⟩
      · obtain ⟨t', ft, ρ1, st1, e1, e2⟩ := ev_bop2 ev
        refine ⟨Z, F, μ, ρ, st, _, ft, ρ1, st1, r, e1, fun F1 μ1 H1 v1 x1 r1 h1 => ?_⟩
        simp only [RelD] at h1
        refine ⟨t', h1, ?_⟩
        cases t' with
        | false =>
          rw [if_pos rfl] at e2
          rw [if_neg Bool.false_ne_true]
          exact ⟨Z, F1, μ1, ρ1, st1, d, f, ρ', st', r1, e2, fun F2 μ2 H2 v x2 r2 h2 => q F2 μ2 H2 v (x1.trans x2) r2 h2⟩
        | true =>
          rw [if_neg (by simp)] at e2
          rw [if_pos rfl]
          obtain ⟨rfl, rfl, rfl, rfl⟩ := e2
          exact q F1 μ1 H1 _ x1 r1 (.val rfl relBl)
      · obtain ⟨t', ft, ρ1, st1, e1, e2⟩ := ev_bop2 ev
        refine ⟨Z, F, μ, ρ, st, t', ft, ρ1, st1, r, e1, fun F1 μ1 H1 x1 r1 => ?_⟩
        cases t' with
        | false =>
          rw [if_pos rfl] at e2
          rw [if_neg Bool.false_ne_true]
          exact ⟨Z, F1, μ1, ρ1, st1, b', f, ρ', st', r1, e2, fun F2 μ2 H2 x2 r2 => q F2 μ2 H2 (x1.trans x2) r2⟩
        | true =>
          rw [if_neg (by simp)] at e2
          rw [if_pos rfl]
          obtain ⟨e3, rfl, rfl, rfl⟩ := e2
          cases e3
          exact q F1 μ1 H1 x1 r1
theorem n_bop' {kk : Bool} {pos : Pos} {es : List E} {xs : List Expr} (hn : es ≠ []) (h : PySem.W.EachIs (fun x e => PEo X Γ cf x e ∧ PTo X Γ cf x e) xs es) :
    PEo X Γ cf (.BoolOp (bopO kk) xs pos) (.bop kk es) ∧ PTo X Γ cf (.BoolOp (bopO kk) xs pos) (.bop kk es) := by
  obtain ⟨h1, h2⟩ := n_bop (pos := pos) (kk := kk) hn h
  exact ⟨PEimp h1 fun σ H Q ⟨Z, F, μ, ρ, st, d, f, ρ', st', r, ev, q⟩ => ⟨Z, F, μ, ρ, st, d, f, ρ', st', r, by simpa only [evE] using ev, q⟩,
    PTimp h2.pt fun σ H Q ⟨Z, F, μ, ρ, st, d, f, ρ', st', r, ev, q⟩ => ⟨Z, F, μ, ρ, st, d, f, ρ', st', r, by simpa only [evE] using ev, q⟩⟩

/-! ### argument lists, displays -/
theorem l_nil : PLo X Γ cf [] [] := PAimp pa_nil fun σ H Q ⟨Z, F, μ, ρ, st, ds, ρ', st', r, ev, q⟩ => by
  simp only [evL, Option.some.injEq, Prod.mk.injEq] at ev
  obtain ⟨rfl, rfl, rfl⟩ := ev
  exact q F μ H [] .refl r .nil
theorem l_cons {x : Expr} {xs : List Expr} {e : E} {es : List E} (hx : nStar x = true) (hn : ∀ a, e ≠ .star a) (h : PEo X Γ cf x e) (t : PLo X Γ cf xs es) : PLo X Γ cf (x :: xs) (e :: es) :=
  PAimp (pa_cons (toD h) t (starEach_cons hx)) fun σ H Q ⟨Z, F, μ, ρ, st, ds, ρ', st', r, ev, q⟩ => by
    obtain ⟨d, fx, ρ1, st1, r', e1, e2, rfl⟩ := ev_cons hn ev
    exact ⟨Z, F, μ, ρ, st, d, fx, ρ1, st1, r, e1, fun F1 μ1 H1 v1 x1 r1 h1 => ⟨Z, F1, μ1, ρ1, st1, r', ρ', st', r1, e2, fun F2 μ2 H2 vs x2 r2 h2 => q F2 μ2 H2 _ (x1.trans x2) r2 (.cons (h1.ext x2 _ _) h2)⟩⟩
/-- *x in a display: a list or a tuple -/
theorem l_star {x : Expr} {xs : List Expr} {e : E} {es : List E} {p : Pos} (h : PEo X Γ cf x e) (t : PLo X Γ cf xs es) : PLo X Γ cf (.Starred x p :: xs) (.star e :: es) := by
  refine ⟨fun pos pins s σ H Q I hq => ?_⟩
  obtain ⟨Z, F, μ, ρ, st, ds, ρ', st', r, ev, q⟩ := hq
  obtain ⟨d, fx, ρ1, st1, ys, r', e1, ei, e2, rfl⟩ := ev_star ev
  show wpAny _ _ (spliced ((true, do let v ← eval x X.env; standAt pos; pure v) :: backTo pos (starEach xs X.env))) _ _ s
  show wpAny _ _ (do
    let v ← (do let v ← eval x X.env; standAt pos; pure v)
    let here ← if true then do
        if ← notIterableAtAll v then
          rule "star.not-iterable"; raiseError "TypeError" s!"Value after * must be an iterable, not {← typeNameOf v}"
        collect v
      else pure [v]
    return here ++ (← holding here (spliced (backTo pos (starEach xs X.env))))) _ _ s
  refine wpAny_bind (wpAny_bind (thn ((toD h).run pins s σ H _ I ⟨Z, F, μ, ρ, st, d, fx, ρ1, st1, r, e1, fun F1 μ1 H1 v1 x1 r1 h1 => (show ∃ F1 μ1, Ext Z F μ H F1 μ1 H1 ∧ R (ghX X) Z F1 μ1 ρ1 st1 σ H1 ∧ RelD (ghX X) F1 μ1 H1 d v1 from ⟨F1, μ1, x1, r1, h1⟩)⟩) fun u s1 ⟨v1, H1, I1, rv, F1, μ1, x1, r1, h1⟩ => wpAny_bind (wpAny_standAt (wpAny_pure ?_))))
  rw [if_pos rfl]
  have seq : ∃ a T vs its, v1 = .ref a ∧ (T = "list" ∨ T = "tuple") ∧ RelDs (ghX X) F1 μ1 H1 ys vs ∧ Vals vs its ∧ (∃ o n, s1.heap.get? a = some o ∧ o.cls = .type T ∧ o.data = .seq its.toArray n) ∧ its.length ≤ sizeLine := by
    cases d with
    | tup zs =>
      simp only [RelD] at h1
      obtain ⟨a, vs, e, g1, g2⟩ := h1
      cases ei
      obtain ⟨its, rw', ⟨o, ho, hc, n, hd⟩, hz⟩ := I1.tuple g1.1
      exact ⟨a, "tuple", vs, its, e, .inr rfl, g2, rw', ⟨o, n, ho, hc, hd⟩, by rw [← rw'.length]; exact hz⟩
    | lst zs =>
      simp only [RelD] at h1
      obtain ⟨a, vs, e, g1, g2⟩ := h1
      cases ei
      obtain ⟨its, rw', ⟨o, n, ho, hc, _, hd⟩, hz⟩ := I1.list g1.sql
      exact ⟨a, "list", vs, its, e, .inl rfl, g2, rw', ⟨o, n, ho, hc, hd⟩, by rw [← rw'.length]; exact hz⟩
    | _ => cases ei
  obtain ⟨a, T, vs, its, rfl, hT, hy, rvs, ⟨o, n, ho, hc, hd⟩, hz⟩ := seq
  cases rv
  have hti : s1.TypeIs (.ref a) T := ⟨o, ho, hc⟩
  have hspec : ∃ id, typeLookup (.type T) "__iter__" = pure (some (.builtin id)) := by
    rcases hT with rfl | rfl
    · exact ⟨_, slot_list_iter.lookup⟩
    · exact ⟨_, PySem.F.slot_tuple_iter.lookup⟩
  obtain ⟨id, hid⟩ := hspec
  refine wpAny_bind (wpAny_bind (wpAny_specialOf hti hid ?_))
  rw [if_pos (by rfl)]
  refine wpAny_pure ?_
  rw [if_neg (by decide)]
  refine wpAny_bind ?_
  refine wpAny_collect_seq a hT ho hc hd (fun h' hk => ?_) (by simpa using hz)
  have I2 : Inv X pins σ H1 { s1 with heap := h' } := I1.kept (t' := s1.toks) hk
  refine wpAny_bind (wpAny_holding (thn (t.run pos pins _ σ H1 (fun ws H2 => Q (vs ++ ws) H2) I2 ⟨Z, F1, μ1, ρ1, st1, r', ρ', st', r1, e2, fun F2 μ2 H2 ws x2 r2 h2 => q F2 μ2 H2 _ (x1.trans x2) r2 (RelDs.append (hy.ext x2 _ _) h2)⟩) fun us s3 ⟨ws, H2, I3, rws, q3⟩ => wpAny_pure ?_))
  have ei : (its.toArray).toList = its := by simp
  rw [ei]
  exact ⟨vs ++ ws, H2, I3, rvs.append rws, q3⟩
end
end Rv

set_option Elab.async false
set_option linter.all false
set_option maxRecDepth 100000
set_option maxHeartbeats 8000000
namespace Rv
open PySem PySem.Spec PyProof.Rows L2
section
variable {g : Gh} {Z F : Addr → Prop} {μ : List Addr} {ρ : Ss} {st : List D} {σ : L2.St} {H : Hp}
/-- a new list that everyone may change -/
theorem R.newh {p : Addr} {ds : List D} {vs : List V} (r : R g Z F μ ρ st σ H) (hn : H p = none) (h : RelDs g F μ H ds vs) : Ext Z F μ H F (μ ++ [p]) (upd H p (.lst vs)) ∧ R g Z F (μ ++ [p]) ρ (st ++ [.lst ds]) σ (upd H p (.lst vs)) := by
  have x0 : Ext Z F μ H F μ (upd H p (.lst vs)) := Ext.laid hn r.zd r.fd
  have x1 : Ext Z F μ (upd H p (.lst vs)) F (μ ++ [p]) (upd H p (.lst vs)) := ⟨fun _ _ => rfl, fun _ _ h => h, fun _ h => ⟨h, rfl⟩, fun _ _ h => h, fun _ _ _ h => h, [p], rfl⟩
  have x := x0.trans x1
  have r0 := r.laid (o := .lst vs) hn
  have pm : p ∉ μ := fun z => by
    obtain ⟨h', e⟩ := List.mem_iff_getElem?.mp z
    have hl : h' < st.length := by
      rw [← r.stl]
      exact (List.getElem?_eq_some_iff.mp e).1
    obtain ⟨a', e', q⟩ := r.sto h' _ (List.getElem?_eq_getElem hl)
    rw [e] at e'
    cases e'
    exact q.some.1 hn
  refine ⟨x, r0.len, fun i d hi => ?_, fun i d hi => ?_, r0.apart, fun i d hi => ?_, ?_, ?_, fun a ha => ?_, r0.fd, r0.zd⟩
  · obtain ⟨v, e, q⟩ := r0.val i d hi
    exact ⟨v, e, q.ext x1 _ _⟩
  · obtain ⟨a, e, q, nf, nz, nm⟩ := r0.own i d hi
    refine ⟨a, e, q.ext x1 rfl, nf, nz, fun z => ?_⟩
    rcases List.mem_append.mp z with z | z
    · exact nm z
    · have z' : a = p := by simpa using z
      subst z'
      obtain ⟨a2, e2, q2, _⟩ := r.own i d hi
      rw [e] at e2
      cases e2
      exact q2.some.1 hn
  · by_cases hl : i < st.length
    · rw [List.getElem?_append_left hl] at hi
      obtain ⟨a, e, q⟩ := r0.sto i d hi
      exact ⟨a, by rw [List.getElem?_append_left (by rw [r.stl]; exact hl)]; exact e, q.ext x1 rfl⟩
    · rw [List.getElem?_append_right (by omega)] at hi
      have hi0 : i - st.length = 0 := by
        have := (List.getElem?_eq_some_iff.mp hi).1
        simp at this
        omega
      rw [hi0] at hi
      have hi' : D.lst ds = d := by simpa using hi
      subst hi'
      refine ⟨p, ?_, vs, upd_same, h.ext x _ _⟩
      rw [List.getElem?_append_right (by rw [r.stl]; omega), r.stl, hi0]
      rfl
  · rw [List.length_append, List.length_append, r.stl]
    rfl
  · exact List.nodup_append.mpr ⟨r.nd, by simp, fun a ha b hb => by
      have hb' : b = p := by simpa using hb
      subst hb'
      exact fun e => pm (e ▸ ha)⟩
  · rcases List.mem_append.mp ha with z | z
    · exact r.mo a z
    · have z' : a = p := by simpa using z
      subst z'
      exact ⟨fun q => r.fd a q hn, fun q => r.zd a q hn⟩

/-- a def's answer, back at its caller -/
theorem call_back {cf : Str → List D → St → Option (D × Bool × St)} {f : Str} {n : Nat} {ds : List D} {vs : List V} {d : D} {fr : Bool} {st' : List D} {Q : VK} {E : XK} (r : R g Z F μ ρ st σ H) (h : RelDs g F μ H ds vs) (hl : ds.length = n) (e : cf f ds st = some (d, fr, st'))
    (q : ∀ F' μ' H' v, Ext Z F μ H F' μ' H' → R g Z F' μ' ρ st' σ H' → VR g Z F' μ' ρ σ H' fr d v → Q v H') : spF g cf f n vs H Q E := by
  have zz : ∀ a, Z a → H a ≠ none ∧ a ∉ μ := fun a ha => ⟨r.zd a ha, fun hm => (r.mo a hm).2 ha⟩
  refine ⟨fun a => H a ≠ none ∧ a ∉ μ, F, μ, st, ds, d, fr, st', ⟨rfl, fun i d h => by simp at h, fun i d h => by simp at h, fun i j d e a h => by simp at h, r.sto, r.stl, r.nd, fun a ha => ⟨(r.mo a ha).1, fun z => z.2 ha⟩, r.fd, fun a ha => ha.1⟩, h, hl, e, fun F' μ' H' v x r' hv => ?_⟩
  have x' : Ext Z F μ H F' μ' H' := ⟨fun a ha => x.z a (zz a ha), fun a ha hf => x.zf a (zz a ha) hf, x.f, x.t, x.frz, x.m⟩
  have own' : ∀ (i : Nat) d a, ρ[i]? = some (.own d) → σ[i]? = some (some (.ref a)) → (H a ≠ none ∧ a ∉ μ) ∧ ContR g F μ H a d ∧ ¬F a ∧ ¬Z a := fun i d a e1 e2 => by
    obtain ⟨a', e3, q3, nf, nz, nm⟩ := r.own i d e1
    rw [e2] at e3
    cases e3
    exact ⟨⟨q3.some.1, nm⟩, q3, nf, nz⟩
  refine q F' μ' H' v x' ⟨r.len, fun i d hi => ?_, fun i d hi => ?_, r.apart, r'.sto, r'.stl, r'.nd, fun a ha => ⟨(r'.mo a ha).1, fun z => (r'.mo a ha).2 (zz a z)⟩, r'.fd, fun a ha => r'.zd a (zz a ha)⟩ ?_
  · obtain ⟨v, e, q⟩ := r.val i d hi
    exact ⟨v, e, q.ext x' _ _⟩
  · obtain ⟨a, e, _⟩ := r.own i d hi
    obtain ⟨h1, h2, h3, h4⟩ := own' i d a hi e
    exact ⟨a, e, h2.ext x' (x.z a h1), fun z => h3 (x.zf a h1 z), h4, fun z => (r'.mo a z).2 h1⟩
  · rcases hv with hv | ⟨hv, p, rfl, h1, h2, h3, h4, _⟩
    · exact .inl hv
    · refine .inr ⟨hv, p, rfl, h1, h2, fun z => h3 (zz p z), h4, fun i e he hs => ?_⟩
      exact h3 (own' i e p he hs).1
end
section
variable {ck : Ck} {Γ : Tab} {cf : Str → List D → St → Option (D × Bool × St)} {k : Nat} {X : Cx} {Z : Addr → Prop}
theorem n_tup {es : List E} {xs : List Expr} {kk : Nat} {pos : Pos} (h : PLo X Γ cf xs es) : PEo X Γ cf (.Tuple xs kk pos) (.tup es) :=
  PEimp (pe_tup h) fun σ H Q ⟨Z, F, μ, ρ, st, d, f, ρ', st', r, ev, q⟩ => by
    obtain ⟨ds, e1, hl, rfl, rfl⟩ := ev_tup ev
    refine ⟨Z, F, μ, ρ, st, ds, ρ', st', r, e1, fun F1 μ1 H1 vs x1 r1 h1 => ⟨by rw [← h1.length, ← lim_line]; exact hl, fun p hp => ?_⟩⟩
    obtain ⟨x3, r3, h3⟩ := Alc.done r1 (show Alc (ghX X) F1 μ1 H1 (.tup ds) false (.ref p) (upd H1 p (.tup vs)) from .inr (.inl ⟨p, vs, ds, rfl, hp, rfl, rfl, h1⟩))
    exact q F1 μ1 _ _ (x1.trans x3) r3 h3
theorem n_lst {es : List E} {xs : List Expr} {pos : Pos} (h : PLo X Γ cf xs es) : PEo X Γ cf (.List xs pos) (.lst es) :=
  PEimp (pe_lst h) fun σ H Q ⟨Z, F, μ, ρ, st, d, f, ρ', st', r, ev, q⟩ => by
    obtain ⟨ds, e1, hl, rfl, rfl⟩ := ev_lst ev
    refine ⟨Z, F, μ, ρ, st, ds, ρ', st', r, e1, fun F1 μ1 H1 vs x1 r1 h1 => ⟨by rw [← h1.length, ← lim_line]; exact hl, fun p hp => ?_⟩⟩
    obtain ⟨x3, r3, h3⟩ := Alc.done r1 (show Alc (ghX X) F1 μ1 H1 (.lst ds) true (.ref p) (upd H1 p (.lst vs)) from .inr (.inr ⟨p, vs, ds, rfl, hp, rfl, rfl, rfl, h1⟩))
    exact q F1 μ1 _ _ (x1.trans x3) r3 h3
theorem n_newH {es : List E} {xs : List Expr} {pos : Pos} (h : PLo X Γ cf xs es) : PEo X Γ cf (.List xs pos) (.newH es) :=
  PEimp (pe_lst h) fun σ H Q ⟨Z, F, μ, ρ, st, d, f, ρ', st', r, ev, q⟩ => by
    obtain ⟨ds, st1, e1, hl, rfl, rfl, rfl⟩ := ev_newH ev
    refine ⟨Z, F, μ, ρ, st, ds, ρ', st1, r, e1, fun F1 μ1 H1 vs x1 r1 h1 => ⟨by rw [← h1.length, ← lim_line]; exact hl, fun p hp => ?_⟩⟩
    obtain ⟨x3, r3⟩ := r1.newh hp h1
    refine q F1 _ _ _ (x1.trans x3) r3 (.val rfl ?_)
    simp only [RelD]
    refine ⟨p, rfl, ?_⟩
    rw [List.getElem?_append_right (by rw [r1.stl]; omega), r1.stl]
    simp

theorem ix_both (c : Cok ck Γ cf k X) : IxR X (fun v1 v2 H Q => ∃ F μ x y z, RelC (ghX X) F μ H x v1 ∧ RelD (ghX X) F μ H y v2 ∧ idxD x y = some z ∧ ∀ v, RelD (ghX X) F μ H z v → Q v H) := by
  intro value slice pins s σ H x y v u Q I rx ry ⟨F, μ, a, b, z, ha, hb, e, q⟩ hs
  by_cases hd : ∃ ks vs, a = .dic ks vs
  · obtain ⟨ks, vs, rfl⟩ := hd
    exact ix_dic c.u1 I rx ry ha hb e q hs
  · exact ix_idx value slice pins s σ H x y v u Q I rx ry ⟨F, μ, a, b, z, ha, hb, fun ks vs e => hd ⟨ks, vs, e⟩, e, q⟩ hs
theorem plainIx_of {b : Expr} (h : plainIx b = true) : PlainIx b := by
  intro o i
  cases b <;> first | rfl | cases h
theorem n_idx {a b : E} {l r : Expr} {pos : Pos} (c : Cok ck Γ cf k X) (ha : PEo X Γ cf l a) (hb : PEo X Γ cf r b) (hp : plainIx r = true) : PEo X Γ cf (.Subscript l r pos) (.idx a b) :=
  PEimp (pe_ix (ix_both c) (toD ha) (toD hb) (plainIx_of hp)) (bin_imp fun ρ st d f ρ' st' ev => by
    obtain ⟨x, fx, ρ1, st1, y, fy, e1, e2, e3, rfl⟩ := ev_idx ev
    exact ⟨x, fx, ρ1, st1, y, fy, e1, e2, fun F μ H v1 v2 Q h1 h2 q => ⟨F, μ, x, y, d, .inl h1, h2, e3, fun v hv => q _ _ (.val rfl hv)⟩⟩)
theorem n_idxO {i : Nat} {b : E} {y : Str} {r : Expr} {p pos : Pos} (c : Cok ck Γ cf k X) (hs : slotB ck X.env.scope i y = true) (hb : PEo X Γ cf r b) (hp : plainIx r = true) : PEo X Γ cf (.Subscript (.Name y p) r pos) (.idxO i b) :=
  PEimp (pe_ix (ix_both c) (slot_pe c hs) (toD hb) (plainIx_of hp)) (slotL_imp fun ρ st d f ρ' st' ev => by
    obtain ⟨x0, x, y, fy, e0, e1, e2, e3, rfl⟩ := ev_idxO ev
    exact ⟨x0, x, y, fy, e0, e1, e2, fun F μ H v1 v2 Q h1 h2 q => ⟨F, μ, x, y, d, h1, h2, e3, fun v hv => q _ _ (.val rfl hv)⟩⟩)

/-- a bound of a slice -/
def TP_ (g : Gh) (Γ : Tab) (cf : Str → List D → St → Option (D × Bool × St)) (ir : E) : TO := fun σ H Q => ∃ Z F μ ρ st d f ρ' st' b, R g Z F μ ρ st σ H ∧ evE Γ cf ir ρ st = some (d, f, ρ', st') ∧ bndE ir d = some b ∧
  ∀ F' μ' H', Ext Z F μ H F' μ' H' → R g Z F' μ' ρ' st' σ H' → Q b H'
theorem PO.imp' {e : Option Expr} {t t' : TO} (h : PO X e t) (w : ∀ σ H Q, t' σ H Q → t σ H Q) : PO X e t' := ⟨fun pins s σ H Q I q => h.run pins s σ H Q I (w σ H Q q)⟩
theorem p_omit : PO X none (TP_ (ghX X) Γ cf .omit) := PO.imp' po_none fun σ H Q ⟨Z, F, μ, ρ, st, d, f, ρ', st', b, r, ev, eb, q⟩ => by
  simp only [evE, Option.some.injEq, Prod.mk.injEq] at ev
  obtain ⟨rfl, rfl, rfl, rfl⟩ := ev
  simp only [bndE, Option.some.injEq] at eb
  subst eb
  exact q F μ H .refl r
theorem p_some {x : Expr} {ir : E} (hn : ir ≠ .omit) (h : PEo X Γ cf x ir) : PO X (some x) (TP_ (ghX X) Γ cf ir) := PO.imp' (po_some (toD h)) fun σ H Q ⟨Z, F, μ, ρ, st, d, f, ρ', st', b, r, ev, eb, q⟩ => by
  have hd : ∃ i, d = .int i ∧ b = some i := by
    cases d with
    | int i =>
      refine ⟨i, rfl, ?_⟩
      cases ir <;> first | exact absurd rfl hn | (simp only [bndE, Option.some.injEq] at eb; exact eb.symm)
    | _ => cases ir <;> first | exact absurd rfl hn | (simp [bndE] at eb)
  obtain ⟨i, rfl, rfl⟩ := hd
  refine ⟨Z, F, μ, ρ, st, _, f, ρ', st', r, ev, fun F1 μ1 H1 v x1 r1 h1 => ?_⟩
  simp only [RelD] at h1
  exact ⟨i, h1, q F1 μ1 H1 x1 r1⟩
theorem slc_cases {x : D} {l h : Option (Option Int)} {d : D} {f : Bool} (e : slcD x l h = some (d, f)) : ∃ lo hi, l = some lo ∧ h = some hi ∧ cutD x lo hi = some (d, f) := by
  cases l <;> cases h <;> first | (simp [slcD] at e; done) | exact ⟨_, _, rfl, rfl, e⟩
theorem n_slc {a lo hi : E} {x : Expr} {l u : Option Expr} {p2 pos : Pos} (ha : PEo X Γ cf x a) (hl : PO X l (TP_ (ghX X) Γ cf lo)) (hu : PO X u (TP_ (ghX X) Γ cf hi)) : PEo X Γ cf (.Subscript x (.Slice l u none p2) pos) (.slc a lo hi) :=
  PEimp (pe_slice sl_slc (toD ha) hl hu) fun σ H Q ⟨Z, F, μ, ρ, st, d, f, ρ', st', r, ev, q⟩ => by
    obtain ⟨x, fx, ρ1, st1, y, fy, ρ2, st2, z, fz, e1, e2, e3, e4⟩ := ev_slc ev
    obtain ⟨lo', hi', b1, b2, e5⟩ := slc_cases e4
    exact ⟨Z, F, μ, ρ, st, x, fx, ρ1, st1, r, e1, fun F1 μ1 H1 v1 x1 r1 h1 => ⟨Z, F1, μ1, ρ1, st1, y, fy, ρ2, st2, lo', r1, e2, b1, fun F2 μ2 H2 x2 r2 => ⟨Z, F2, μ2, ρ2, st2, z, fz, ρ', st', hi', r2, e3, b2, fun F3 μ3 H3 x3 r3 =>
      ⟨F3, μ3, x, d, f, .inl (h1.ext (x2.trans x3) _ _), e5, fun v H' hal => by
        obtain ⟨x4, r4, h4⟩ := hal.done r3
        exact q F3 μ3 H' v (((x1.trans x2).trans x3).trans x4) r4 h4⟩⟩⟩⟩
theorem n_slcO {i : Nat} {lo hi : E} {y : Str} {l u : Option Expr} {p p2 pos : Pos} (c : Cok ck Γ cf k X) (hs : slotB ck X.env.scope i y = true) (hl : PO X l (TP_ (ghX X) Γ cf lo)) (hu : PO X u (TP_ (ghX X) Γ cf hi)) :
    PEo X Γ cf (.Subscript (.Name y p) (.Slice l u none p2) pos) (.slcO i lo hi) :=
  PEimp (pe_slice sl_slc (slot_pe c hs) hl hu) fun σ H Q ⟨Z, F, μ, ρ, st, d, f, ρ', st', r, ev, q⟩ => by
    obtain ⟨x0, x, y, fy, ρ2, st2, z, fz, e0, e2, e3, e4', e4⟩ := ev_slcO ev
    obtain ⟨lo', hi', b1, b2, e5⟩ := slc_cases e4
    obtain ⟨v1, hv1⟩ := r.slotv e0
    exact ⟨v1, hv1, Z, F, μ, ρ, st, y, fy, ρ2, st2, lo', r, e2, b1, fun F2 μ2 H2 x2 r2 => ⟨Z, F2, μ2, ρ2, st2, z, fz, ρ', st', hi', r2, e3, b2, fun F3 μ3 H3 x3 r3 =>
      ⟨F3, μ3, x, d, f, r3.slot e4' hv1, e5, fun v H' hal => by
        obtain ⟨x4, r4, h4⟩ := hal.done r3
        exact q F3 μ3 H' v ((x2.trans x3).trans x4) r4 h4⟩⟩⟩

/-! ### calls -/
theorem n_call {f : Str} {es : List E} {xs : List Expr} {p pos : Pos} (c : Cok ck Γ cf k X) (hg : glB X.env.scope f = true) (h : PLo X Γ cf xs es) (hn : xs.all nStar = true) (hes : xs = [] → es = []) : PEo X Γ cf (.Call (.Name f p) xs [] pos) (.call f es) := by
  obtain ⟨g1, g2⟩ := gl_of hg
  obtain ⟨o1, _, _⟩ := okNm_of g2
  cases q : Γ.fns f with
  | none =>
    refine ⟨fun pins s σ H Q I hq => ?_⟩
    obtain ⟨Z, F, μ, ρ, st, d, fr, ρ', st', r, ev, _⟩ := hq
    obtain ⟨ds, st1, e1, e2⟩ := ev_call ev
    obtain ⟨fn, e3, _⟩ := c.cfl _ _ _ _ e2
    rw [q] at e3
    cases e3
  | some fn =>
    obtain ⟨fa, fd, m1, m2, m3, m4, m5⟩ := c.fns f fn q
    have w : ∀ σ H Q, TE_ (ghX X) Γ cf (.call f es) σ H Q → TL_ (ghX X) Γ cf es σ H (fun vs H1 => spF (ghX X) cf f fn.ps.length (vs ++ []) H1 Q E0) := by
      intro σ H Q ⟨Z, F, μ, ρ, st, d, fr, ρ', st', r, ev, qq⟩
      obtain ⟨ds, st1, e1, e2⟩ := ev_call ev
      obtain ⟨fn', e3, hl⟩ := c.cfl _ _ _ _ e2
      rw [q] at e3
      cases e3
      refine ⟨Z, F, μ, ρ, st, ds, ρ', st1, r, e1, fun F1 μ1 H1 vs x1 r1 h1 => ?_⟩
      show spF (ghX X) cf f fn.ps.length (vs ++ []) H1 Q E0
      rw [List.append_nil]
      exact call_back r1 h1 hl e2 fun F' μ' H' v x' r' hv => qq F' μ' H' v (x1.trans x') r' hv
    cases xs with
    | nil =>
      cases es with
      | cons e es =>
        refine ⟨fun pins s σ H Q I hq => ?_⟩
        exact absurd (hes rfl) (by simp)
      | nil =>
        refine PEimp (pe_call0 m4 c.room g1 m1 m2 m3 .nil pass0 o1) fun σ H Q hq => ?_
        obtain ⟨Z, F, μ, ρ, st, ds, ρ', st', r, ev, qq⟩ := w σ H Q hq
        simp only [evL, Option.some.injEq, Prod.mk.injEq] at ev
        obtain ⟨rfl, rfl, rfl⟩ := ev
        exact qq F μ H [] .refl r .nil
    | cons x xs =>
      simp only [List.all_cons, Bool.and_eq_true] at hn
      exact PEimp (pe_call m4 c.room g1 m1 m2 m3 .nil pass0 h o1 (starEach_cons hn.1) (noStars hn.2)) w
theorem pick_rel {g : Gh} {F : Addr → Prop} {μ : List Addr} {H : Hp} {ds : List D} {vs : List V} (h : RelDs g F μ H ds vs) : ∀ pm : List Nat, RelDs g F μ H (pickV .non pm ds) (pickV .non pm vs)
  | [] => .nil
  | i :: pm => by
    refine .cons ?_ (pick_rel h pm)
    show RelD g F μ H (ds.getD i .non) (vs.getD i .non)
    rw [List.getD_eq_getElem?_getD, List.getD_eq_getElem?_getD]
    cases e : ds[i]? with
    | none =>
      have : vs[i]? = none := by
        rw [List.getElem?_eq_none_iff] at e ⊢
        rw [← h.length]
        exact e
      rw [this]
      exact relNon
    | some d =>
      obtain ⟨v, ev, hv⟩ := h.get e
      rw [ev]
      exact hv
theorem pick_vals {vs : List V} {us : List Value} (h : Vals vs us) : ∀ pm : List Nat, Vals (pickV .non pm vs) (pickV .none pm us)
  | [] => .nil
  | i :: pm => by
    refine .cons ?_ (pick_vals h pm)
    have key : ∀ {vs : List V} {us : List Value} (i : Nat), Vals vs us → RelV (vs.getD i .non) (us.getD i .none) := by
      intro vs us i h
      induction h generalizing i with
      | nil => exact rfl
      | cons r1 r2 ih =>
        cases i with
        | zero => exact r1
        | succ i => exact ih i
    exact key i h
theorem PKimp {X : Cx} {kws : List Keyword} {t t' : TA} (h : PK X kws t) (w : ∀ σ H Q, t' σ H Q → t σ H Q) : PK X kws t' := ⟨fun pos pins s σ H Q I q => h.run pos pins s σ H Q I (w σ H Q q)⟩
theorem k_nil : PK X [] (TL_ (ghX X) Γ cf []) := PKimp pk_nil fun σ H Q ⟨Z, F, μ, ρ, st, ds, ρ', st', r, ev, q⟩ => by
  simp only [evL, Option.some.injEq, Prod.mk.injEq] at ev
  obtain ⟨rfl, rfl, rfl⟩ := ev
  exact q F μ H [] .refl r .nil
theorem k_cons {nm : Option Str} {xe : Expr} {kp : Pos} {xs : List Keyword} {e : E} {es : List E} (hn : ∀ a, e ≠ .star a) (h : PEo X Γ cf xe e) (t : PK X xs (TL_ (ghX X) Γ cf es)) : PK X (⟨nm, xe, kp⟩ :: xs) (TL_ (ghX X) Γ cf (e :: es)) :=
  PKimp (pk_cons (toD h) t) fun σ H Q ⟨Z, F, μ, ρ, st, ds, ρ', st', r, ev, q⟩ => by
    obtain ⟨d, fx, ρ1, st1, r', e1, e2, rfl⟩ := ev_cons hn ev
    exact ⟨Z, F, μ, ρ, st, d, fx, ρ1, st1, r, e1, fun F1 μ1 H1 v1 x1 r1 h1 => ⟨Z, F1, μ1, ρ1, st1, r', ρ', st', r1, e2, fun F2 μ2 H2 vs x2 r2 h2 => q F2 μ2 H2 _ (x1.trans x2) r2 (.cons (h1.ext x2 _ _) h2)⟩⟩
theorem kw_all {kws : List Keyword} {pos : Pos} {env : Env} (h : kws.all (·.arg.isSome) = true) : (backToKw pos (keywordEach kws env)).all (·.1.isSome) = true := by
  induction kws with
  | nil => rfl
  | cons x xs ih =>
    obtain ⟨xa, xv, xp⟩ := x
    simp only [List.all_cons, Bool.and_eq_true] at h
    show (xa.isSome && (backToKw pos (keywordEach xs env)).all (·.1.isSome)) = true
    rw [h.1, ih h.2]
    rfl
theorem kw_names {kws : List Keyword} {pos : Pos} {env : Env} : (backToKw pos (keywordEach kws env)).filterMap (·.1) = kws.filterMap (·.arg) := by
  induction kws with
  | nil => rfl
  | cons x xs ih =>
    obtain ⟨xa, xv, xp⟩ := x
    show ((xa, (do let v ← eval xv env; standAt pos; pure v : Sem Value)) :: backToKw pos (keywordEach xs env)).filterMap (·.1) = _
    rw [List.filterMap_cons, List.filterMap_cons, ih]
theorem kw_none {kws : List Keyword} {pos : Pos} {env : Env} (h : kws.all (·.arg.isSome) = true) : ((backTo pos (starEach [] env)).any (·.1) || (backToKw pos (keywordEach kws env)).any (·.1.isNone)) = false := by
  have : (backToKw pos (keywordEach kws env)).any (·.1.isNone) = false := by
    rw [List.any_eq_false]
    intro y hy
    have := List.all_eq_true.mp (kw_all (pos := pos) (env := env) h) y hy
    cases e : y.1 <;> simp_all
  rw [this]
  rfl
theorem kw_len {kws : List Keyword} (h : kws.all (·.arg.isSome) = true) : (kws.filterMap (·.arg)).length = kws.length := by
  induction kws with
  | nil => rfl
  | cons x xs ih =>
    simp only [List.all_cons, Bool.and_eq_true] at h
    obtain ⟨h1, h2⟩ := h
    cases e : x.arg with
    | none => rw [e] at h1; cases h1
    | some y => rw [List.filterMap_cons, e]; simp [ih h2]
theorem ev_lenK : ∀ {es : List E} {ρ ρ' : Ss} {st st' : St} {ds : List D}, es.all nStE = true → evL Γ cf es ρ st = some (ds, ρ', st') → ds.length = es.length
  | [], ρ, ρ', st, st', ds, _, h => by
    simp only [evL, Option.some.injEq, Prod.mk.injEq] at h
    rw [← h.1]
    rfl
  | e :: es, ρ, ρ', st, st', ds, hn, h => by
    simp only [List.all_cons, Bool.and_eq_true] at hn
    obtain ⟨d, fx, ρ1, st1, r', e1, e2, rfl⟩ := ev_cons (fun a q => by subst q; cases hn.1) h
    simp [ev_lenK hn.2 e2]
/-- f(k = v, ..) -/
theorem n_callK {f : Str} {pm : List Nat} {es : List E} {kws : List Keyword} {p pos : Pos} (c : Cok ck Γ cf k X) (hg : glB X.env.scope f = true) (ha : kws.all (·.arg.isSome) = true) (hm : (f, kws.filterMap (·.arg), pm) ∈ ck.kw) (h : PK X kws (TL_ (ghX X) Γ cf es)) (hn : es.all nStE = true) (hl : es.length = kws.length) :
    PEo X Γ cf (.Call (.Name f p) [] kws pos) (.callK f pm es) := by
  obtain ⟨g1, g2⟩ := gl_of hg
  obtain ⟨o1, _, _⟩ := okNm_of g2
  refine ⟨fun pins s σ H Q I hq => ?_⟩
  obtain ⟨Z, F, μ, ρ, st, d, fr, ρ', st', r, ev, qq⟩ := hq
  obtain ⟨ds, st1, e1, e2⟩ := ev_callK ev
  obtain ⟨fn, e3, hlen⟩ := c.cfl _ _ _ _ e2
  obtain ⟨fa, fd, m1, m2, m3, m4, m5⟩ := c.fns f fn e3
  have hb := m5 _ _ hm
  have hT : TL_ (ghX X) Γ cf es σ H (fun vs H1 => vs.length = (kws.filterMap (·.arg)).length ∧ spF (ghX X) cf f fn.ps.length (pickV .non pm vs) H1 Q E0) := by
    refine ⟨Z, F, μ, ρ, st, ds, ρ', st1, r, e1, fun F1 μ1 H1 vs x1 r1 h1 => ⟨?_, ?_⟩⟩
    · rw [← h1.length, ev_lenK hn e1, hl, kw_len ha]
    · exact call_back r1 (pick_rel h1 pm) hlen e2 fun F' μ' H' v x' r' hv => qq F' μ' H' v (x1.trans x') r' hv
  refine wpAny_Call_Name_kw (ld_glob I g1 m1 ?_ o1)
  refine PySem.W.callWith_KW0 (h₀ := X.base) I.ok.mod.kin m2 (kw_all ha) (thn (h.run pos pins s σ H _ I hT) fun ws s2 ⟨zs, H2, I2, rz, hz, q2⟩ => ⟨I2.kIn, ?_⟩) (kw_none ha)
  rw [kw_names]
  have r2 := pick_vals rz pm
  show wpAny (model X.prog X.w) X.A (call (Value.ref fa) [] ((kws.filterMap (·.arg)).zip ws)) (EP X pins σ Q) X.xe s2
  refine wpAny_call (codeAny_mono (m4.run X.A X.stack s2 H2 ⟨[], (kws.filterMap (·.arg)).zip ws⟩ (pickV .none pm ws) (pickV .non pm zs) Q E0 c.room I2.env0 (hb s2 ws (by rw [← rz.length]; exact hz)) r2 q2) fun r s' hq => ?_)
  cases r with
  | error e => exact pass0 pins σ H2 s2 e s' I2 hq
  | ok fl =>
    cases fl with
    | ret u => exact I2.after hq
    | next => exact False.elim hq
    | brk => exact False.elim hq
    | cont => exact False.elim hq
theorem n_blt {b : Blt} {es : List E} {x : Expr} {xs : List Expr} {p pos : Pos} (c : Cok ck Γ cf k X) (hg : isGcd b = false) (hf : freeB ck X.env.scope (bltN b) (bltN b) = true) (h : PLo X Γ cf (x :: xs) es) (hn : (x :: xs).all nStar = true) :
    PEo X Γ cf (.Call (.Name (bltN b) p) (x :: xs) [] pos) (.blt b es) := by
  obtain ⟨_, g1, g2, m⟩ := free_of c hf
  obtain ⟨o1, _, o3⟩ := okNm_of g2
  simp only [List.all_cons, Bool.and_eq_true] at hn
  have w : ∀ σ H Q, TE_ (ghX X) Γ cf (.blt b es) σ H Q → tCB (rBlt (ghX X) b) (TL_ (ghX X) Γ cf es) σ H Q := by
    intro σ H Q ⟨Z, F, μ, ρ, st, d, fr, ρ', st', r, ev, q⟩
    obtain ⟨ds, e1, e2⟩ := ev_blt ev
    refine ⟨Z, F, μ, ρ, st, ds, ρ', st', r, e1, fun F1 μ1 H1 vs x1 r1 h1 => ⟨F1, μ1, ds, d, fr, .of h1, e2, fun v H' hal => ?_⟩⟩
    obtain ⟨x4, r4, h4⟩ := hal.done r1
    exact q F1 μ1 H' v (x1.trans x4) r4 h4
  have hc := cr_blt c.calm c.rm b
  cases b <;> first
    | (cases hg; done)
    | exact PEimp (pe_callB hc g1 m (by decide +kernel) h o3 o1 (starEach_cons hn.1) (noStars hn.2)) w
    | exact PEimp (pe_callTy hc g1 m (by decide +kernel) h o3 o1 (starEach_cons hn.1) (noStars hn.2)) w
theorem n_gcd {es : List E} {x : Expr} {xs : List Expr} {p pos : Pos} (c : Cok ck Γ cf k X) (hg : glB X.env.scope (bltN .gcd) = true) (hf : ck.gb.lookup (bltN .gcd) = some "math.gcd") (h : PLo X Γ cf (x :: xs) es) (hn : (x :: xs).all nStar = true) :
    PEo X Γ cf (.Call (.Name (bltN .gcd) p) (x :: xs) [] pos) (.blt .gcd es) := by
  obtain ⟨g1, g2⟩ := gl_of hg
  obtain ⟨o1, _, o3⟩ := okNm_of g2
  simp only [List.all_cons, Bool.and_eq_true] at hn
  refine PEimp (pe_callBfun (cr_blt c.calm c.rm .gcd) g1 (c.gb _ _ hf) h o1 (starEach_cons hn.1) (noStars hn.2)) fun σ H Q ⟨Z, F, μ, ρ, st, d, fr, ρ', st', r, ev, q⟩ => ?_
  obtain ⟨ds, e1, e2⟩ := ev_blt ev
  refine ⟨Z, F, μ, ρ, st, ds, ρ', st', r, e1, fun F1 μ1 H1 vs x1 r1 h1 => ⟨F1, μ1, ds, d, fr, .of h1, e2, fun v H' hal => ?_⟩⟩
  obtain ⟨x4, r4, h4⟩ := hal.done r1
  exact q F1 μ1 H' v (x1.trans x4) r4 h4
theorem n_lenO {i : Nat} {y : Str} {p q pos : Pos} (c : Cok ck Γ cf k X) (hf : freeB ck X.env.scope (bltN .len) (bltN .len) = true) (hs : slotB ck X.env.scope i y = true) : PEo X Γ cf (.Call (.Name (bltN .len) p) [.Name y q] [] pos) (.lenO i) := by
  obtain ⟨_, g1, g2, m⟩ := free_of c hf
  obtain ⟨o1, _, o3⟩ := okNm_of g2
  refine PEimp (pe_callB (cr_blt c.calm c.rm .len) g1 m (by decide +kernel) (pa_cons (slot_pe c hs) pa_nil) o3 o1) fun σ H Q ⟨Z, F, μ, ρ, st, d, fr, ρ', st', r, ev, q⟩ => ?_
  obtain ⟨x, n, e1, e2, rfl, rfl, rfl, rfl⟩ := ev_lenO ev
  obtain ⟨v, hv⟩ := r.slotv e1
  refine ⟨v, hv, F, μ, [x], .int n, false, ⟨v, [], rfl, r.slot e1 hv, .nil⟩, by simp [bltD, e2], fun w H' hal => ?_⟩
  obtain ⟨x4, r4, h4⟩ := hal.done r
  exact q F μ H' w x4 r4 h4
end
end Rv

set_option Elab.async false
set_option linter.all false
set_option maxRecDepth 100000
set_option maxHeartbeats 8000000
/-! What loops walk. -/
namespace Rv
open PySem PySem.Spec PyProof.Rows L2

/-! ### a list or a tuple, either -/
def SeqK (K : PySem.W.Frag) (H : Hp) (k : Bool) (a : Addr) (xs : List V) : Prop := match k with
  | true => SqL K H a xs
  | false => SqT K H a xs
def IterK (h : Heap) (k : Bool) (it a : Addr) (i : Nat) : Prop := match k with
  | true => h.IsListIter it a i
  | false => h.IsTupleIter it a i
def RawK (h : Heap) (k : Bool) (a : Addr) (its : Array Value) : Prop := match k with
  | true => h.IsList a its
  | false => h.IsTuple a its
def objK (k : Bool) (a : Addr) : Obj := match k with
  | true => { cls := .type "list_iterator", data := .fields #[.ref a, .int 0 0] }
  | false => { cls := .type "tuple_iterator", data := .fields #[.ref a, .int 0 0] }
section
variable {X : Cx} {pins : List (Addr × Obj)} {σ : L2.St} {H : Hp} {s : Shared} {a it : Addr} {xs ys : List V} {k : Bool} {i : Nat}
theorem seqk (I : Inv X pins σ H s) (h : SeqK X.K H k a xs) : ∃ its : List Value, Vals xs its ∧ RawK s.heap k a its.toArray ∧ xs.length ≤ sizeLine ∧ a < s.heap.objs.size := by
  cases k with
  | true =>
    obtain ⟨its, r, p, z⟩ := I.list h
    exact ⟨its, r, p.isList, z, p.lt⟩
  | false =>
    obtain ⟨its, r, p, z⟩ := I.tuple h
    exact ⟨its, r, p, z, p.lt⟩
theorem seqk_inj (I : Inv X pins σ H s) (h : SeqK X.K H k a xs) (h' : SeqK X.K H k a ys) : xs = ys := by
  cases k with
  | true => exact I.list_inj h h'
  | false => exact I.tuple_inj h h'
theorem drawsK {prog : Program} {w : World} {A : Around} (hh : A.handled = none) (k : Bool) (it a : Addr) (hne : a ≠ it) (items : Array Value) : Draws prog w A it [it, a] items.size (fun i v => items[i]? = some v) (fun i h => IterK h k it a i ∧ RawK h k a items) := by
  cases k with
  | true => exact Draws.list hh it a hne items
  | false => exact Draws.tuple hh it a hne items
theorem beginsK (k : Bool) (a : Addr) (items : Array Value) : Begins (.ref a) (objK k a) (fun h => RawK h k a items) := by
  cases k with
  | true => exact begins_list a items
  | false => exact begins_tuple a items
theorem iterk_obj {h : Heap} (st : IterK h k it a i) : ∃ o, h.get? it = some o ∧ ∀ v, o.data ≠ .cell v := by
  cases k with
  | true =>
    obtain ⟨o, e, _, d⟩ := st
    exact ⟨o, e, fun v q => by rw [d] at q; cases q⟩
  | false =>
    obtain ⟨o, e, _, d⟩ := st
    exact ⟨o, e, fun v q => by rw [d] at q; cases q⟩
theorem iterk_at {h h' : Heap} (st : IterK h k it a i) (hk : ∀ o, h.get? it = some o → h'.get? it = some o) : IterK h' k it a i := by
  cases k with
  | true => exact st.at hk
  | false => exact st.at hk
theorem iterk_new {h : Heap} (e : h.get? it = some (objK k a)) : IterK h k it a 0 := by
  cases k with
  | true => exact ⟨_, e, rfl, rfl⟩
  | false => exact ⟨_, e, rfl, rfl⟩
end

/-! ### zip of two such -/
def ItZ (K : PySem.W.Frag) (k1 k2 : Bool) (a b : Addr) : It :=
  ⟨fun i H => ∃ (xs ys : List V) (x y : V), SeqK K H k1 a xs ∧ SeqK K H k2 b ys ∧ xs[i]? = some x ∧ ys[i]? = some y,
    fun i H v H' => ∃ T x y, v = .ref T ∧ H T = none ∧ H' = upd H T (.tup [x, y]) ∧ (∀ xs, SeqK K H k1 a xs → xs[i]? = some x) ∧ ∀ ys, SeqK K H k2 b ys → ys[i]? = some y,
    fun i H => ∃ xs ys : List V, SeqK K H k1 a xs ∧ SeqK K H k2 b ys ∧ i ≤ xs.length ∧ i ≤ ys.length ∧ (i = xs.length ∨ i = ys.length)⟩
structure ZAp (z TI TO i1 i2 a b : Addr) : Prop where
  TIz : TI ≠ z
  TOz : TO ≠ z
  i1z : i1 ≠ z
  i2z : i2 ≠ z
  TITO : TI ≠ TO
  TIi1 : TI ≠ i1
  TIi2 : TI ≠ i2
  TOi1 : TO ≠ i1
  TOi2 : TO ≠ i2
  i12 : i1 ≠ i2
theorem ZAp.sep {z TI TO i1 i2 a b : Addr} (D : ZAp z TI TO i1 i2 a b) (h1 : a ≠ z) (h2 : a ≠ TO) (h3 : b ≠ z) (h4 : b ≠ TO) (h5 : i1 ≠ b) (h6 : i2 ≠ a) : ZipSep2 z TI TO i1 i2 [i1, a] [i2, b] where
  TIz := D.TIz
  TOz := D.TOz
  TITO := D.TITO
  TIi1 := D.TIi1
  mem1 := by simp
  zf1 := by simp only [List.mem_cons, List.not_mem_nil, or_false, not_or]; exact ⟨D.i1z.symm, h1.symm⟩
  Tf1 := by simp only [List.mem_cons, List.not_mem_nil, or_false, not_or]; exact ⟨D.TOi1, h2.symm⟩
  TIi2 := D.TIi2
  mem2 := by simp
  zf2 := by simp only [List.mem_cons, List.not_mem_nil, or_false, not_or]; exact ⟨D.i2z.symm, h3.symm⟩
  Tf2 := by simp only [List.mem_cons, List.not_mem_nil, or_false, not_or]; exact ⟨D.TOi2, h4.symm⟩
  sep1_2 := by simp only [List.mem_cons, List.not_mem_nil, or_false, not_or]; exact ⟨D.i12, h5⟩
  sep2_1 := by simp only [List.mem_cons, List.not_mem_nil, or_false, not_or]; exact ⟨D.i12.symm, h6⟩
theorem fp_ne {X : Cx} {pins : List (Addr × Obj)} {H : Hp} {c a : Addr} (h : FpOk X pins H c) (ha : H a ≠ none) : a ≠ c := fun e => ha (e ▸ h.1)
theorem seqk_dom {X : Cx} {pins : List (Addr × Obj)} {σ : L2.St} {H : Hp} {s : Shared} {k : Bool} {a c : Addr} {xs : List V} (I : Inv X pins σ H s) (h : SeqK X.K H k a xs) (hc : FpOk X pins H c) (ho : ∃ o, s.heap.get? c = some o ∧ (∀ its n, o.data ≠ .seq its n)) : a ≠ c := by
  intro e
  subst e
  obtain ⟨o, ho, hd⟩ := ho
  cases k with
  | true =>
    obtain ⟨its, _, ⟨o', n, e', _, _, d⟩, _⟩ := I.list h
    rw [ho] at e'
    cases e'
    exact hd _ _ d
  | false =>
    obtain ⟨its, _, ⟨o', e', _, n, d⟩, _⟩ := I.tuple h
    rw [ho] at e'
    cases e'
    exact hd _ _ d
theorem seqk_dom' {X : Cx} {pins : List (Addr × Obj)} {σ : L2.St} {H : Hp} {s : Shared} {k : Bool} {a c : Addr} {xs : List V} (I : Inv X pins σ H s) (h : SeqK X.K H k a xs) (hc : FpOk X pins H c) (hK : ∀ o, X.K.lookup c = some o → s.heap.get? c = some o) (ho : X.s_0.heap.objs.size ≤ c ∨ c ∈ X.ex) (hk : X.K.lookup c = none) : a ≠ c := by
  intro e
  subst e
  cases k with
  | true =>
    rcases h with (h | ⟨o, h⟩) | ⟨o, its, n, h, _⟩
    · rw [hc.1] at h; cases h
    · rw [hc.1] at h; cases h
    · rw [hk] at h; cases h
  | false =>
    rcases h with (h | ⟨o, h⟩) | ⟨o, its, n, h, _⟩
    · rw [hc.1] at h; cases h
    · rw [hc.1] at h; cases h
    · rw [hk] at h; cases h

theorem turn_zipK {P : Program} {w : World} {K : PySem.W.Frag} {elts : List Expr} {kk : Nat} {tpos : Pos} {k1 k2 : Bool} {a b z TI TO i1 i2 : Addr} (D : ZAp z TI TO i1 i2 a b) (haT : a ≠ TO) (hbT : b ≠ TO) :
    Turn P w K (.Tuple elts kk tpos) (ItZ K k1 k2 a b) [z, TI, TO, i1, i2] z (fun i h => IsZip h z TI TO .none ∧ IsPair h TI (.ref i1) (.ref i2) ∧ (∃ x y, IsPair h TO x y) ∧ IterK h k1 i1 a i ∧ IterK h k2 i2 b i) where
  mem := by simp
  obj := fun i h st c hc => by
    obtain ⟨hz, hTI, ⟨x, y, hTO⟩, h1, h2⟩ := st
    have e' : c = z ∨ c = TI ∨ c = TO ∨ c = i1 ∨ c = i2 := by simpa using hc
    rcases e' with q | q | q | q | q
    · rw [q]; exact ⟨_, hz, fun v q => nomatch q⟩
    · rw [q]; exact ⟨_, hTI, fun v q => nomatch q⟩
    · rw [q]; exact ⟨_, hTO, fun v q => nomatch q⟩
    · rw [q]; exact iterk_obj h1
    · rw [q]; exact iterk_obj h2
  keep := fun i h h' st k => by
    obtain ⟨hz, hTI, ⟨x, y, hTO⟩, h1, h2⟩ := st
    exact ⟨k z (by simp) _ hz, k TI (by simp) _ hTI, ⟨x, y, k TO (by simp) _ hTO⟩, iterk_at h1 fun o q => k i1 (by simp) o q, iterk_at h2 fun o q => k i2 (by simp) o q⟩
  item := by
    intro X hP hw hK hc i pins s σ H E I hf st hg
    subst hP hw hK
    obtain ⟨hz, hTI, ⟨x0, y0, hTO⟩, h1, h2⟩ := st
    obtain ⟨xs, ys, x, y, hqx, hqy, hx, hy⟩ := hg
    obtain ⟨its, rv, p, hzx, la⟩ := seqk I hqx
    obtain ⟨its2, rv2, p2, hzy, lb⟩ := seqk I hqy
    obtain ⟨u, hu, ru⟩ := rv.get hx
    obtain ⟨u2, hu2, ru2⟩ := rv2.get hy
    have nseq : ∀ {kk : Bool} {it c : Addr} {j : Nat}, IterK s.heap kk it c j → ∃ o, s.heap.get? it = some o ∧ ∀ its n, o.data ≠ .seq its n := by
      intro kk it c j st
      cases kk with
      | true => obtain ⟨o, e, _, d⟩ := st; exact ⟨o, e, fun its n q => by rw [d] at q; cases q⟩
      | false => obtain ⟨o, e, _, d⟩ := st; exact ⟨o, e, fun its n q => by rw [d] at q; cases q⟩
    have za : ∃ o, s.heap.get? z = some o ∧ ∀ its n, o.data ≠ .seq its n := ⟨_, hz, fun its n q => nomatch q⟩
    have az : a ≠ z := seqk_dom I hqx (hf z (by simp)) za
    have bz : b ≠ z := seqk_dom I hqy (hf z (by simp)) za
    have ai1 : a ≠ i1 := seqk_dom I hqx (hf i1 (by simp)) (nseq h1)
    have bi1 : b ≠ i1 := seqk_dom I hqy (hf i1 (by simp)) (nseq h1)
    have ai2 : a ≠ i2 := seqk_dom I hqx (hf i2 (by simp)) (nseq h2)
    have bi2 : b ≠ i2 := seqk_dom I hqy (hf i2 (by simp)) (nseq h2)
    have S : ZipSep2 z TI TO i1 i2 [i1, a] [i2, b] := D.sep az haT bz hbT bi1.symm ai2.symm
    have hzl : z < s.heap.objs.size := Heap.lt_size hz
    have hh : X.A.in1.handled = none := I.ok.hd hc
    refine wpAny_pyNext_zipD2_item S (drawsK hh k1 i1 a ai1 its.toArray) (drawsK hh k2 i2 b bi2 its2.toArray) hz hTI hTO ⟨h1, p⟩ ⟨h2, p2⟩ (by have := (List.getElem?_eq_some_iff.mp hu).1; simpa using this) (by have := (List.getElem?_eq_some_iff.mp hu2).1; simpa using this) fun x1 x2 h' tk e1 e2 z' TO' h1' h2' hT hsz hk => ?_
    have e1' : x1 = u := by simpa [hu] using e1.symm
    have e2' : x2 = u2 := by simpa [hu2] using e2.symm
    subst e1' e2'
    refine ⟨_, rfl, wpAny_letOwnedTupleGo_zip (s := { s with heap := h', toks := tk }) z' fun h'' z'' sb => ?_⟩
    have hT2 : h''.get? s.heap.objs.size = some { cls := .type "tuple", data := .seq #[x1, x2] } := (sb.2 _ (Nat.ne_of_gt hzl)).trans hT
    have new : ObjOk X.prog X.w (upd H s.heap.objs.size (.tup [x, y])) h'' s.heap.objs.size (.tup [x, y]) :=
      ⟨by show 2 ≤ sizeLine; decide, [x1, x2], .cons ru (.cons ru2 .nil), ⟨_, hT2, rfl, _, rfl⟩⟩
    have I1 : Inv X pins σ (upd H s.heap.objs.size (.tup [x, y])) { s with heap := h'', toks := tk } :=
      I.turnedNew (ch := [z, TI, TO, i1, i2]) (fun c o hb q => (sb.2 c (fun q' => hb (by simp [q']))).trans (hk c o (fun q' => hb (by simp [q'])) (fun q' => hb (by simp [q'])) (fun q' => hb (by simp [q'])) (fun q' => hb (by simp [q'])) q)) hf (Nat.le_refl _) new
    refine ⟨.ref s.heap.objs.size, _, I1, rfl, ⟨_, x, y, rfl, I.hok.fresh (Nat.le_refl _), rfl, fun l hl => by rw [seqk_inj I hl hqx]; exact hx, fun l hl => by rw [seqk_inj I hl hqy]; exact hy⟩, ⟨z'', ?_, ⟨x1, x2, ?_⟩, ?_, ?_⟩, fun c hcm => ?_⟩
    · exact (sb.2 _ D.TIz).trans (hk _ _ D.TIz D.TITO D.TIi1 D.TIi2 hTI)
    · exact (sb.2 _ D.TOz).trans TO'
    · exact iterk_at h1'.1 fun o q => (sb.2 _ D.i1z).trans q
    · exact iterk_at h2'.1 fun o q => (sb.2 _ D.i2z).trans q
    · have hlt : c < s.heap.objs.size := by
        have e' : c = z ∨ c = TI ∨ c = TO ∨ c = i1 ∨ c = i2 := by simpa using hcm
        rcases e' with q | q | q | q | q
        · rw [q]; exact hzl
        · rw [q]; exact Heap.lt_size hTI
        · rw [q]; exact Heap.lt_size hTO
        · rw [q]; obtain ⟨_, e1, _⟩ := iterk_obj h1; exact Heap.lt_size e1
        · rw [q]; obtain ⟨_, e1, _⟩ := iterk_obj h2; exact Heap.lt_size e1
      rw [upd_ne (Nat.ne_of_lt hlt)]
      exact (hf c hcm).1
  done := by
    intro X hP hw hK hc i pins s σ H E I hf st hg
    subst hP hw hK
    obtain ⟨hz, hTI, ⟨x0, y0, hTO⟩, h1, h2⟩ := st
    obtain ⟨xs, ys, hqx, hqy, l1, l2, hend⟩ := hg
    obtain ⟨its, rv, p, _, la⟩ := seqk I hqx
    obtain ⟨its2, rv2, p2, _, lb⟩ := seqk I hqy
    have n1 := rv.length
    have n2 := rv2.length
    have nseq : ∀ {kk : Bool} {it c : Addr} {j : Nat}, IterK s.heap kk it c j → ∃ o, s.heap.get? it = some o ∧ ∀ its n, o.data ≠ .seq its n := by
      intro kk it c j st
      cases kk with
      | true => obtain ⟨o, e, _, d⟩ := st; exact ⟨o, e, fun its n q => by rw [d] at q; cases q⟩
      | false => obtain ⟨o, e, _, d⟩ := st; exact ⟨o, e, fun its n q => by rw [d] at q; cases q⟩
    have za : ∃ o, s.heap.get? z = some o ∧ ∀ its n, o.data ≠ .seq its n := ⟨_, hz, fun its n q => nomatch q⟩
    have az : a ≠ z := seqk_dom I hqx (hf z (by simp)) za
    have bz : b ≠ z := seqk_dom I hqy (hf z (by simp)) za
    have ai1 : a ≠ i1 := seqk_dom I hqx (hf i1 (by simp)) (nseq h1)
    have bi1 : b ≠ i1 := seqk_dom I hqy (hf i1 (by simp)) (nseq h1)
    have ai2 : a ≠ i2 := seqk_dom I hqx (hf i2 (by simp)) (nseq h2)
    have bi2 : b ≠ i2 := seqk_dom I hqy (hf i2 (by simp)) (nseq h2)
    have S : ZipSep2 z TI TO i1 i2 [i1, a] [i2, b] := D.sep az haT bz hbT bi1.symm ai2.symm
    have hh : X.A.in1.handled = none := I.ok.hd hc
    refine wpAny_pyNext_zipD2_end S (drawsK hh k1 i1 a ai1 its.toArray) (drawsK hh k2 i2 b bi2 its2.toArray) hz hTI hTO ⟨h1, p⟩ ⟨h2, p2⟩ (by simp; omega) (by simp; omega) (by simp; omega) fun h' tk hk => ⟨rfl, I.turnedL (ch := [z, TI, TO, i1, i2]) (fun c o hb q =>
      hk c o (fun q' => hb (by simp [q'])) (fun q' => hb (by simp [q'])) (fun q' => hb (by simp [q'])) (fun q' => hb (by simp [q'])) q) hf⟩
  self := fun A i s Q E st h => wpAny_pyIter_zip st.1 h

/-! ### enumerate of such -/
def ItE (K : PySem.W.Frag) (k : Bool) (a : Addr) : It :=
  ⟨fun i H => ∃ (xs : List V) (x : V), SeqK K H k a xs ∧ xs[i]? = some x, fun i H v H' => ∃ T x, v = .ref T ∧ H T = none ∧ H' = upd H T (.tup [.int (i : Nat), x]) ∧ ∀ xs, SeqK K H k a xs → xs[i]? = some x, fun i H => ∃ xs : List V, SeqK K H k a xs ∧ i = xs.length⟩
theorem turn_enumK {P : Program} {w : World} {K : PySem.W.Frag} {elts : List Expr} {kk : Nat} {tpos : Pos} {k : Bool} (a e it : Addr) :
    Turn P w K (.Tuple elts kk tpos) (ItE K k a) [e, it] e (fun i h => (∃ old, IsEnum h e it ((i : Nat) : Int) old) ∧ IterK h k it a i ∧ e ≠ it) where
  mem := by simp
  obj := fun i h st b hb => by
    obtain ⟨⟨old, he⟩, hi, _⟩ := st
    have e' : b = e ∨ b = it := by simpa using hb
    rcases e' with z | z
    · rw [z]; exact ⟨_, he, fun v q => nomatch q⟩
    · rw [z]; exact iterk_obj hi
  keep := fun i h h' st k => let ⟨⟨old, he⟩, hi, hne⟩ := st; ⟨⟨old, k e (by simp) _ he⟩, iterk_at hi fun o q => k it (by simp) o q, hne⟩
  item := by
    intro X hP hw hK hc i pins s σ H E I hf st hg
    subst hP hw hK
    obtain ⟨⟨old, he⟩, hit, hne⟩ := st
    obtain ⟨xs, x, hq, hx⟩ := hg
    obtain ⟨its, rv, p, hz, la⟩ := seqk I hq
    obtain ⟨u, hu, ru⟩ := rv.get hx
    have hel : e < s.heap.objs.size := Heap.lt_size he
    have hil : it < s.heap.objs.size := by obtain ⟨_, q, _⟩ := iterk_obj hit; exact Heap.lt_size q
    have nseq : ∃ o, s.heap.get? it = some o ∧ ∀ its n, o.data ≠ .seq its n := by
      cases k with
      | true => obtain ⟨o, e, _, d⟩ := hit; exact ⟨o, e, fun its n q => by rw [d] at q; cases q⟩
      | false => obtain ⟨o, e, _, d⟩ := hit; exact ⟨o, e, fun its n q => by rw [d] at q; cases q⟩
    have ae : a ≠ e := seqk_dom I hq (hf e (by simp)) ⟨_, he, fun its n q => nomatch q⟩
    have ait : a ≠ it := seqk_dom I hq (hf it (by simp)) nseq
    have hh : X.A.in1.handled = none := I.ok.hd hc
    refine wpAny_pyNext_enum_itemC (drawsK hh k it a ait its.toArray) he ⟨hit, p⟩ (by have := (List.getElem?_eq_some_iff.mp hu).1; simpa using this) hne (by simp only [List.mem_cons, List.not_mem_nil, or_false, not_or]; exact ⟨hne, ae.symm⟩) fun x1 h' tk e1 ho hit' hT hsz hk => ?_
    have e1' : x1 = u := by simpa [hu] using e1.symm
    subst e1'
    refine ⟨_, rfl, wpAny_letOwnedTupleGo_enum (s := { s with heap := h', toks := tk + 1 }) ho fun h'' he' sb => ?_⟩
    have hT2 : h''.get? s.heap.objs.size = some { cls := .type "tuple", data := .seq #[.int i tk, x1] } := (sb.2 _ (Nat.ne_of_gt hel)).trans hT
    have new : ObjOk X.prog X.w (upd H s.heap.objs.size (.tup [.int (i : Nat), x])) h'' s.heap.objs.size (.tup [.int (i : Nat), x]) :=
      ⟨by show 2 ≤ sizeLine; decide, [.int i tk, x1], .cons ⟨_, rfl⟩ (.cons ru .nil), ⟨_, hT2, rfl, _, rfl⟩⟩
    have I1 : Inv X pins σ (upd H s.heap.objs.size (.tup [.int (i : Nat), x])) { s with heap := h'', toks := tk + 1 } :=
      I.turnedNew (ch := [e, it]) (fun b ob hb q => (sb.2 b (fun z => hb (by simp [z]))).trans (hk b ob (fun z => hb (by simp [z])) (fun z => hb (by simp [z])) q)) hf (Nat.le_refl _) new
    refine ⟨.ref s.heap.objs.size, _, I1, rfl, ⟨_, x, rfl, I.hok.fresh (Nat.le_refl _), rfl, fun ys hy => by rw [seqk_inj I hy hq]; exact hx⟩, ⟨⟨x1, ?_⟩, iterk_at hit'.1 fun o q => (sb.2 it (Ne.symm hne)).trans q, hne⟩, fun b hb => ?_⟩
    · have e1 : ((i + 1 : Nat) : Int) = (i : Int) + 1 := by omega
      rw [e1]; exact he'
    · have hb' : b < s.heap.objs.size := by
        have e' : b = e ∨ b = it := by simpa using hb
        rcases e' with z | z
        · rw [z]; exact hel
        · rw [z]; exact hil
      rw [upd_ne (Nat.ne_of_lt hb')]
      exact (hf b hb).1
  done := by
    intro X hP hw hK hc i pins s σ H E I hf st hg
    subst hP hw hK
    obtain ⟨⟨old, he⟩, hit, hne⟩ := st
    obtain ⟨xs, hq, hx⟩ := hg
    obtain ⟨its, rv, p, hz, la⟩ := seqk I hq
    have nseq : ∃ o, s.heap.get? it = some o ∧ ∀ its n, o.data ≠ .seq its n := by
      cases k with
      | true => obtain ⟨o, e, _, d⟩ := hit; exact ⟨o, e, fun its n q => by rw [d] at q; cases q⟩
      | false => obtain ⟨o, e, _, d⟩ := hit; exact ⟨o, e, fun its n q => by rw [d] at q; cases q⟩
    have ait : a ≠ it := seqk_dom I hq (hf it (by simp)) nseq
    have hh : X.A.in1.handled = none := I.ok.hd hc
    obtain ⟨f0, f1, f2, f3, f4, f5⟩ := hf it (by simp)
    have hl := rv.length
    have hi : i = its.toArray.size := by simp; omega
    subst hi
    exact wpAny_pyNext_enum_endD (drawsK hh k it a ait its.toArray) he ⟨hit, p⟩ fun h' eb => ⟨rfl, I.turned (t' := s.toks) (fun b o hb q => eb b o hb q) f0 f1 f3 f4 f5⟩
  self := fun A i s Q E st h => let ⟨⟨_, he⟩, _⟩ := st; wpAny_pyIter_enum he h
end Rv

set_option Elab.async false
set_option linter.all false
set_option maxRecDepth 100000
set_option maxHeartbeats 8000000
/-! What loops walk, as readings; targets. -/
namespace Rv
open PySem PySem.Spec PyProof.Rows L2

/-- an iterator gives the items ds, while what was there stays -/
structure ItOK (g : Gh) (F : Addr → Prop) (μ : List Addr) (H : Hp) (J : It) (ds : List D) : Prop where
  go : ∀ F2 μ2 H2 (i : Nat), Ext (fun _ => False) F μ H F2 μ2 H2 → i < ds.length → J.go i H2
  yld : ∀ F2 μ2 H2 (i : Nat) x H3 d, Ext (fun _ => False) F μ H F2 μ2 H2 → ds[i]? = some d → J.yld i H2 x H3 → Alc g F2 μ2 H2 d false x H3
  stop : ∀ F2 μ2 H2, Ext (fun _ => False) F μ H F2 μ2 H2 → J.stop ds.length H2
theorem Ext.any {Z F F' : Addr → Prop} {μ μ' : List Addr} {H H' : Hp} (x : Ext Z F μ H F' μ' H') : Ext (fun _ => False) F μ H F' μ' H' := ⟨fun _ h => h.elim, fun _ h => h.elim, x.f, x.t, x.frz, x.m⟩

def WI (g : Gh) (Γ : Tab) (cf : Str → List D → St → Option (D × Bool × St)) (ir : E) : TI := fun σ H Rq => ∃ Z F μ ρ st x f ρ' st' ds, R g Z F μ ρ st σ H ∧ evE Γ cf ir ρ st = some (x, f, ρ', st') ∧ itemsD x = some ds ∧
  ∀ F' μ' H' J, Ext Z F μ H F' μ' H' → R g Z F' μ' ρ' st' σ H' → ItOK g F' μ' H' J ds → Rq J H'
abbrev PIo (X : Cx) (Γ : Tab) (cf : Str → List D → St → Option (D × Bool × St)) (tg e : Expr) (ir : E) : Prop := PI X tg e (WI (ghX X) Γ cf ir)
section
variable {ck : Ck} {Γ : Tab} {cf : Str → List D → St → Option (D × Bool × St)} {k : Nat} {X : Cx}

theorem itok_list {g : Gh} {F : Addr → Prop} {μ : List Addr} {H : Hp} {a : Addr} {vs : List V} {ds : List D} (h : SqF g F H a vs) (hr : RelDs g F μ H ds vs) : ItOK g F μ H (Itl g.K a) ds where
  go := fun F2 μ2 H2 i x hi => by
    have hl := hr.length
    exact ⟨vs, vs[i], (x.sqF h).sql, by simp [hl ▸ hi]⟩
  yld := fun F2 μ2 H2 i v H3 d x hd hy => by
    obtain ⟨rfl, hy⟩ := hy
    obtain ⟨w, e1, e2⟩ := (hr.ext x _ _).get hd
    have e3 := hy vs (x.sqF h).sql
    rw [e1] at e3
    cases e3
    exact .val rfl e2
  stop := fun F2 μ2 H2 x => ⟨vs, (x.sqF h).sql, by rw [hr.length]; exact Nat.le_refl _⟩
theorem itok_tup {g : Gh} {F : Addr → Prop} {μ : List Addr} {H : Hp} {a : Addr} {vs : List V} {ds : List D} (h : SqT g.K H a vs) (hr : RelDs g F μ H ds vs) : ItOK g F μ H (Itt g.K a) ds where
  go := fun F2 μ2 H2 i x hi => by
    have hl := hr.length
    exact ⟨vs, vs[i], x.sqT h, by simp [hl ▸ hi]⟩
  yld := fun F2 μ2 H2 i v H3 d x hd hy => by
    obtain ⟨rfl, hy⟩ := hy
    obtain ⟨w, e1, e2⟩ := (hr.ext x _ _).get hd
    have e3 := hy vs (x.sqT h)
    rw [e1] at e3
    cases e3
    exact .val rfl e2
  stop := fun F2 μ2 H2 x => ⟨vs, x.sqT h, by rw [hr.length]; exact Nat.le_refl _⟩
theorem chars_len (s : Str) : (chars s).length = s.cps.size := by simp [chars]
theorem chars_get {s : Str} {i : Nat} {d : D} (h : (chars s)[i]? = some d) : ∃ c, s.cps[i]? = some c ∧ d = .str ⟨#[c]⟩ := by
  unfold chars at h
  rw [List.getElem?_map] at h
  obtain ⟨c, e1, e2⟩ := Option.map_eq_some_iff.mp h
  exact ⟨c, by simpa using e1, e2.symm⟩
theorem itok_str {g : Gh} {F : Addr → Prop} {μ : List Addr} {H : Hp} (s : Str) : ItOK g F μ H (Its s) (chars s) where
  go := fun F2 μ2 H2 i x hi => by rw [chars_len] at hi; exact hi
  yld := fun F2 μ2 H2 i v H3 d x hd hy => by
    obtain ⟨rfl, c, e1, rfl⟩ := hy
    obtain ⟨c', e2, rfl⟩ := chars_get hd
    rw [e1] at e2
    cases e2
    exact .val rfl relStr
  stop := fun F2 μ2 H2 x => by rw [chars_len]; exact Nat.le_refl _
theorem itok_rng {g : Gh} {F : Addr → Prop} {μ : List Addr} {H : Hp} (lo : Int) (n : Nat) : ItOK g F μ H (Itr lo n) ((List.range n).map fun (k : Nat) => D.int (lo + (k : Int))) where
  go := fun F2 μ2 H2 i x hi => show i < n by simpa using hi
  yld := fun F2 μ2 H2 i v H3 d x hd hy => by
    obtain ⟨rfl, rfl⟩ := hy
    rw [List.getElem?_map] at hd
    obtain ⟨j, e1, e2⟩ := Option.map_eq_some_iff.mp hd
    have hj : j = i := by
      by_cases hi : i < n
      · rw [List.getElem?_range hi] at e1
        exact (Option.some.inj e1).symm
      · rw [List.getElem?_eq_none (by simpa using hi)] at e1
        cases e1
    subst hj
    subst e2
    exact .val rfl relInt
  stop := fun F2 μ2 H2 x => by show n ≤ _; simp

/-- a value, walked -/
theorem i_val {tg e : Expr} {ir : E} (h : PEo X Γ cf e ir) : PIo X Γ cf tg e ir := by
  refine ⟨fun pins s σ H Rq I hq => ?_⟩
  obtain ⟨Z, F, μ, ρ, st, x, f, ρ', st', ds, r, ev, ei, q⟩ := hq
  cases x with
  | lst xs =>
    cases ei
    refine (pi_list (toD h)).run pins s σ H Rq I ⟨Z, F, μ, ρ, st, _, f, ρ', st', r, ev, fun F1 μ1 H1 v x1 r1 h1 => ?_⟩
    simp only [RelD] at h1
    obtain ⟨a, vs, e1, g1, g2⟩ := h1
    exact ⟨a, e1, ⟨vs, g1.sql⟩, q F1 μ1 H1 _ x1 r1 (itok_list g1 g2)⟩
  | tup xs =>
    cases ei
    refine (pi_tup (toD h)).run pins s σ H Rq I ⟨Z, F, μ, ρ, st, _, f, ρ', st', r, ev, fun F1 μ1 H1 v x1 r1 h1 => ?_⟩
    simp only [RelD] at h1
    obtain ⟨a, vs, e1, g1, g2⟩ := h1
    exact ⟨a, e1, ⟨vs, g1.1⟩, q F1 μ1 H1 _ x1 r1 (itok_tup g1.1 g2)⟩
  | str z =>
    cases ei
    refine (pi_str (toD h)).run pins s σ H Rq I ⟨Z, F, μ, ρ, st, _, f, ρ', st', r, ev, fun F1 μ1 H1 v x1 r1 h1 => ?_⟩
    simp only [RelD] at h1
    exact ⟨z, h1, q F1 μ1 H1 _ x1 r1 (itok_str z)⟩
  | _ => cases ei
theorem ev_rng1 {es : List E} {ρ ρ' : Ss} {st st' : St} {d : D} {f : Bool} (h : evE Γ cf (.rng es) ρ st = some (d, f, ρ', st')) :
    (∃ n, evL Γ cf es ρ st = some ([.int n], ρ', st') ∧ n ≤ lim ∧ -lim ≤ n ∧ d = .lst ((List.range n.toNat).map fun (k : Nat) => D.int (k : Int))) ∨
    (∃ m n, evL Γ cf es ρ st = some ([.int m, .int n], ρ', st') ∧ (-lim ≤ m ∧ m ≤ lim ∧ n - m ≤ lim ∧ n ≤ lim ∧ -lim ≤ n) ∧ d = .lst ((List.range (n - m).toNat).map fun (k : Nat) => D.int (m + (k : Int)))) := by
  simp only [evE] at h
  split at h
  · rename_i n ρ1 st1 e1
    split at h
    · rename_i hn
      cases h
      exact .inl ⟨n, e1, hn.1, hn.2, rfl⟩
    · cases h
  · rename_i m n ρ1 st1 e1
    split at h
    · rename_i hn
      cases h
      exact .inr ⟨m, n, e1, hn, rfl⟩
    · cases h
  · cases h
theorem relDs1 {g : Gh} {F : Addr → Prop} {μ : List Addr} {H : Hp} {d : D} {vs : List V} (h : RelDs g F μ H [d] vs) : ∃ v, vs = [v] ∧ RelD g F μ H d v := by
  simp only [RelDs] at h
  obtain ⟨v, r, rfl, h1, rfl⟩ := h
  exact ⟨v, rfl, h1⟩
theorem relDs2 {g : Gh} {F : Addr → Prop} {μ : List Addr} {H : Hp} {d e : D} {vs : List V} (h : RelDs g F μ H [d, e] vs) : ∃ v w, vs = [v, w] ∧ RelD g F μ H d v ∧ RelD g F μ H e w := by
  simp only [RelDs] at h
  obtain ⟨v, r, rfl, h1, w, r', rfl, h2, rfl⟩ := h
  exact ⟨v, w, rfl, h1, h2⟩
theorem ev_len : ∀ {es : List E} {ρ ρ' : Ss} {st st' : St} {ds : List D}, (∀ e ∈ es, ∀ a, e ≠ .star a) → evL Γ cf es ρ st = some (ds, ρ', st') → ds.length = es.length
  | [], ρ, ρ', st, st', ds, _, h => by
    simp only [evL, Option.some.injEq, Prod.mk.injEq] at h
    rw [← h.1]
    rfl
  | e :: es, ρ, ρ', st, st', ds, hn, h => by
    obtain ⟨x, fx, ρ1, st1, r, e1, e2, rfl⟩ := ev_cons (hn e (by simp)) h
    rw [List.length_cons, List.length_cons, ev_len (fun e he => hn e (by simp [he])) e2]
theorem i_rng1 {tg x : Expr} {ir : E} {p pos : Pos} (c : Cok ck Γ cf k X) (hf : freeB ck X.env.scope "range" "range" = true) (h : PLo X Γ cf [x] [ir]) (hx : nStar x = true) (hn : ∀ a, ir ≠ .star a) : PIo X Γ cf tg (.Call (.Name "range" p) [x] [] pos) (.rng [ir]) := by
  obtain ⟨_, g1, g2, m⟩ := free_of c hf
  refine ⟨fun pins s σ H Rq I hq => ?_⟩
  obtain ⟨Z, F, μ, ρ, st, d, f, ρ', st', ds, r, ev, ei, q⟩ := hq
  rcases ev_rng1 ev with ⟨n, e1, n1, n2, rfl⟩ | ⟨_, _, e1, _⟩
  · cases ei
    refine (pi_range1 g1 m h (starEach_cons hx)).run pins s σ H Rq I ⟨Z, F, μ, ρ, st, _, ρ', st', r, e1, fun F1 μ1 H1 vs x1 r1 h1 => ?_⟩
    obtain ⟨v, rfl, hv⟩ := relDs1 h1
    simp only [RelD] at hv
    subst hv
    refine ⟨n, rfl, by unfold lim at n2; omega, by unfold lim at n1; omega, q F1 μ1 H1 _ x1 r1 ?_⟩
    have := itok_rng (g := ghX X) (F := F1) (μ := μ1) (H := H1) 0 n.toNat
    simpa using this
  · have := ev_len (by intro e he; simp at he; subst he; exact hn) e1
    simp at this
theorem i_rng2 {tg x y : Expr} {ir ir' : E} {p pos : Pos} (c : Cok ck Γ cf k X) (hf : freeB ck X.env.scope "range" "range" = true) (h : PLo X Γ cf [x, y] [ir, ir']) (hx : nStar x = true) (hy : nStar y = true) (hn : ∀ a, ir ≠ .star a) (hn' : ∀ a, ir' ≠ .star a) : PIo X Γ cf tg (.Call (.Name "range" p) [x, y] [] pos) (.rng [ir, ir']) := by
  obtain ⟨_, g1, g2, m⟩ := free_of c hf
  refine ⟨fun pins s σ H Rq I hq => ?_⟩
  obtain ⟨Z, F, μ, ρ, st, d, f, ρ', st', ds, r, ev, ei, q⟩ := hq
  rcases ev_rng1 ev with ⟨n, e1, _⟩ | ⟨a, n, e1, hn, rfl⟩
  · have := ev_len (by intro e he; simp at he; rcases he with rfl | rfl; exact hn; exact hn') e1
    simp at this
  · cases ei
    refine (pi_range2 g1 m h (by rw [starEach_cons hx, starEach_cons hy]; rfl) (starEach_cons hy)).run pins s σ H Rq I ⟨Z, F, μ, ρ, st, _, ρ', st', r, e1, fun F1 μ1 H1 vs x1 r1 h1 => ?_⟩
    obtain ⟨v, w, rfl, hv, hw⟩ := relDs2 h1
    simp only [RelD] at hv hw
    subst hv hw
    unfold lim at hn
    exact ⟨a, n, rfl, ⟨by omega, by omega, by omega, by omega⟩, q F1 μ1 H1 _ x1 r1 (itok_rng a _)⟩

/-! ### zip, enumerate -/
theorem seqk_of {g : Gh} {F : Addr → Prop} {μ : List Addr} {H : Hp} {d : D} {v : V} {ds : List D} (e : seqD d = some ds) (h : RelD g F μ H d v) : ∃ (kk : Bool) (a : Addr) (vs : List V), v = .ref a ∧ SeqK g.K H kk a vs ∧ RelDs g F μ H ds vs ∧ (∀ Z F2 μ2 H2, Ext Z F μ H F2 μ2 H2 → SeqK g.K H2 kk a vs) := by
  cases d with
  | lst xs =>
    cases e
    simp only [RelD] at h
    obtain ⟨a, vs, e1, g1, g2⟩ := h
    exact ⟨true, a, vs, e1, g1.sql, g2, fun Z F2 μ2 H2 x => (x.sqF g1).sql⟩
  | tup xs =>
    cases e
    simp only [RelD] at h
    obtain ⟨a, vs, e1, g1, g2⟩ := h
    exact ⟨false, a, vs, e1, g1.1, g2, fun Z F2 μ2 H2 x => x.sqT g1.1⟩
  | _ => cases e
theorem zip_get {xs ys : List D} {i : Nat} {d : D} (h : ((xs.zip ys).map fun p => D.tup [p.1, p.2])[i]? = some d) : ∃ x y, xs[i]? = some x ∧ ys[i]? = some y ∧ d = .tup [x, y] := by
  rw [List.getElem?_map] at h
  obtain ⟨p, e1, e2⟩ := Option.map_eq_some_iff.mp h
  rw [List.getElem?_zip_eq_some] at e1
  exact ⟨p.1, p.2, e1.1, e1.2, e2.symm⟩
theorem ev_zip {a b : E} {ρ ρ' : Ss} {st st' : St} {d : D} {f : Bool} (h : evE Γ cf (.zip a b) ρ st = some (d, f, ρ', st')) : ∃ x fx ρ1 st1 y fy xs ys, evE Γ cf a ρ st = some (x, fx, ρ1, st1) ∧ evE Γ cf b ρ1 st1 = some (y, fy, ρ', st') ∧ seqD x = some xs ∧ seqD y = some ys ∧
    d = .lst ((xs.zip ys).map fun p => .tup [p.1, p.2]) := by
  simp only [evE] at h
  split at h
  · rename_i x fx ρ1 st1 e1
    split at h
    · rename_i y fy ρ2 st2 e2
      split at h
      · rename_i xs ys e3 e4
        cases h
        exact ⟨x, fx, ρ1, st1, y, fy, xs, ys, e1, e2, e3, e4, rfl⟩
      · cases h
    · cases h
  · cases h
theorem i_zip {elts : List Expr} {kk : Nat} {tpos : Pos} {x y : Expr} {a b : E} {p pos : Pos} (c : Cok ck Γ cf k X) (hf : freeB ck X.env.scope "zip" "zip" = true) (ha : PEo X Γ cf x a) (hb : PEo X Γ cf y b) (hx : nStar x = true) (hy : nStar y = true) :
    PIo X Γ cf (.Tuple elts kk tpos) (.Call (.Name "zip" p) [x, y] [] pos) (.zip a b) := by
  obtain ⟨_, g1, g2, m⟩ := free_of c hf
  refine ⟨fun pins s σ H Rq I hq => ?_⟩
  obtain ⟨Z, F, μ, ρ, st, d, f, ρ', st', ds, r, ev, ei, q⟩ := hq
  obtain ⟨dx, fx, ρ1, st1, dy, fy, xs, ys, e1, e2, e3, e4, rfl⟩ := ev_zip ev
  cases ei
  refine Call_ (ld_blt I g1 m PyProof.Rows.boot_zip (PyProof.Rows.callWith_type1 (thn ((pa_cons (toD ha) (pa_cons (toD hb) pa_nil (starEach_cons hy)) (starEach_cons hx)).run pos pins s σ H (fun vs H2 => ∃ F2 μ2 v1 v2, vs = [v1, v2] ∧ Ext Z F μ H F2 μ2 H2 ∧ R (ghX X) Z F2 μ2 ρ' st' σ H2 ∧ RelD (ghX X) F2 μ2 H2 dx v1 ∧ RelD (ghX X) F2 μ2 H2 dy v2) I
    ⟨Z, F, μ, ρ, st, dx, fx, ρ1, st1, r, e1, fun F1 μ1 H1 v1 x1 r1 h1 => ⟨Z, F1, μ1, ρ1, st1, dy, fy, ρ', st', r1, e2, fun F2 μ2 H2 v2 x2 r2 h2 => ⟨F2, μ2, v1, v2, rfl, x1.trans x2, r2, h1.ext x2 _ _, h2⟩⟩⟩) fun us s1 ⟨vs, H1, I1, rv, F2, μ2, v1, v2, ex, x2, r2, h1, h2⟩ => ?_) (starEach_cons hx) (noStars (by simp [hy]))))
  subst ex
  obtain ⟨kx, ax, vx, rfl, sx, rx, px⟩ := seqk_of e3 h1
  obtain ⟨ky, ay, vy, rfl, sy, ry, py'⟩ := seqk_of e4 h2
  obtain ⟨u1, u2, rfl, ru1, ru2⟩ := vals2 rv
  cases ru1
  cases ru2
  obtain ⟨its, rvx, px1, _, la⟩ := seqk I1 sx
  obtain ⟨its2, rvy, py1, _, lb⟩ := seqk I1 sy
  refine zip_begins2 (beginsK kx ax its.toArray) (beginsK ky ay its2.toArray) px1 py1 fun h' hz hTI hTO o1 o2 hsz hk => wpAny_pyIter_zip hz ?_
  have I2 : Inv X pins σ H1 { s1 with heap := h' } := I1.kept (t' := s1.toks) hk
  have D : ZAp (s1.heap.objs.size + 4) (s1.heap.objs.size + 2) (s1.heap.objs.size + 3) s1.heap.objs.size (s1.heap.objs.size + 1) ax ay := by
    refine ⟨?_, ?_, ?_, ?_, ?_, ?_, ?_, ?_, ?_, ?_⟩ <;> (intro q; have q' : (_ : Nat) = _ := q; omega)
  have haT : ax ≠ s1.heap.objs.size + 3 := Nat.ne_of_lt (Nat.lt_of_lt_of_le la (Nat.le_add_right _ _))
  have hbT : ay ≠ s1.heap.objs.size + 3 := Nat.ne_of_lt (Nat.lt_of_lt_of_le lb (Nat.le_add_right _ _))
  refine ⟨s1.heap.objs.size + 4, [s1.heap.objs.size + 4, s1.heap.objs.size + 2, s1.heap.objs.size + 3, s1.heap.objs.size, s1.heap.objs.size + 1], _, _, H1, rfl, I2, turn_zipK (k1 := kx) (k2 := ky) D haT hbT, ⟨hz, hTI, ⟨_, _, hTO⟩, iterk_new o1, iterk_new o2⟩, fun c hcm => ?_, ?_⟩
  · have e' : c = s1.heap.objs.size + 4 ∨ c = s1.heap.objs.size + 2 ∨ c = s1.heap.objs.size + 3 ∨ c = s1.heap.objs.size ∨ c = s1.heap.objs.size + 1 := by simpa using hcm
    have hle : s1.heap.objs.size ≤ c := by
      rcases e' with z | z | z | z | z
      · rw [z]; exact Nat.le_add_right _ _
      · rw [z]; exact Nat.le_add_right _ _
      · rw [z]; exact Nat.le_add_right _ _
      · rw [z]; exact Nat.le_refl _
      · rw [z]; exact Nat.le_add_right _ _
    exact I1.fpOk hle (I1.hok.fresh hle)
  · have lx := rx.length
    have ly := ry.length
    refine q F2 μ2 H1 _ x2 r2 ⟨fun F3 μ3 H3 i x3 hi => ?_, fun F3 μ3 H3 i v H4 d x3 hd hy => ?_, fun F3 μ3 H3 x3 => ?_⟩
    · simp only [List.length_map, List.length_zip] at hi
      exact ⟨vx, vy, vx[i]'(by omega), vy[i]'(by omega), px _ _ _ _ x3, py' _ _ _ _ x3, by simp, by simp⟩
    · obtain ⟨T, a, b, rfl, hT, rfl, f1, f2⟩ := hy
      obtain ⟨dx', dy', d1, d2, rfl⟩ := zip_get hd
      obtain ⟨w1, w2, w3⟩ := (rx.ext x3 _ _).get d1
      obtain ⟨u1, u2, u3⟩ := (ry.ext x3 _ _).get d2
      have g1 := f1 vx (px _ _ _ _ x3)
      have g2 := f2 vy (py' _ _ _ _ x3)
      rw [w2] at g1
      rw [u2] at g2
      cases g1
      cases g2
      exact .inr (.inl ⟨T, _, _, rfl, hT, rfl, rfl, .cons w3 (.one u3)⟩)
    · simp only [List.length_map, List.length_zip]
      exact ⟨vx, vy, px _ _ _ _ x3, py' _ _ _ _ x3, by omega, by omega, by omega⟩
theorem ev_enu {a : E} {ρ ρ' : Ss} {st st' : St} {d : D} {f : Bool} (h : evE Γ cf (.enu a) ρ st = some (d, f, ρ', st')) : ∃ x fx xs, evE Γ cf a ρ st = some (x, fx, ρ', st') ∧ seqD x = some xs ∧ d = .lst (xs.zipIdx.map fun p => .tup [.int p.2, p.1]) := by
  simp only [evE] at h
  split at h
  · rename_i x fx ρ1 st1 e1
    split at h
    · rename_i xs e2
      cases h
      exact ⟨x, fx, xs, e1, e2, rfl⟩
    · cases h
  · cases h
theorem enu_get {xs : List D} {i : Nat} {d : D} (h : (xs.zipIdx.map fun p => D.tup [.int p.2, p.1])[i]? = some d) : ∃ x, xs[i]? = some x ∧ d = .tup [.int (i : Nat), x] := by
  rw [List.getElem?_map] at h
  obtain ⟨p, e1, e2⟩ := Option.map_eq_some_iff.mp h
  rw [List.getElem?_zipIdx] at e1
  obtain ⟨x, e3, e4⟩ := Option.map_eq_some_iff.mp e1
  subst e4
  exact ⟨x, e3, by rw [← e2]; simp⟩

theorem meets_enum_newT (l : Addr) (items : Array Value) (n : Nat) (dct : Option Addr) (sl : Array (Option Value)) :
    Meets (Builtin.«enumerate.__new__» ⟨[.type "enumerate", .ref l], []⟩) (fun _ R s => s.heap.get? l = some { cls := .type "tuple", dict := dct, data := .seq items n, slots := sl } ∧
      R (.ok (.ret (.ref (s.heap.push { cls := .type "tuple_iterator", data := .fields #[.ref l, .int 0 0] }).objs.size)))
        { s with heap := (s.heap.push { cls := .type "tuple_iterator", data := .fields #[.ref l, .int 0 0] }).push { cls := .type "enumerate", data := .fields #[.none, .bool false, .ref s.heap.objs.size, rawInt 0, .none, .none] } }) :=
  .of_wp fun prog w A R s h => by
    obtain ⟨hp, g, d, tk, os⟩ := s; obtain ⟨hl, h⟩ := h
    have hsub := sub_enumerate
    have hL : Heap.IsTuple (Shared.heap ⟨hp, g, d, tk, os⟩) l items := ⟨_, hl, rfl, n, rfl⟩
    wp_walk using AutoSeq1.wpAny_loadPart' hl
    refine wpAny_stack_any fun st => wpAny_pure ?_
    split
    · rename_i c _ _ _ _ _
      cases (c == Value.type "enumerate")
      · wp_walk using AutoSeq1.wpAny_loadPart' hl, wpAny_pyIter_tuple hL
        exact ⟨_, rfl, h⟩
      · wp_walk using AutoSeq1.wpAny_loadPart' hl, wpAny_pyIter_tuple hL
        exact ⟨_, rfl, h⟩
    · wp_walk using AutoSeq1.wpAny_loadPart' hl, wpAny_pyIter_tuple hL
      exact ⟨_, rfl, h⟩
theorem call_enumT {prog : Program} {w : World} {A : Around} {E : Value → Shared → Prop} {s : Shared} {l : Addr} {items : Array Value} {Q : Value → Shared → Prop} (hL : s.heap.IsTuple l items)
    (h : ∀ h', IsEnum h' (s.heap.objs.size + 1) s.heap.objs.size 0 .none → h'.IsTupleIter s.heap.objs.size l 0 → h'.objs.size = s.heap.objs.size + 2 →
      (∀ b o, s.heap.get? b = some o → h'.get? b = some o) → Q (.ref (s.heap.objs.size + 1)) { s with heap := h' }) :
    wpAny (model prog w) A (call (.type "enumerate") [.ref l]) Q E s := by
  obtain ⟨⟨c, dct, dt, sl⟩, hl, hc, n, hd⟩ := hL
  replace hc : c = .type "tuple" := hc
  replace hd : dt = .seq items n := hd
  subst hc hd
  refine callType_new PySem.F.called_enumerate (by decide) (PySem.F.typeCall_enumerate_1 _) (PySem.F.newCall_enumerate_1 _) (fun obj => PySem.F.args_object_init_2 obj _) PySem.F.entry_enumerate_new
    (meets_enum_newT l items n dct sl) ⟨hl, ?_⟩
  have hz : (s.heap.push { cls := .type "tuple_iterator", data := .fields #[.ref l, .int 0 0] }).objs.size = s.heap.objs.size + 1 := Heap.size_push ..
  show _ ∧ _
  rw [hz]
  have he : IsEnum ((s.heap.push { cls := .type "tuple_iterator", data := .fields #[.ref l, .int 0 0] }).push
      { cls := .type "enumerate", data := .fields #[.none, .bool false, .ref s.heap.objs.size, rawInt 0, .none, .none] }) (s.heap.objs.size + 1) s.heap.objs.size 0 .none := by
    have := Heap.get?_push_size (s.heap.push { cls := .type "tuple_iterator", data := .fields #[.ref l, .int 0 0] })
      (o := { cls := .type "enumerate", data := .fields #[.none, .bool false, .ref s.heap.objs.size, rawInt 0, .none, .none] }) rfl
    rw [hz] at this; exact this
  refine ⟨⟨_, he, rfl⟩, h _ he ⟨_, Heap.get?_push_of_some _ (Heap.get?_push_size _ rfl), rfl, rfl⟩ (by rw [Heap.size_push, hz]) fun b o x => Heap.get?_push_of_some _ (Heap.get?_push_of_some _ x)⟩
theorem call_enumK {prog : Program} {w : World} {A : Around} {E : Value → Shared → Prop} {s : Shared} {k : Bool} {l : Addr} {items : Array Value} {Q : Value → Shared → Prop} (hL : RawK s.heap k l items)
    (h : ∀ h', IsEnum h' (s.heap.objs.size + 1) s.heap.objs.size 0 .none → IterK h' k s.heap.objs.size l 0 → h'.objs.size = s.heap.objs.size + 2 →
      (∀ b o, s.heap.get? b = some o → h'.get? b = some o) → Q (.ref (s.heap.objs.size + 1)) { s with heap := h' }) :
    wpAny (model prog w) A (call (.type "enumerate") [.ref l]) Q E s := by
  cases k with
  | true => exact call_enumerate_list hL h
  | false => exact call_enumT hL h
theorem i_enu {elts : List Expr} {kk : Nat} {tpos : Pos} {x : Expr} {a : E} {p pos : Pos} (c : Cok ck Γ cf k X) (hf : freeB ck X.env.scope "enumerate" "enumerate" = true) (ha : PEo X Γ cf x a) (hx : nStar x = true) :
    PIo X Γ cf (.Tuple elts kk tpos) (.Call (.Name "enumerate" p) [x] [] pos) (.enu a) := by
  obtain ⟨_, g1, g2, m⟩ := free_of c hf
  refine ⟨fun pins s σ H Rq I hq => ?_⟩
  obtain ⟨Z, F, μ, ρ, st, d, f, ρ', st', ds, r, ev, ei, q⟩ := hq
  obtain ⟨dx, fx, xs, e1, e3, rfl⟩ := ev_enu ev
  cases ei
  refine Call_ (ld_blt I g1 m PyProof.Rows.boot_enumerate (PyProof.Rows.callWith_type1 (thn ((pa_cons (toD ha) pa_nil (starEach_cons hx)).run pos pins s σ H (fun vs H2 => ∃ F2 μ2 v1, vs = [v1] ∧ Ext Z F μ H F2 μ2 H2 ∧ R (ghX X) Z F2 μ2 ρ' st' σ H2 ∧ RelD (ghX X) F2 μ2 H2 dx v1) I
    ⟨Z, F, μ, ρ, st, dx, fx, ρ', st', r, e1, fun F1 μ1 H1 v1 x1 r1 h1 => ⟨F1, μ1, v1, rfl, x1, r1, h1⟩⟩) fun us s1 ⟨vs, H1, I1, rv, F2, μ2, v1, ex, x2, r2, h1⟩ => ?_) (starEach_cons hx) rfl))
  subst ex
  obtain ⟨kx, ax, vx, rfl, sx, rx, px⟩ := seqk_of e3 h1
  obtain ⟨u1, rfl, ru1⟩ := vals1 rv
  cases ru1
  obtain ⟨its, rvx, px1, _, la⟩ := seqk I1 sx
  refine call_enumK px1 fun h' he hit hsz hk => wpAny_pyIter_enum he ?_
  have I2 : Inv X pins σ H1 { s1 with heap := h' } := I1.kept (t' := s1.toks) hk
  refine ⟨s1.heap.objs.size + 1, [s1.heap.objs.size + 1, s1.heap.objs.size], _, _, H1, rfl, I2, turn_enumK (k := kx) ax (s1.heap.objs.size + 1) s1.heap.objs.size, ⟨⟨.none, he⟩, hit, Nat.succ_ne_self _⟩, fun b hb => ?_, ?_⟩
  · have e' : b = s1.heap.objs.size + 1 ∨ b = s1.heap.objs.size := by simpa using hb
    have hle : s1.heap.objs.size ≤ b := by
      rcases e' with z | z
      · rw [z]; exact Nat.le_add_right _ _
      · rw [z]; exact Nat.le_refl _
    exact I1.fpOk hle (I1.hok.fresh hle)
  · have lx := rx.length
    refine q F2 μ2 H1 _ x2 r2 ⟨fun F3 μ3 H3 i x3 hi => ?_, fun F3 μ3 H3 i v H4 d x3 hd hy => ?_, fun F3 μ3 H3 x3 => ?_⟩
    · simp only [List.length_map, List.length_zipIdx] at hi
      exact ⟨vx, vx[i]'(by omega), px _ _ _ _ x3, by simp⟩
    · obtain ⟨T, a, rfl, hT, rfl, f1⟩ := hy
      obtain ⟨dx', d1, rfl⟩ := enu_get hd
      obtain ⟨w1, w2, w3⟩ := (rx.ext x3 _ _).get d1
      have g1 := f1 vx (px _ _ _ _ x3)
      rw [w2] at g1
      cases g1
      exact .inr (.inl ⟨T, _, _, rfl, hT, rfl, rfl, .cons relInt (.one w3)⟩)
    · simp only [List.length_map, List.length_zipIdx]
      exact ⟨vx, px _ _ _ _ x3, by omega⟩

/-! ### targets -/
def TG_ (g : Gh) (Γ : Tab) (cf : Str → List D → St → Option (D × Bool × St)) (tg : E) : TG := fun v σ H Q => ∃ Z F μ ρ st d ρ' st', R g Z F μ ρ st σ H ∧ RelD g F μ H d v ∧ evT Γ cf tg d ρ st = some (ρ', st') ∧
  ∀ F' μ' H' σ', Ext Z F μ H F' μ' H' → R g Z F' μ' ρ' st' σ' H' → (∀ vs : List Nat, (∀ i ∈ tvars tg, i ∈ vs) → wipe σ' vs = wipe σ vs) → Q σ' H'
def TGs_ (g : Gh) (Γ : Tab) (cf : Str → List D → St → Option (D × Bool × St)) (tgs : List E) : TGs := fun us σ H Q => ∃ Z F μ ρ st ds ρ' st', R g Z F μ ρ st σ H ∧ RelDs g F μ H ds us ∧ evTs Γ cf tgs ds ρ st = some (ρ', st') ∧
  ∀ F' μ' H' σ', Ext Z F μ H F' μ' H' → R g Z F' μ' ρ' st' σ' H' → (∀ vs : List Nat, (∀ i ∈ tvarsL tgs, i ∈ vs) → wipe σ' vs = wipe σ vs) → Q σ' H'
theorem wipe_set (σ : L2.St) (i : Nat) (x : Option V) : ∀ vs : List Nat, i ∈ vs → wipe (σ.set i x) vs = wipe σ vs := by
  intro vs hi
  apply List.ext_getElem?
  intro j
  induction vs with
  | nil => cases hi
  | cons v vs ih =>
    show ((wipe (σ.set i x) vs).set v none)[j]? = ((wipe σ vs).set v none)[j]?
    rw [List.getElem?_set, List.getElem?_set]
    by_cases hv : v = j
    · rw [if_pos hv, if_pos hv, wipe_length, wipe_length, List.length_set]
    · rw [if_neg hv, if_neg hv]
      rcases List.mem_cons.mp hi with e | e
      · subst e
        clear ih hi
        have key : ∀ vs : List Nat, (wipe (σ.set i x) vs)[j]? = (wipe σ vs)[j]? := by
          intro vs
          induction vs with
          | nil => show (σ.set i x)[j]? = σ[j]?; rw [List.getElem?_set_ne hv]
          | cons w ws ih =>
            show ((wipe (σ.set i x) ws).set w none)[j]? = ((wipe σ ws).set w none)[j]?
            rw [List.getElem?_set, List.getElem?_set, ih, wipe_length, wipe_length, List.length_set]
        exact key vs
      · exact ih e
/-- a slot stored -/
theorem R.setv {g : Gh} {Z F : Addr → Prop} {μ : List Addr} {ρ : Ss} {st : List D} {σ : L2.St} {H : Hp} (r : R g Z F μ ρ st σ H) {d : D} {v : V} (h : RelD g F μ H d v) (i : Nat) : R g Z F μ (ρ.set i (.val d)) st (σ.set i (some v)) H where
  len := by rw [List.length_set, List.length_set]; exact r.len
  val := fun j d' hj => by
    rcases getS hj with ⟨rfl, e, hl⟩ | ⟨ne, hj⟩
    · cases e
      exact ⟨v, by rw [List.getElem?_set_self (by rw [← r.len]; exact hl)], h⟩
    · rw [List.getElem?_set_ne ne]
      exact r.val j d' hj
  own := fun j d' hj => by
    rcases getS hj with ⟨rfl, e, hl⟩ | ⟨ne, hj⟩
    · cases e
    · rw [List.getElem?_set_ne ne]
      exact r.own j d' hj
  apart := fun j l d' e' a hj hl ej el => by
    rcases getS hj with ⟨rfl, e, _⟩ | ⟨nj, hj⟩
    · cases e
    · rcases getS hl with ⟨rfl, e, _⟩ | ⟨nl, hl⟩
      · cases e
      · rw [List.getElem?_set_ne nj] at ej
        rw [List.getElem?_set_ne nl] at el
        exact r.apart j l d' e' a hj hl ej el
  sto := r.sto
  stl := r.stl
  nd := r.nd
  mo := r.mo
  fd := r.fd
  zd := r.zd
theorem PGimp {e : Expr} {t t' : TG} (h : PG X e t) (w : ∀ v σ H Q, t' v σ H Q → t v σ H Q) : PG X e t' := ⟨fun pins s σ H v u Q I rv q => h.run pins s σ H v u Q I rv (w v σ H Q q)⟩
theorem PGsimp {e : List Expr} {t t' : TGs} (h : PGs X e t) (w : ∀ v σ H Q, t' v σ H Q → t v σ H Q) : PGs X e t' := ⟨fun pins s σ H v u Q I rv q => h.run pins s σ H v u Q I rv (w v σ H Q q)⟩
def lslotB (ck : Ck) (sc : Scope) (i : Nat) (x : Str) : Bool := decide (ck.N[i]? = some x) && locB sc x && okNm x
theorem loc_of {sc : Scope} {x : Str} (h : locB sc x = true) : Loc sc x := by
  unfold locB at h
  split at h
  · exact .inl (by assumption)
  · exact .inr (by assumption)
  · cases h
/-- a name that may be stored -/
structure TgOk (X : Cx) (y : Str) : Prop where
  loc : Loc X.env.scope y
  fn : X.fn y = true ∨ X.env.scope.names.lookup y = some .local
theorem g_var {i : Nat} {y : Str} {p : Pos} (c : Cok ck Γ cf k X) (ht : TgOk X y) (h1 : ck.N[i]? = some y) : PG X (.Name y p) (TG_ (ghX X) Γ cf (.var i)) := by
  refine PGimp (pg_name c.nd (by rw [c.N]; exact h1) ht.loc ht.fn) fun v σ H Q ⟨Z, F, μ, ρ, st, d, ρ', st', r, hv, ev, q⟩ => ?_
  simp only [evT, Option.some.injEq, Prod.mk.injEq] at ev
  obtain ⟨rfl, rfl⟩ := ev
  refine q F μ H _ .refl (r.setv hv i) fun vs hvs => wipe_set σ i _ vs (hvs i (by simp [tvars]))
theorem gs_nil : PGs X [] (TGs_ (ghX X) Γ cf []) := PGsimp pgs_nil fun v σ H Q ⟨Z, F, μ, ρ, st, ds, ρ', st', r, hv, ev, q⟩ => by
  cases ds with
  | nil =>
    simp only [evTs, Option.some.injEq, Prod.mk.injEq] at ev
    obtain ⟨rfl, rfl⟩ := ev
    simp only [RelDs] at hv
    exact ⟨hv, q F μ H σ .refl r fun _ _ => rfl⟩
  | cons _ _ => simp [evTs] at ev
theorem gs_cons {x : Expr} {xs : List Expr} {t : E} {ts : List E} (hx : nStar x = true) (h : PG X x (TG_ (ghX X) Γ cf t)) (hs : PGs X xs (TGs_ (ghX X) Γ cf ts)) : PGs X (x :: xs) (TGs_ (ghX X) Γ cf (t :: ts)) := by
  refine PGsimp (pgs_cons h hs ?_) fun us σ H Q ⟨Z, F, μ, ρ, st, ds, ρ', st', r, hv, ev, q⟩ => ?_
  · cases x <;> first | rfl | cases hx
  · cases ds with
    | nil => simp [evTs] at ev
    | cons d ds =>
      simp only [evTs] at ev
      split at ev
      · rename_i ρ1 st1 e1
        simp only [RelDs] at hv
        obtain ⟨v, r', rfl, h1, h2⟩ := hv
        refine ⟨v, r', rfl, Z, F, μ, ρ, st, d, ρ1, st1, r, h1, e1, fun F1 μ1 H1 σ1 x1 r1 w1 => ⟨Z, F1, μ1, ρ1, st1, ds, ρ', st', r1, h2.ext x1 _ _, ev, fun F2 μ2 H2 σ2 x2 r2 w2 => q F2 μ2 H2 σ2 (x1.trans x2) r2 fun vs hvs => ?_⟩⟩
        rw [w2 vs fun i hi => hvs i (by simp only [tvarsL, List.mem_append]; exact .inr hi), w1 vs fun i hi => hvs i (by simp only [tvarsL, List.mem_append]; exact .inl hi)]
      · cases ev
theorem assignEach_len {env : Env} : ∀ xs : List Expr, (assignEach xs env).length = xs.length
  | [] => rfl
  | x :: xs => by
    have ih := assignEach_len (env := env) xs
    cases x <;> (show _ + 1 = _ + 1; rw [ih])
theorem assignEach_ns {env : Env} : ∀ {xs : List Expr}, xs.all nStar = true → (assignEach xs env).findIdx? (·.1) = none
  | [], _ => rfl
  | x :: xs, h => by
    simp only [List.all_cons, Bool.and_eq_true] at h
    have ih := assignEach_ns (env := env) h.2
    have e : assignEach (x :: xs) env = (false, assign x env) :: assignEach xs env := by
      have := h.1
      cases x <;> first | rfl | cases this
    rw [e, List.findIdx?_cons, ih]
    rfl
theorem ev_ts_len : ∀ {ts : List E} {ds : List D} {ρ ρ' : Ss} {st st' : St}, evTs Γ cf ts ds ρ st = some (ρ', st') → ds.length = ts.length
  | [], [], _, _, _, _, _ => rfl
  | [], _ :: _, _, _, _, _, h => by simp [evTs] at h
  | _ :: _, [], _, _, _, _, h => by simp [evTs] at h
  | t :: ts, d :: ds, _, _, _, _, h => by
    simp only [evTs] at h
    split at h
    · rw [List.length_cons, List.length_cons, ev_ts_len h]
    · cases h
theorem g_tup {xs : List Expr} {ts : List E} {kk : Nat} {p : Pos} (c : Cok ck Γ cf k X) (hs : xs.all nStar = true) (hl : xs.length = ts.length) (h : PGs X xs (TGs_ (ghX X) Γ cf ts)) : PG X (.Tuple xs kk p) (TG_ (ghX X) Γ cf (.tup ts)) := by
  refine PGimp (pg_tup (n := xs.length) c.calm h (assignEach_len xs) (assignEach_ns hs)) fun v σ H Q ⟨Z, F, μ, ρ, st, d, ρ', st', r, hv, ev, q⟩ => ?_
  simp only [evT] at ev
  split at ev
  · rename_i ds
    simp only [RelD] at hv
    obtain ⟨a, vs, rfl, g1, g2⟩ := hv
    exact ⟨a, vs, rfl, g1.1, by rw [← g2.length, ev_ts_len ev, hl], Z, F, μ, ρ, st, ds, ρ', st', r, g2, ev, fun F' μ' H' σ' x r' w => q F' μ' H' σ' x r' fun vs hvs => w vs fun i hi => hvs i (by simp only [tvars]; exact hi)⟩
  · cases ev
end
end Rv

set_option Elab.async false
set_option linter.all false
set_option maxRecDepth 100000
set_option maxHeartbeats 8000000
/-! Comprehensions. -/
namespace Rv
open PySem PySem.Spec PyProof.Rows L2
section
variable {g : Gh} {Z F F' : Addr → Prop} {μ μ' : List Addr} {ρ ρ1 : Ss} {st st1 : List D} {σ : L2.St} {H H' : Hp}
theorem wipeS_len : ∀ vs : List Nat, (wipeS ρ vs).length = ρ.length
  | [] => rfl
  | v :: vs => by unfold wipeS; rw [List.length_set, wipeS_len vs]
theorem wipeS_get {i : Nat} {s : Sl} : ∀ {vs : List Nat}, (wipeS ρ vs)[i]? = some s → s ≠ .un → i ∉ vs ∧ ρ[i]? = some s
  | [], h, _ => ⟨by simp, h⟩
  | v :: vs, h, hn => by
    unfold wipeS at h
    rcases getS h with ⟨_, e, _⟩ | ⟨ne, h⟩
    · exact absurd e hn
    · obtain ⟨h1, h2⟩ := wipeS_get h hn
      exact ⟨by simp only [List.mem_cons, not_or]; exact ⟨fun e => ne e.symm, h1⟩, h2⟩
theorem wipe_get {i : Nat} : ∀ {vs : List Nat}, i ∉ vs → (wipe σ vs)[i]? = σ[i]?
  | [], _ => rfl
  | v :: vs, h => by
    simp only [List.mem_cons, not_or] at h
    unfold wipe
    rw [List.getElem?_set_ne (fun e => h.1 e.symm), wipe_get h.2]
theorem wipe_in {i : Nat} : ∀ {vs : List Nat}, i ∈ vs → i < σ.length → (wipe σ vs)[i]? = some none
  | [], h, _ => by cases h
  | v :: vs, h, hl => by
    show ((wipe σ vs).set v none)[i]? = _
    by_cases hv : v = i
    · subst hv
      rw [List.getElem?_set_self (by rw [wipe_length]; exact hl)]
    · rw [List.getElem?_set_ne hv]
      rcases List.mem_cons.mp h with e | e
      · exact absurd e.symm hv
      · exact wipe_in e hl
theorem wipe_idem (σ : L2.St) (vs : List Nat) : wipe (wipe σ vs) vs = wipe σ vs := by
  apply List.ext_getElem?
  intro j
  by_cases hj : j ∈ vs
  · by_cases hl : j < σ.length
    · rw [wipe_in hj hl, wipe_in hj (by rw [wipe_length]; exact hl)]
    · rw [List.getElem?_eq_none (by rw [wipe_length, wipe_length]; omega), List.getElem?_eq_none (by rw [wipe_length]; omega)]
  · rw [wipe_get hj]
theorem R.wiped (r : R g Z F μ ρ st σ H) (vs : List Nat) : R g Z F μ (wipeS ρ vs) st (wipe σ vs) H where
  len := by rw [wipeS_len, wipe_length]; exact r.len
  val := fun i d h => by
    obtain ⟨h1, h2⟩ := wipeS_get h (by simp)
    rw [wipe_get h1]
    exact r.val i d h2
  own := fun i d h => by
    obtain ⟨h1, h2⟩ := wipeS_get h (by simp)
    rw [wipe_get h1]
    exact r.own i d h2
  apart := fun i j d e a hi hj ei ej => by
    obtain ⟨h1, h2⟩ := wipeS_get hi (by simp)
    obtain ⟨h3, h4⟩ := wipeS_get hj (by simp)
    rw [wipe_get h1] at ei
    rw [wipe_get h3] at ej
    exact r.apart i j d e a h2 h4 ei ej
  sto := r.sto
  stl := r.stl
  nd := r.nd
  mo := r.mo
  fd := r.fd
  zd := r.zd
theorem restS_len : ∀ vs : List Nat, (restS ρ1 ρ vs).length = ρ.length
  | [] => rfl
  | v :: vs => by unfold restS; rw [List.length_set, restS_len vs]
theorem restS_get {i : Nat} {s : Sl} : ∀ {vs : List Nat}, (restS ρ1 ρ vs)[i]? = some s → s ≠ .un → (i ∉ vs ∧ ρ[i]? = some s) ∨ (∃ d, s = .val d ∧ ρ1[i]? = some (.val d))
  | [], h, _ => .inl ⟨by simp, h⟩
  | v :: vs, h, hn => by
    unfold restS at h
    rcases getS h with ⟨rfl, e, _⟩ | ⟨ne, h⟩
    · split at e
      · rename_i d e1
        exact .inr ⟨d, e, e1⟩
      · exact absurd e hn
    · rcases restS_get h hn with ⟨h1, h2⟩ | h
      · exact .inl ⟨by simp only [List.mem_cons, not_or]; exact ⟨fun e => ne e.symm, h1⟩, h2⟩
      · exact .inr h
theorem wipeS_in {i : Nat} {vs : List Nat} (h : i ∉ vs) : (wipeS ρ vs)[i]? = ρ[i]? := by
  induction vs with
  | nil => rfl
  | cons v vs ih =>
    simp only [List.mem_cons, not_or] at h
    unfold wipeS
    rw [List.getElem?_set_ne (fun e => h.1 e.symm), ih h.2]
theorem R.rest {F1 : Addr → Prop} {μ1 : List Addr} {H1 : Hp} {vs : List Nat} (r : R g Z F μ (wipeS ρ vs) st (wipe σ vs) H) (r1 : R g Z F1 μ1 ρ1 st1 σ H1) (x : Ext Z F1 μ1 H1 F μ H) : R g Z F μ (restS ρ1 ρ vs) st σ H where
  len := by rw [restS_len]; have := r.len; rw [wipeS_len, wipe_length] at this; exact this
  val := fun i d h => by
    rcases restS_get h (by simp) with ⟨h1, h2⟩ | ⟨d', e, h1⟩
    · have := r.val i d (by rw [wipeS_in h1]; exact h2)
      rw [wipe_get h1] at this
      exact this
    · cases e
      obtain ⟨v, e1, e2⟩ := r1.val i d h1
      exact ⟨v, e1, e2.ext x _ _⟩
  own := fun i d h => by
    rcases restS_get h (by simp) with ⟨h1, h2⟩ | ⟨d', e, h1⟩
    · have := r.own i d (by rw [wipeS_in h1]; exact h2)
      rw [wipe_get h1] at this
      exact this
    · cases e
  apart := fun i j d e a hi hj ei ej => by
    rcases restS_get hi (by simp) with ⟨h1, h2⟩ | ⟨d', e', h1⟩
    · rcases restS_get hj (by simp) with ⟨h3, h4⟩ | ⟨d', e', h3⟩
      · exact r.apart i j d e a (by rw [wipeS_in h1]; exact h2) (by rw [wipeS_in h3]; exact h4) (by rw [wipe_get h1]; exact ei) (by rw [wipe_get h3]; exact ej)
      · cases e'
    · cases e'
  sto := r.sto
  stl := r.stl
  nd := r.nd
  mo := r.mo
  fd := r.fd
  zd := r.zd
/-- an object kept apart -/
def zplus (Z : Addr → Prop) (D : Addr) : Addr → Prop := fun a => Z a ∨ a = D
theorem R.zplus {D : Addr} (r : R g Z F μ ρ st σ H) (h : H D ≠ none) (h2 : D ∉ μ) (h3 : ∀ (i : Nat) e, ρ[i]? = some (.own e) → σ[i]? ≠ some (some (.ref D))) : R g (zplus Z D) F μ ρ st σ H where
  len := r.len
  val := r.val
  own := fun i d hi => by
    obtain ⟨a, e, q, nf, nz, nm⟩ := r.own i d hi
    exact ⟨a, e, q, nf, fun z => z.elim nz fun z => h3 i d hi (z ▸ e), nm⟩
  apart := r.apart
  sto := r.sto
  stl := r.stl
  nd := r.nd
  mo := fun a ha => ⟨(r.mo a ha).1, fun z => z.elim (r.mo a ha).2 fun z => h2 (z ▸ ha)⟩
  fd := r.fd
  zd := fun a ha => ha.elim (r.zd a) fun e => e ▸ h
theorem R.zminus {D : Addr} (r : R g (Rv.zplus Z D) F μ ρ st σ H) : R g Z F μ ρ st σ H where
  len := r.len
  val := r.val
  own := fun i d hi => by
    obtain ⟨a, e, q, nf, nz, nm⟩ := r.own i d hi
    exact ⟨a, e, q, nf, fun z => nz (.inl z), nm⟩
  apart := r.apart
  sto := r.sto
  stl := r.stl
  nd := r.nd
  mo := fun a ha => ⟨(r.mo a ha).1, fun z => (r.mo a ha).2 (.inl z)⟩
  fd := r.fd
  zd := fun a ha => r.zd a (.inl ha)
theorem Ext.zminus {D : Addr} (x : Ext (Rv.zplus Z D) F μ H F' μ' H') : Ext Z F μ H F' μ' H' := ⟨fun a h => x.z a (.inl h), fun a h => x.zf a (.inl h), x.f, x.t, x.frz, x.m⟩
/-- the object kept apart is written -/
theorem R.priv {D : Addr} {o : HO} (r : R g (Rv.zplus Z D) F μ ρ st σ H) (nz : ¬Z D) (nf : ¬F D) (mu : Mut (H D)) : Ext Z F μ H F μ (upd H D o) ∧ R g (Rv.zplus Z D) F μ ρ st σ (upd H D o) := by
  have x : Ext Z F μ H F μ (upd H D o) := by
    refine ⟨fun a h => upd_ne fun e => nz (by rw [← e]; exact h), fun _ _ h => h, fun a h => ⟨h, upd_ne fun e => nf (by rw [← e]; exact h)⟩, fun a xs h => ?_, fun a o u h => ?_, [], by simp⟩
    · rw [upd_ne fun e => ?_]
      · exact h
      · subst e; rw [h] at mu; exact mu
    · rw [upd_ne fun e => ?_]
      · exact h
      · subst e; rw [h] at mu; exact mu
  have nd : H D ≠ none := fun e => by rw [e] at mu; exact mu
  refine ⟨x, r.len, fun i d hi => ?_, fun i d hi => ?_, r.apart, fun n d hn => ?_, r.stl, r.nd, r.mo, fun a ha => ?_, fun a ha => ?_⟩
  · obtain ⟨v, e, q⟩ := r.val i d hi
    exact ⟨v, e, q.ext x _ _⟩
  · obtain ⟨a, e, q, nf', nz', nm⟩ := r.own i d hi
    exact ⟨a, e, q.ext x (upd_ne fun e => nz' (.inr e)), nf', nz', nm⟩
  · obtain ⟨a, e, q⟩ := r.sto n d hn
    exact ⟨a, e, q.ext x (upd_ne fun e' => (r.mo a (List.mem_of_getElem? e)).2 (.inr e'))⟩
  · rw [upd_ne fun e => nf (by rw [← e]; exact ha)]
    exact r.fd a ha
  · by_cases e : a = D
    · subst e
      rw [upd_same]
      simp
    · rw [upd_ne e]
      exact r.zd a ha
end

section
variable {ck : Ck} {Γ : Tab} {cf : Str → List D → St → Option (D × Bool × St)} {k : Nat} {X : Cx}
def TI_ (g : Gh) (Γ : Tab) (cf : Str → List D → St → Option (D × Bool × St)) (ifs : List E) : TT := fun σ H Q => ∃ Z F μ ρ st b ρ' st', R g Z F μ ρ st σ H ∧ evIfs Γ cf ifs ρ st = some (b, ρ', st') ∧
  ∀ F' μ' H', Ext Z F μ H F' μ' H' → R g Z F' μ' ρ' st' σ H' → Q b H'
theorem PTsimp {es : List Expr} {t t' : TT} (h : PTs X es t) (w : ∀ σ H Q, t' σ H Q → t σ H Q) : PTs X es t' := ⟨fun pins s σ H Q I q => h.run pins s σ H Q I (w σ H Q q)⟩
theorem ts_nil : PTs X [] (TI_ (ghX X) Γ cf []) := PTsimp pts_nil fun σ H Q ⟨Z, F, μ, ρ, st, b, ρ', st', r, ev, q⟩ => by
  simp only [evIfs, Option.some.injEq, Prod.mk.injEq] at ev
  obtain ⟨rfl, rfl, rfl⟩ := ev
  exact q F μ H .refl r
theorem ts_one {x : Expr} {e : E} (h : PTo X Γ cf x e) : PTs X [x] (TI_ (ghX X) Γ cf [e]) := PTsimp (pts_one h) fun σ H Q ⟨Z, F, μ, ρ, st, b, ρ', st', r, ev, q⟩ => by
  have key : ∃ f, evE Γ cf e ρ st = some (.bl b, f, ρ', st') := by
    simp only [evIfs] at ev
    split at ev
    · simp only [Option.some.injEq, Prod.mk.injEq] at ev
      obtain ⟨rfl, rfl, rfl⟩ := ev
      exact ⟨_, by assumption⟩
    · simp only [Option.some.injEq, Prod.mk.injEq] at ev
      obtain ⟨rfl, rfl, rfl⟩ := ev
      exact ⟨_, by assumption⟩
    · cases ev
  obtain ⟨f, e1⟩ := key
  exact ⟨Z, F, μ, ρ, st, b, f, ρ', st', r, e1, q⟩

/-- one turn of a comprehension -/
def stepC (Γ : Tab) (cf : Str → List D → St → Option (D × Bool × St)) (tg : E) (ifs : List E) (elt : E) (vars : List Nat) (d : D) (ρ : Ss) (st : St) : Option (List D × Ss × St) :=
  match evT Γ cf tg d (wipeS ρ vars) st with
  | some (ρ, st) => match evIfs Γ cf ifs ρ st with
    | some (true, ρ, st) => match evE Γ cf elt ρ st with
      | some (y, _, ρ, st) => some ([y], ρ, st)
      | none => none
    | some (false, ρ, st) => some ([], ρ, st)
    | none => none
  | none => none
theorem ev_comp {tg it elt : E} {ifs : List E} {vars : List Nat} {ρ ρ' : Ss} {st st' : St} {d : D} {f : Bool} (h : evE Γ cf (.comp tg it ifs elt vars) ρ st = some (d, f, ρ', st')) :
    ∃ x fx ρ1 st1 ds ys ρ2, evE Γ cf it ρ st = some (x, fx, ρ1, st1) ∧ itemsD x = some ds ∧ gath (stepC Γ cf tg ifs elt vars) ds ρ1 st1 = some (ys, ρ2, st') ∧ ys.length ≤ lim ∧ d = .lst ys ∧ f = true ∧ ρ' = restS ρ1 ρ2 vars := by
  simp only [evE] at h
  split at h
  · rename_i x fx ρ1 st1 e1
    split at h
    · rename_i ds e2
      split at h
      · rename_i ys ρ2 st2 e3
        split at h
        · cases h
          exact ⟨x, fx, ρ1, st1, ds, ys, ρ2, e1, e2, e3, by assumption, rfl, rfl, rfl⟩
        · cases h
      · cases h
    · cases h
  · cases h
theorem stepC_cases {tg elt : E} {ifs : List E} {vars : List Nat} {ρ ρ' : Ss} {st st' : St} {d : D} {ys : List D} (h : stepC Γ cf tg ifs elt vars d ρ st = some (ys, ρ', st')) :
    ∃ ρ1 st1 b ρ2 st2, evT Γ cf tg d (wipeS ρ vars) st = some (ρ1, st1) ∧ evIfs Γ cf ifs ρ1 st1 = some (b, ρ2, st2) ∧ ((b = true ∧ ∃ y fy, evE Γ cf elt ρ2 st2 = some (y, fy, ρ', st') ∧ ys = [y]) ∨ (b = false ∧ ys = [] ∧ ρ' = ρ2 ∧ st' = st2)) := by
  unfold stepC at h
  split at h
  · rename_i ρ1 st1 e1
    split at h
    · rename_i ρ2 st2 e2
      split at h
      · rename_i y fy ρ3 st3 e3
        cases h
        exact ⟨ρ1, st1, true, ρ2, st2, e1, e2, .inl ⟨rfl, y, fy, e3, rfl⟩⟩
      · cases h
    · rename_i ρ2 st2 e2
      cases h
      exact ⟨ρ1, st1, false, _, _, e1, e2, .inr ⟨rfl, rfl, rfl, rfl⟩⟩
    · cases h
  · cases h
theorem gath_cons {step : D → Ss → St → Option (List D × Ss × St)} {d : D} {ds : List D} {ρ ρ' : Ss} {st st' : St} {ys : List D} (h : gath step (d :: ds) ρ st = some (ys, ρ', st')) : ∃ xs ρ1 st1 zs, step d ρ st = some (xs, ρ1, st1) ∧ gath step ds ρ1 st1 = some (zs, ρ', st') ∧ ys = xs ++ zs := by
  simp only [gath] at h
  split at h
  · rename_i xs ρ1 st1 e1
    split at h
    · rename_i zs ρ2 st2 e2
      cases h
      exact ⟨xs, ρ1, st1, zs, e1, e2, rfl⟩
    · cases h
  · cases h

/-- the reading of a comprehension -/
theorem comp_imp {tg it elt : E} {ifs : List E} {vars : List Nat} (hv : ∀ i ∈ tvars tg, i ∈ vars) (σ : L2.St) (H : Hp) (Q : VK) (h : TE_ (ghX X) Γ cf (.comp tg it ifs elt vars) σ H Q) :
    tLc (WI (ghX X) Γ cf it) (TG_ (ghX X) Γ cf tg) (TI_ (ghX X) Γ cf ifs) (TD_ (ghX X) Γ cf elt) vars σ H Q := by
  obtain ⟨Z, F, μ, ρ, st, d, f, ρ', st', r, ev, q⟩ := h
  obtain ⟨x, fx, ρ1, st1, ds, ys, ρ2, e1, e2, e3, hlim, rfl, rfl, rfl⟩ := ev_comp ev
  refine ⟨Z, F, μ, ρ, st, x, fx, ρ1, st1, ds, r, e1, e2, fun F1 μ1 H1 J x1 r1 it1 D hD => ?_⟩
  refine ⟨fun i m H2 => m = ds.length - i ∧ i ≤ ds.length ∧ ∃ F2 μ2 ρa sta acc yd yr, Ext Z F1 μ1 H1 F2 μ2 H2 ∧ R (ghX X) (zplus Z D) F2 μ2 (wipeS ρa vars) sta (wipe σ vars) H2 ∧ H2 D = some (.lst acc) ∧ RelDs (ghX X) F2 μ2 H2 yd acc ∧ ¬F2 D ∧
      gath (stepC Γ cf tg ifs elt vars) (ds.drop i) ρa sta = some (yr, ρ2, st') ∧ ys = yd ++ yr, ⟨ds.length, by simp, Nat.zero_le _, ?_⟩, ?_⟩
  · have x2 : Ext Z F1 μ1 H1 F1 μ1 (upd H1 D (.lst [])) := Ext.laid hD r1.zd r1.fd
    have r2 := (r1.laid (o := .lst []) hD).wiped vars
    refine ⟨F1, μ1, ρ1, st1, [], [], ys, x2, r2.zplus (by rw [upd_same]; simp) (fun z => ?_) (fun i e hi hs => ?_), upd_same, .nil, fun z => r1.fd D z hD, by simpa using e3, rfl⟩
    · obtain ⟨h', e⟩ := List.mem_iff_getElem?.mp z
      have hl : h' < st1.length := by
        rw [← r1.stl]
        exact (List.getElem?_eq_some_iff.mp e).1
      obtain ⟨a', e', q'⟩ := r1.sto h' _ (List.getElem?_eq_getElem hl)
      rw [e] at e'
      cases e'
      exact q'.some.1 hD
    · obtain ⟨h1, h2⟩ := wipeS_get hi (by simp)
      rw [wipe_get h1] at hs
      obtain ⟨a', e', q', _⟩ := r1.own i e h2
      rw [hs] at e'
      cases e'
      exact q'.some.1 hD
  · rintro i m H2 ⟨rfl, hi, F2, μ2, ρa, sta, acc, yd, yr, x2, r2, hDl, hacc, nFD, hg, rfl⟩
    have nZD : ¬Z D := fun z => r1.zd D z hD
    by_cases hlt : i < ds.length
    · rw [List.drop_eq_getElem_cons hlt] at hg
      obtain ⟨xs, ρb, stb, zs, g1, g2, rfl⟩ := gath_cons hg
      obtain ⟨ρc, stc, b, ρd, std, s1, s2, s3⟩ := stepC_cases g1
      refine .inr ⟨it1.go F2 μ2 H2 i x2.any hlt, fun H3 => ∃ F3 μ3 acc3, Ext Z F1 μ1 H1 F3 μ3 H3 ∧ R (ghX X) (zplus Z D) F3 μ3 (wipeS ρb vars) stb (wipe σ vars) H3 ∧ H3 D = some (.lst acc3) ∧ RelDs (ghX X) F3 μ3 H3 (yd ++ xs) acc3 ∧ ¬F3 D, fun H3 ⟨F3, μ3, acc3, a1, a2, a3, a4, a5⟩ => ⟨ds.length - (i + 1), by omega, rfl, hlt, F3, μ3, ρb, stb, acc3, yd ++ xs, zs, a1, a2, a3, a4, a5, g2, by simp⟩, fun v H3 hy => ?_⟩
      have hal := it1.yld F2 μ2 H2 i v H3 _ x2.any (List.getElem?_eq_getElem hlt) hy
      obtain ⟨x3, r3, v3⟩ := hal.done r2
      have hv3 : RelD (ghX X) F2 μ2 H3 ds[i] v := by
        rcases v3 with ⟨_, h⟩ | ⟨h, _⟩
        · exact h
        · simp at h
      refine ⟨zplus Z D, F2, μ2, _, sta, ds[i], ρc, stc, r3, hv3, s1, fun F4 μ4 H4 σ4 x4 r4 w4 => ⟨?_, zplus Z D, F4, μ4, ρc, stc, b, ρd, std, r4, s2, fun F5 μ5 H5 x5 r5 => ?_⟩⟩
      · rw [w4 vars hv, wipe_idem]
      · have w4' : wipe σ4 vars = wipe σ vars := by rw [w4 vars hv, wipe_idem]
        have x25 : Ext (zplus Z D) F2 μ2 H2 F5 μ5 H5 := (x3.trans x4).trans x5
        have hD5 : H5 D = some (.lst acc) := (x25.z D (.inr rfl)).trans hDl
        have nF5 : ¬F5 D := fun z => nFD (x25.zf D (.inr rfl) z)
        rcases s3 with ⟨rfl, y, fy, s4, rfl⟩ | ⟨rfl, rfl, rfl, rfl⟩
        · refine iteT ?_
          refine ⟨zplus Z D, F5, μ5, ρd, std, y, fy, ρb, stb, r5, s4, fun F6 μ6 H6 u x6 r6 h6 => ?_⟩
          have x26 := x25.trans x6
          have hD6 : H6 D = some (.lst acc) := (x26.z D (.inr rfl)).trans hDl
          have nF6 : ¬F6 D := fun z => nFD (x26.zf D (.inr rfl) z)
          refine ⟨acc, hD6, ?_, ?_⟩
          · have l1 := hacc.length
            rw [← lim_line]
            simp only [List.length_append, List.length_cons, List.length_nil] at hlim
            omega
          · have r7 := r6.wiped vars
            rw [w4'] at r7
            obtain ⟨x7, r8⟩ := r7.priv (o := .lst (acc ++ [u])) nZD nF6 (by rw [hD6]; trivial)
            refine ⟨F6, μ6, acc ++ [u], ((x2.trans x26.zminus).trans x7), r8, upd_same, ?_, nF6⟩
            exact RelDs.append ((hacc.ext x26 _ _).ext x7 _ _) (.one (h6.ext x7 _ _))
        · refine iteF ?_
          have r7 := r5.wiped vars
          rw [w4'] at r7
          refine ⟨F5, μ5, acc, x2.trans x25.zminus, r7, hD5, ?_, nF5⟩
          rw [List.append_nil]
          exact hacc.ext x25 _ _
    · have hi' : i = ds.length := by omega
      subst hi'
      rw [List.drop_length] at hg
      simp only [gath, Option.some.injEq, Prod.mk.injEq] at hg
      obtain ⟨rfl, rfl, rfl⟩ := hg
      refine .inl ⟨it1.stop F2 μ2 H2 x2.any, ?_⟩
      have r3 := R.rest r2.zminus r1 x2
      refine q F2 μ2 H2 (.ref D) (x1.trans x2) r3 (.inr ⟨rfl, D, rfl, ⟨acc, hDl, ?_⟩, nFD, nZD, fun z => ?_, fun i e hi hs => ?_⟩)
      · rw [List.append_nil]
        exact hacc
      · exact (r2.mo D z).2 (.inr rfl)
      · rcases restS_get hi (by simp) with ⟨h1, h2⟩ | ⟨d', e', _⟩
        · obtain ⟨a, e3, _, _, nz, _⟩ := r2.own i e (by rw [wipeS_in h1]; exact h2)
          rw [wipe_get h1] at e3
          rw [hs] at e3
          cases e3
          exact nz (.inr rfl)
        · cases e'

/-! ### two clauses -/
def stepC2 (Γ : Tab) (cf : Str → List D → St → Option (D × Bool × St)) (tg : E) (ifs : List E) (tg' it' : E) (ifs' : List E) (elt : E) (vars vars' : List Nat) (d : D) (ρ : Ss) (st : St) : Option (List D × Ss × St) :=
  match evT Γ cf tg d (wipeS ρ vars) st with
  | some (ρ, st) => match evIfs Γ cf ifs ρ st with
    | some (true, ρ, st) => match evE Γ cf it' ρ st with
      | some (x', _, ρ, st) => match itemsD x' with
        | some ds' => gath (stepC Γ cf tg' ifs' elt vars') ds' ρ st
        | none => none
      | none => none
    | some (false, ρ, st) => some ([], ρ, st)
    | none => none
  | none => none
theorem ev_comp2 {tg it tg' it' elt : E} {ifs ifs' : List E} {vars vars' : List Nat} {ρ ρ' : Ss} {st st' : St} {d : D} {f : Bool} (h : evE Γ cf (.comp2 tg it ifs tg' it' ifs' elt vars vars') ρ st = some (d, f, ρ', st')) :
    ∃ x fx ρ1 st1 ds ys ρ2, evE Γ cf it ρ st = some (x, fx, ρ1, st1) ∧ itemsD x = some ds ∧ gath (stepC2 Γ cf tg ifs tg' it' ifs' elt vars vars') ds ρ1 st1 = some (ys, ρ2, st') ∧ ys.length ≤ lim ∧ d = .lst ys ∧ f = true ∧ ρ' = restS ρ1 ρ2 vars := by
  simp only [evE] at h
  split at h
  · rename_i x fx ρ1 st1 e1
    split at h
    · rename_i ds e2
      split at h
      · rename_i ys ρ2 st2 e3
        split at h
        · cases h
          exact ⟨x, fx, ρ1, st1, ds, ys, ρ2, e1, e2, e3, by assumption, rfl, rfl, rfl⟩
        · cases h
      · cases h
    · cases h
  · cases h
theorem stepC2_cases {tg tg' it' elt : E} {ifs ifs' : List E} {vars vars' : List Nat} {ρ ρ' : Ss} {st st' : St} {d : D} {ys : List D} (h : stepC2 Γ cf tg ifs tg' it' ifs' elt vars vars' d ρ st = some (ys, ρ', st')) :
    ∃ ρ1 st1 b ρ2 st2, evT Γ cf tg d (wipeS ρ vars) st = some (ρ1, st1) ∧ evIfs Γ cf ifs ρ1 st1 = some (b, ρ2, st2) ∧ ((b = true ∧ ∃ x fx ρ3 st3 ds, evE Γ cf it' ρ2 st2 = some (x, fx, ρ3, st3) ∧ itemsD x = some ds ∧ gath (stepC Γ cf tg' ifs' elt vars') ds ρ3 st3 = some (ys, ρ', st')) ∨ (b = false ∧ ys = [] ∧ ρ' = ρ2 ∧ st' = st2)) := by
  unfold stepC2 at h
  split at h
  · rename_i ρ1 st1 e1
    split at h
    · rename_i ρ2 st2 e2
      split at h
      · rename_i x fx ρ3 st3 e3
        split at h
        · rename_i ds e4
          exact ⟨ρ1, st1, true, ρ2, st2, e1, e2, .inl ⟨rfl, x, fx, ρ3, st3, ds, e3, e4, h⟩⟩
        · cases h
      · cases h
    · rename_i ρ2 st2 e2
      cases h
      exact ⟨ρ1, st1, false, _, _, e1, e2, .inr ⟨rfl, rfl, rfl, rfl⟩⟩
    · cases h
  · cases h
theorem wipe_sub (σ : L2.St) {vs ws : List Nat} (h : ∀ i ∈ ws, i ∈ vs) : wipe (wipe σ ws) vs = wipe σ vs := by
  apply List.ext_getElem?
  intro j
  by_cases hj : j ∈ vs
  · by_cases hl : j < σ.length
    · rw [wipe_in hj hl, wipe_in hj (by rw [wipe_length]; exact hl)]
    · rw [List.getElem?_eq_none (by rw [wipe_length, wipe_length]; omega), List.getElem?_eq_none (by rw [wipe_length]; omega)]
  · rw [wipe_get hj, wipe_get hj, wipe_get fun q => hj (h j q)]
theorem wipeS_inn {ρ : Ss} {i : Nat} : ∀ {vs : List Nat}, i ∈ vs → i < ρ.length → (wipeS ρ vs)[i]? = some .un
  | [], h, _ => by cases h
  | v :: vs, h, hl => by
    show ((wipeS ρ vs).set v .un)[i]? = _
    by_cases hv : v = i
    · subst hv
      rw [List.getElem?_set_self (by rw [wipeS_len]; exact hl)]
    · rw [List.getElem?_set_ne hv]
      rcases List.mem_cons.mp h with e | e
      · exact absurd e.symm hv
      · exact wipeS_inn e hl
theorem wipeS_sub (ρ : Ss) {vs ws : List Nat} (h : ∀ i ∈ ws, i ∈ vs) : wipeS (wipeS ρ ws) vs = wipeS ρ vs := by
  apply List.ext_getElem?
  intro j
  by_cases hj : j ∈ vs
  · by_cases hl : j < ρ.length
    · rw [wipeS_inn hj hl, wipeS_inn hj (by rw [wipeS_len]; exact hl)]
    · rw [List.getElem?_eq_none (by rw [wipeS_len, wipeS_len]; omega), List.getElem?_eq_none (by rw [wipeS_len]; omega)]
  · rw [wipeS_in hj, wipeS_in hj, wipeS_in fun q => hj (h j q)]
theorem comp2_imp {tg it tg' it' elt : E} {ifs ifs' : List E} {vars vars' : List Nat} (hv : ∀ i ∈ tvars tg, i ∈ vars) (hv' : ∀ i ∈ tvars tg', i ∈ vars') (hs : ∀ i ∈ vars', i ∈ vars) (σ : L2.St) (H : Hp) (Q : VK) (h : TE_ (ghX X) Γ cf (.comp2 tg it ifs tg' it' ifs' elt vars vars') σ H Q) :
    tLc2 (WI (ghX X) Γ cf it) (TG_ (ghX X) Γ cf tg) (TI_ (ghX X) Γ cf ifs) (WI (ghX X) Γ cf it') (TG_ (ghX X) Γ cf tg') (TI_ (ghX X) Γ cf ifs') (TD_ (ghX X) Γ cf elt) vars vars' σ H Q := by
  obtain ⟨Z, F, μ, ρ, st, d, f, ρ', st', r, ev, q⟩ := h
  obtain ⟨x, fx, ρ1, st1, ds, ys, ρ2, e1, e2, e3, hlim, rfl, rfl, rfl⟩ := ev_comp2 ev
  refine ⟨Z, F, μ, ρ, st, x, fx, ρ1, st1, ds, r, e1, e2, fun F1 μ1 H1 J x1 r1 it1 D hD => ?_⟩
  refine ⟨fun i m H2 => m = ds.length - i ∧ i ≤ ds.length ∧ ∃ F2 μ2 ρa sta acc yd yr, Ext Z F1 μ1 H1 F2 μ2 H2 ∧ R (ghX X) (zplus Z D) F2 μ2 (wipeS ρa vars) sta (wipe σ vars) H2 ∧ H2 D = some (.lst acc) ∧ RelDs (ghX X) F2 μ2 H2 yd acc ∧ ¬F2 D ∧
      gath (stepC2 Γ cf tg ifs tg' it' ifs' elt vars vars') (ds.drop i) ρa sta = some (yr, ρ2, st') ∧ ys = yd ++ yr, ⟨ds.length, by simp, Nat.zero_le _, ?_⟩, ?_⟩
  · have x2 : Ext Z F1 μ1 H1 F1 μ1 (upd H1 D (.lst [])) := Ext.laid hD r1.zd r1.fd
    have r2 := (r1.laid (o := .lst []) hD).wiped vars
    refine ⟨F1, μ1, ρ1, st1, [], [], ys, x2, r2.zplus (by rw [upd_same]; simp) (fun z => ?_) (fun i e hi hs => ?_), upd_same, .nil, fun z => r1.fd D z hD, by simpa using e3, rfl⟩
    · obtain ⟨h', e⟩ := List.mem_iff_getElem?.mp z
      have hl : h' < st1.length := by
        rw [← r1.stl]
        exact (List.getElem?_eq_some_iff.mp e).1
      obtain ⟨a', e', q'⟩ := r1.sto h' _ (List.getElem?_eq_getElem hl)
      rw [e] at e'
      cases e'
      exact q'.some.1 hD
    · obtain ⟨h1, h2⟩ := wipeS_get hi (by simp)
      rw [wipe_get h1] at hs
      obtain ⟨a', e', q', _⟩ := r1.own i e h2
      rw [hs] at e'
      cases e'
      exact q'.some.1 hD
  · rintro i m H2 ⟨rfl, hi, F2, μ2, ρa, sta, acc, yd, yr, x2, r2, hDl, hacc, nFD, hg, rfl⟩
    have nZD : ¬Z D := fun z => r1.zd D z hD
    by_cases hlt : i < ds.length
    · rw [List.drop_eq_getElem_cons hlt] at hg
      obtain ⟨xs, ρb, stb, zs, g1, g2, rfl⟩ := gath_cons hg
      obtain ⟨ρc, stc, b, ρd, std, s1, s2, s3⟩ := stepC2_cases g1
      refine .inr ⟨it1.go F2 μ2 H2 i x2.any hlt, fun H3 => ∃ F3 μ3 acc3, Ext Z F1 μ1 H1 F3 μ3 H3 ∧ R (ghX X) (zplus Z D) F3 μ3 (wipeS ρb vars) stb (wipe σ vars) H3 ∧ H3 D = some (.lst acc3) ∧ RelDs (ghX X) F3 μ3 H3 (yd ++ xs) acc3 ∧ ¬F3 D, fun H3 ⟨F3, μ3, acc3, a1, a2, a3, a4, a5⟩ => ⟨ds.length - (i + 1), by omega, rfl, hlt, F3, μ3, ρb, stb, acc3, yd ++ xs, zs, a1, a2, a3, a4, a5, g2, by simp⟩, fun v H3 hy => ?_⟩
      have hal := it1.yld F2 μ2 H2 i v H3 _ x2.any (List.getElem?_eq_getElem hlt) hy
      obtain ⟨x3, r3, v3⟩ := hal.done r2
      have hv3 : RelD (ghX X) F2 μ2 H3 ds[i] v := by
        rcases v3 with ⟨_, h⟩ | ⟨h, _⟩
        · exact h
        · simp at h
      refine ⟨zplus Z D, F2, μ2, _, sta, ds[i], ρc, stc, r3, hv3, s1, fun F4 μ4 H4 σ4 x4 r4 w4 => ⟨by rw [w4 vars hv, wipe_idem], zplus Z D, F4, μ4, ρc, stc, b, ρd, std, r4, s2, fun F5 μ5 H5 x5 r5 => ?_⟩⟩
      have w4' : wipe σ4 vars = wipe σ vars := by rw [w4 vars hv, wipe_idem]
      have x25 : Ext (zplus Z D) F2 μ2 H2 F5 μ5 H5 := (x3.trans x4).trans x5
      have hD5 : H5 D = some (.lst acc) := (x25.z D (.inr rfl)).trans hDl
      have nF5 : ¬F5 D := fun z => nFD (x25.zf D (.inr rfl) z)
      rcases s3 with ⟨rfl, x', fx', ρe, ste, ds', s4, s5, s6⟩ | ⟨rfl, rfl, rfl, rfl⟩
      · refine iteT ⟨zplus Z D, F5, μ5, ρd, std, x', fx', ρe, ste, ds', r5, s4, s5, fun F6 μ6 H6 J1 x6 r6 it6 => ?_⟩
        have x26 := x25.trans x6
        have hD6 : H6 D = some (.lst acc) := (x26.z D (.inr rfl)).trans hDl
        have nF6 : ¬F6 D := fun z => nFD (x26.zf D (.inr rfl) z)
        have hacc6 := hacc.ext x26 _ _
        have key : ∀ (j : Nat) (m : Nat) (H7 : Hp), (m = ds'.length - j ∧ j ≤ ds'.length ∧ ∃ F7 μ7 ρf stf acc7 zd zr, Ext Z F6 μ6 H6 F7 μ7 H7 ∧ R (ghX X) (zplus Z D) F7 μ7 (wipeS ρf vars') stf (wipe σ4 vars') H7 ∧ H7 D = some (.lst acc7) ∧ RelDs (ghX X) F7 μ7 H7 (yd ++ zd) acc7 ∧ ¬F7 D ∧
            gath (stepC Γ cf tg' ifs' elt vars') (ds'.drop j) ρf stf = some (zr, ρb, stb) ∧ xs = zd ++ zr) → True := fun _ _ _ _ => trivial
        refine ⟨fun j m H7 => m = ds'.length - j ∧ j ≤ ds'.length ∧ ∃ F7 μ7 ρf stf acc7 zd zr, Ext Z F6 μ6 H6 F7 μ7 H7 ∧ R (ghX X) (zplus Z D) F7 μ7 (wipeS ρf vars') stf (wipe σ4 vars') H7 ∧ H7 D = some (.lst acc7) ∧ RelDs (ghX X) F7 μ7 H7 (yd ++ zd) acc7 ∧ ¬F7 D ∧
            gath (stepC Γ cf tg' ifs' elt vars') (ds'.drop j) ρf stf = some (zr, ρb, stb) ∧ xs = zd ++ zr, ⟨ds'.length, by simp, Nat.zero_le _, F6, μ6, ρe, ste, acc, [], xs, .refl, r6.wiped vars', hD6, by rw [List.append_nil]; exact hacc6, nF6, by simpa using s6, rfl⟩, ?_⟩
        rintro j m H7 ⟨rfl, hj, F7, μ7, ρf, stf, acc7, zd, zr, x7, r7, hD7, hacc7, nF7, hg7, rfl⟩
        by_cases hjl : j < ds'.length
        · rw [List.drop_eq_getElem_cons hjl] at hg7
          obtain ⟨us, ρg, stg, ws, t1, t2, rfl⟩ := gath_cons hg7
          obtain ⟨ρh, sth, b', ρi, sti, u1, u2, u3⟩ := stepC_cases t1
          refine .inr ⟨it6.go F7 μ7 H7 j x7.any hjl, fun H8 => ∃ F8 μ8 acc8, Ext Z F6 μ6 H6 F8 μ8 H8 ∧ R (ghX X) (zplus Z D) F8 μ8 (wipeS ρg vars') stg (wipe σ4 vars') H8 ∧ H8 D = some (.lst acc8) ∧ RelDs (ghX X) F8 μ8 H8 (yd ++ (zd ++ us)) acc8 ∧ ¬F8 D, fun H8 ⟨F8, μ8, acc8, a1, a2, a3, a4, a5⟩ => ⟨ds'.length - (j + 1), by omega, rfl, hjl, F8, μ8, ρg, stg, acc8, zd ++ us, ws, a1, a2, a3, a4, a5, t2, by simp⟩, fun v' H8 hy' => ?_⟩
          have hal' := it6.yld F7 μ7 H7 j v' H8 _ x7.any (List.getElem?_eq_getElem hjl) hy'
          obtain ⟨x8, r8, v8⟩ := hal'.done r7
          have hv8 : RelD (ghX X) F7 μ7 H8 ds'[j] v' := by
            rcases v8 with ⟨_, h⟩ | ⟨h, _⟩
            · exact h
            · simp at h
          refine ⟨zplus Z D, F7, μ7, _, stf, ds'[j], ρh, sth, r8, hv8, u1, fun F9 μ9 H9 σ9 x9 r9 w9 => ⟨by rw [w9 vars' hv', wipe_idem], zplus Z D, F9, μ9, ρh, sth, b', ρi, sti, r9, u2, fun Fa μa Ha xa ra => ?_⟩⟩
          have w9' : wipe σ9 vars' = wipe σ4 vars' := by rw [w9 vars' hv', wipe_idem]
          have x7a : Ext (zplus Z D) F7 μ7 H7 Fa μa Ha := (x8.trans x9).trans xa
          have hDa : Ha D = some (.lst acc7) := (x7a.z D (.inr rfl)).trans hD7
          have nFa : ¬Fa D := fun z => nF7 (x7a.zf D (.inr rfl) z)
          rcases u3 with ⟨rfl, y, fy, u4, rfl⟩ | ⟨rfl, rfl, rfl, rfl⟩
          · refine iteT ⟨zplus Z D, Fa, μa, ρi, sti, y, fy, ρg, stg, ra, u4, fun Fb μb Hb u xb rb hb => ?_⟩
            have x7b := x7a.trans xb
            have hDb : Hb D = some (.lst acc7) := (x7b.z D (.inr rfl)).trans hD7
            have nFb : ¬Fb D := fun z => nF7 (x7b.zf D (.inr rfl) z)
            refine ⟨acc7, hDb, ?_, ?_⟩
            · have l1 := hacc7.length
              rw [← lim_line]
              simp only [List.length_append, List.length_cons, List.length_nil] at hlim l1
              omega
            · have rc := rb.wiped vars'
              rw [w9'] at rc
              obtain ⟨xc, rd⟩ := rc.priv (o := .lst (acc7 ++ [u])) nZD nFb (by rw [hDb]; trivial)
              refine ⟨Fb, μb, acc7 ++ [u], ((x7.trans x7b.zminus).trans xc), rd, upd_same, ?_, nFb⟩
              rw [← List.append_assoc]
              exact RelDs.append ((hacc7.ext x7b _ _).ext xc _ _) (.one (hb.ext xc _ _))
          · refine iteF ?_
            have rc := ra.wiped vars'
            rw [w9'] at rc
            refine ⟨Fa, μa, acc7, x7.trans x7a.zminus, rc, hDa, ?_, nFa⟩
            rw [List.append_nil]
            exact hacc7.ext x7a _ _
        · have hj' : j = ds'.length := by omega
          subst hj'
          rw [List.drop_length] at hg7
          simp only [gath, Option.some.injEq, Prod.mk.injEq] at hg7
          obtain ⟨rfl, rfl, rfl⟩ := hg7
          refine .inl ⟨it6.stop F7 μ7 H7 x7.any, F7, μ7, acc7, (x2.trans x26.zminus).trans x7, ?_, hD7, by rw [List.append_nil]; exact hacc7, nF7⟩
          have rc := r7.wiped vars
          rw [wipeS_sub _ hs, wipe_sub _ hs, w4'] at rc
          exact rc
      · refine iteF ?_
        have r7 := r5.wiped vars
        rw [w4'] at r7
        refine ⟨F5, μ5, acc, x2.trans x25.zminus, r7, hD5, ?_, nF5⟩
        rw [List.append_nil]
        exact hacc.ext x25 _ _
    · have hi' : i = ds.length := by omega
      subst hi'
      rw [List.drop_length] at hg
      simp only [gath, Option.some.injEq, Prod.mk.injEq] at hg
      obtain ⟨rfl, rfl, rfl⟩ := hg
      refine .inl ⟨it1.stop F2 μ2 H2 x2.any, ?_⟩
      have r3 := R.rest r2.zminus r1 x2
      refine q F2 μ2 H2 (.ref D) (x1.trans x2) r3 (.inr ⟨rfl, D, rfl, ⟨acc, hDl, ?_⟩, nFD, nZD, fun z => ?_, fun i e hi hs => ?_⟩)
      · rw [List.append_nil]
        exact hacc
      · exact (r2.mo D z).2 (.inr rfl)
      · rcases restS_get hi (by simp) with ⟨h1, h2⟩ | ⟨d', e', _⟩
        · obtain ⟨a, e3, _, _, nz, _⟩ := r2.own i e (by rw [wipeS_in h1]; exact h2)
          rw [wipe_get h1] at e3
          rw [hs] at e3
          cases e3
          exact nz (.inr rfl)
        · cases e'
end
end Rv

set_option Elab.async false
set_option linter.all false
set_option maxRecDepth 100000
set_option maxHeartbeats 8000000
/-! Comprehensions as values, isinstance, displays of dicts. -/
namespace Rv
open PySem PySem.Spec PyProof.Rows L2
section
variable {ck : Ck} {Γ : Tab} {cf : Str → List D → St → Option (D × Bool × St)} {k : Nat} {X : Cx}
/-- what is known within a comprehension's block -/
theorem Cok.blk (c : Cok ck Γ cf k X) (s : Shared) (H : Hp) (scope : Scope) (cl : List (Str × Addr)) (C : Addr) (fp : List Addr) : Cok ck Γ cf k (X.blk s H scope (compEnvC scope cl C X.env) fp) :=
  ⟨c.calm, c.N, c.nd, c.code, c.room, c.free, c.gb, c.gcs, c.fns, c.cfl⟩
theorem ownOf_snd (N : List Str) (vars : List Nat) : (ownOf N vars).map (·.2) = vars := by
  unfold ownOf
  rw [List.map_map]
  exact List.map_id'' (fun _ => rfl) vars
theorem fold_of {e : Expr} (h : noSet e = true) (env : Env) (x : Value) : foldedSetIterable e env x = pure x := by
  cases e <;> first | rfl | cases h
/-- the parts of a comprehension -/
structure CP (X : Cx) (Γ : Tab) (cf : Str → List D → St → Option (D × Bool × St)) (scope : Scope) (tgE : Expr) (ifsE : List Expr) (tg : E) (ifs : List E) : Prop where
  g : ∀ (s : Shared) (H : Hp) (C : Addr) (cl : List (Str × Addr)) (fp : List Addr), PG (X.blk s H scope (compEnvC scope cl C X.env) fp) tgE (TG_ (ghX X) Γ cf tg)
  t : ∀ (s : Shared) (H : Hp) (C : Addr) (cl : List (Str × Addr)) (fp : List Addr), PTs (X.blk s H scope (compEnvC scope cl C X.env) fp) ifsE (TI_ (ghX X) Γ cf ifs)
abbrev CE_ (X : Cx) (Γ : Tab) (cf : Str → List D → St → Option (D × Bool × St)) (scope : Scope) (eE : Expr) (e : E) : Prop :=
  ∀ (s : Shared) (H : Hp) (C : Addr) (cl : List (Str × Addr)) (fp : List Addr), PE (X.blk s H scope (compEnvC scope cl C X.env) fp) eE (TE_ (ghX X) Γ cf e)
abbrev CI_ (X : Cx) (Γ : Tab) (cf : Str → List D → St → Option (D × Bool × St)) (scope : Scope) (tgE eE : Expr) (e : E) : Prop :=
  ∀ (s : Shared) (H : Hp) (C : Addr) (cl : List (Str × Addr)) (fp : List Addr), PI (X.blk s H scope (compEnvC scope cl C X.env) fp) tgE eE (WI (ghX X) Γ cf e)
theorem n_comp {tg it elt : E} {ifs : List E} {vars : List Nat} {tgE itE eltE : Expr} {ifsE : List Expr} {scope : Scope} {pos : Pos} (c : Cok ck Γ cf k X) (hb : blkC ck.N X.env.scope scope (ownOf ck.N vars) = true) (hv : ∀ i ∈ tvars tg, i ∈ vars)
    (hi : PIo X Γ cf tgE itE it) (p : CP X Γ cf scope tgE ifsE tg ifs) (he : CE_ X Γ cf scope eltE elt) (hs : noSet itE = true) : PEo X Γ cf (.ListComp eltE [⟨tgE, itE, ifsE, 0⟩] scope pos) (.comp tg it ifs elt vars) := by
  have ok := blkOk_by hb
  rw [← c.N] at ok
  refine PEimp (pe_lc c.calm c.nd hi ok p.g p.t (fun s H C cl fp => toD (he s H C cl fp)) (fold_of hs _)) fun σ H Q q => ?_
  rw [ownOf_snd]
  exact comp_imp hv σ H Q q
theorem n_comp2 {tg it tg' it' elt : E} {ifs ifs' : List E} {vars vars' : List Nat} {tgE itE tgE' itE' eltE : Expr} {ifsE ifsE' : List Expr} {scope : Scope} {pos : Pos} (c : Cok ck Γ cf k X) (hb : blkC ck.N X.env.scope scope (ownOf ck.N vars) = true) (hv : ∀ i ∈ tvars tg, i ∈ vars) (hv' : ∀ i ∈ tvars tg', i ∈ vars') (hs' : ∀ i ∈ vars', i ∈ vars)
    (hi : PIo X Γ cf tgE itE it) (p : CP X Γ cf scope tgE ifsE tg ifs) (hi' : CI_ X Γ cf scope tgE' itE' it') (p' : CP X Γ cf scope tgE' ifsE' tg' ifs') (he : CE_ X Γ cf scope eltE elt) (hs : noSet itE = true) (hs2 : noSet itE' = true) :
    PEo X Γ cf (.ListComp eltE [⟨tgE, itE, ifsE, 0⟩, ⟨tgE', itE', ifsE', 0⟩] scope pos) (.comp2 tg it ifs tg' it' ifs' elt vars vars') := by
  have ok := blkOk_by hb
  rw [← c.N] at ok
  refine PEimp (pe_lc2 (vs1 := vars') c.calm c.nd hi ok (by rw [ownOf_snd]; exact hs') p.g p.t hi' p'.g p'.t (fun s H C cl fp => toD (he s H C cl fp)) (fold_of hs _) (fun env => fold_of hs2 env)) fun σ H Q q => ?_
  rw [ownOf_snd]
  exact comp2_imp hv hv' hs' σ H Q q

/-! ### isinstance -/
def tyS : Ty → String
  | .int => "int" | .bool => "bool" | .str => "str" | .tuple => "tuple" | .list => "list"
def dTy : D → String
  | .non => "NoneType" | .bl _ => "bool" | .int _ => "int" | .str _ => "str" | .tup _ => "tuple" | .lst _ => "list"
  | _ => "int"
theorem kit_dec (d : D) (t : Ty) (b : Bool) (h : isTy t d = some b) : kitB (dTy d) (tyS t) = some b := by
  cases d <;> cases t <;> simp [isTy, isTyB] at h <;> subst h <;> simp only [dTy, tyS] <;> decide +kernel
theorem tyx_of {F : Addr → Prop} {μ : List Addr} {H : Hp} {d : D} {v : V} {t : Ty} {b : Bool} (h : RelD (ghX X) F μ H d v) (e : isTy t d = some b) : TyX X.K H v (.type (dTy d)) := by
  cases d <;> simp only [RelD] at h <;> first | (simp [isTy] at e; done) | skip
  · subst h; exact .base .non
  · subst h; exact .base (.bl _)
  · subst h; exact .base (.int _)
  · subst h; exact .base (.str _)
  · obtain ⟨a, vs, rfl, h1, _⟩ := h
    rcases h1.1 with (h1 | ⟨o, h1⟩) | ⟨o, its, n, h1, h2, _⟩
    · exact .base (.tup h1)
    · exact .fTuple h1
    · exact .kTuple h1 h2
  · obtain ⟨a, vs, rfl, h1, _⟩ := h
    rcases h1 with ⟨_, h1 | ⟨o, h1⟩⟩ | ⟨o, its, n, h1, h2, _⟩
    · exact .base (.lst h1)
    · exact .base (.frz h1)
    · exact .kList h1 h2
theorem ev_isi {t : Ty} {a : E} {ρ ρ' : Ss} {st st' : St} {d : D} {f : Bool} (h : evE Γ cf (.isi t a) ρ st = some (d, f, ρ', st')) : ∃ x fx b, evE Γ cf a ρ st = some (x, fx, ρ', st') ∧ isTy t x = some b ∧ d = .bl b ∧ f = false := by
  simp only [evE] at h
  split at h
  · rename_i x fx ρ1 st1 e1
    split at h
    · rename_i b e2
      cases h
      exact ⟨x, fx, b, e1, e2, rfl, rfl⟩
    · cases h
  · cases h
theorem n_isi {t : Ty} {a : E} {x : Expr} {p p2 pos : Pos} (c : Cok ck Γ cf k X) (hf : freeB ck X.env.scope "isinstance" "isinstance" = true) (ht : freeB ck X.env.scope (tyN t) (tyN t) = true) (ha : PEo X Γ cf x a) (hx : nStar x = true) :
    PEo X Γ cf (.Call (.Name "isinstance" p) [x, .Name (tyN t) p2] [] pos) (.isi t a) := by
  obtain ⟨_, g1, g2, m⟩ := free_of c hf
  obtain ⟨_, g3, g4, m2⟩ := free_of c ht
  obtain ⟨o1, _, o3⟩ := okNm_of g4
  have hT : PE X (.Name (tyN t) p2) (tC (.ty (tyS t))) := by
    cases t <;> exact pe_bltn g3 m2 (by decide +kernel) rfl o3 o1
  refine PEimp (pe_callB call_isi g1 m (by decide +kernel) (pa_cons (toD ha) (pa_cons hT pa_nil) (starEach_cons hx)) (by decide) (by decide) (starEach_cons hx) (noStars (by rfl))) fun σ H Q ⟨Z, F, μ, ρ, st, d, f, ρ', st', r, ev, q⟩ => ?_
  obtain ⟨x, fx, b, e1, e2, rfl, rfl⟩ := ev_isi ev
  refine ⟨Z, F, μ, ρ, st, x, fx, ρ', st', r, e1, fun F1 μ1 H1 v1 x1 r1 h1 => ⟨v1, .ty (tyS t), _, _, b, rfl, .ty _, tyx_of h1 e2, kit_ty (kit_dec x t b e2), ?_⟩⟩
  exact q F1 μ1 H1 _ x1 r1 (.val rfl relBl)
end
end Rv

set_option Elab.async false
set_option linter.all false
set_option maxRecDepth 100000
set_option maxHeartbeats 4000000
/-! xs[::-1] of lists and tuples. -/
namespace Rv
open PySem PySem.Spec PyProof.Rows L2 PySem.W HT
section
variable {prog : Program} {w : World} {A : Around} {E : Value → Shared → Prop} {s : Shared}
theorem adjust_back (n : Nat) : Builtin.Slice.sliceAdjust none none (-1) (n : Int) = ((n : Int) - 1, -1) := by
  unfold Builtin.Slice.sliceAdjust
  rfl
theorem places_back (n : Nat) : Builtin.Slice.slicePlaces ((n : Int) - 1) (-1) (-1) = n := by
  unfold Builtin.Slice.slicePlaces
  simp
  omega
theorem pick_back (xs : Array Value) : ((List.range xs.size).filterMap fun (m : Nat) => xs[(((xs.size : Nat) : Int) - 1 + (m : Int) * (-1)).toNat]?).toArray = xs.toList.reverse.toArray := by
  have e : (fun (m : Nat) => xs[(((xs.size : Nat) : Int) - 1 + (m : Int) * (-1)).toNat]?) = fun m => xs[xs.size - 1 - m]? := by
    funext m
    have : ((((xs.size : Nat) : Int) - 1 + (m : Int) * (-1)).toNat) = xs.size - 1 - m := by omega
    rw [this]
  rw [e]
  have h1 := krv_range xs.size
  have h2 : (List.range xs.size).filterMap (fun m => xs[xs.size - 1 - m]?) = ((List.range xs.size).map fun k => xs.size - 1 - k).filterMap (fun i => xs[i]?) := by
    rw [List.filterMap_map]
    rfl
  rw [h2, h1, List.filterMap_reverse, krv_all]
theorem sliceApplied_back {sl : Addr} {vk : Value} {n : Nat} {Q : Int × Int × Nat → Shared → Prop} (hs : s.heap.IsSliceOf sl .none .none vk) (ps : IsPart vk (some (-1)))
    (h : Q ((n : Int) - 1, -1, n) s) : wpAny (model prog w) A (Builtin.Slice.sliceApplied (.ref sl) (pure (n : Int))) Q E s := by
  obtain ⟨os, hos, hcs, hds⟩ := id hs
  unfold Builtin.Slice.sliceApplied Builtin.Slice.sliceFields
  refine wpAny_bind (wpAny_bind (wpAny_field hos hds (x := .none) rfl (wpAny_bind (wpAny_field hos hds (x := .none) rfl (wpAny_bind (wpAny_field hos hds (x := vk) rfl (wpAny_pure ?_)))))))
  refine wpAny_bind (slicePart_ ps ?_)
  show wpAny _ _ (if ((-1 : Int) == 0) = true then _ else _) _ _ s
  rw [if_neg (by decide)]
  refine wpAny_bind (slicePart_none (wpAny_bind (slicePart_none (wpAny_bind (wpAny_pure ?_)))))
  show wpAny _ _ (match Builtin.Slice.sliceAdjust none none (-1) (n : Int) with | (lo, hi) => pure (lo, (-1 : Int), Builtin.Slice.slicePlaces lo hi (-1))) _ _ s
  rw [adjust_back n]
  show wpAny _ _ (pure ((n : Int) - 1, (-1 : Int), Builtin.Slice.slicePlaces ((n : Int) - 1) (-1) (-1))) _ _ s
  rw [places_back]
  exact wpAny_pure h
theorem getItem_tuple_back {t sl : Addr} {items : Array Value} {vk : Value} {Q : Value → Shared → Prop} (ht : IsTup s.heap t items) (hs : s.heap.IsSliceOf sl .none .none vk) (ps : IsPart vk (some (-1)))
    (h : Q (.ref s.heap.objs.size) { s with heap := s.heap.push { cls := .type "tuple", data := .seq items.toList.reverse.toArray } }) (hsz : items.size ≤ sizeLine) : wpAny (model prog w) A (getItem (.ref t) (.ref sl)) Q E s := by
  have htake : sizeOk (.seq items.toList.reverse.toArray) := by
    show items.toList.reverse.toArray.size ≤ sizeLine
    simpa using hsz
  obtain ⟨os, hos, hcs, hds⟩ := id hs
  have hTs : s.TypeIs (.ref sl) "slice" := ⟨os, hos, hcs⟩
  unfold getItem
  try with_reducible refine wpAny_holding ?_
  first | refine wpAny_bind (wpAny_pure ?_) | skip
  refine wpAny_bind (wpAny_sequenceKey ht.typeIs (by decide) ?_)
  refine wpAny_bind (wpAny_callSpecial?_slot (name := Str.ofString "__getitem__") ht.typeIs PyProof.Rows.slot_tuple_getitem (wpAny_call_entry PyProof.Rows.slot_tuple_getitem ht.typeIs entry_tuple_getitem ?_ (args_tuple_getitem _ _)))
  show wpAny _ _ (Builtin.Tuple.tupleItemsOf (.ref t) >>= _) _ _ s
  refine wpAny_bind (tupleItemsOf_ ht (wpAny_bind (wpAny_typeOf hTs ?_)))
  rw [if_pos (by decide)]
  refine wpAny_bind (sliceApplied_back hs ps ?_)
  have hno : ¬ ((((items.size : Int) - 1) == 0 && (-1 : Int) == 1 && items.size == items.size) = true) := by
    intro q
    rw [Bool.and_eq_true, Bool.and_eq_true] at q
    exact absurd (eq_of_beq q.1.2) (by decide)
  show wpAny _ _ (if (((items.size : Int) - 1) == 0 && (-1 : Int) == 1 && items.size == items.size) = true then _ else _) _ _ s
  rw [if_neg hno, pick_back]
  first
    | exact wpAny_bind (m := Builtin.Tuple.tupleExact _) (wpAny_newObj_type (wpAny_pure ⟨_, rfl, wpAny_pure h⟩) htake)
    | exact wpAny_bind (m := Builtin.Tuple.tupleExact _) (wpAny_newObj_type (wpAny_bind (wpAny_pure (wpAny_pure ⟨_, rfl, wpAny_pure h⟩))) htake)
    | exact wpAny_bind (wpAny_bind (m := Builtin.Tuple.tupleExact _) (wpAny_newObj_type (wpAny_pure (wpAny_pure ⟨_, rfl, wpAny_pure h⟩)) htake))
    | exact wpAny_bind (wpAny_bind (m := Builtin.Tuple.tupleExact _) (wpAny_newObj_type (wpAny_pure ⟨_, rfl, wpAny_pure h⟩) htake))
end
def tRevA (K : PySem.W.Frag) (te : TE) : TE := fun σ H Q => te σ H fun x H1 => (∃ a xs, x = .ref a ∧ SqL K H1 a xs ∧ ∀ p, H1 p = none → Q (.ref p) (upd H1 p (.lst xs.reverse))) ∨ (∃ a xs, x = .ref a ∧ SqT K H1 a xs ∧ ∀ p, H1 p = none → Q (.ref p) (upd H1 p (.tup xs.reverse)))
theorem pe_revA {X : Cx} {e : Expr} {te : TE} {k : Nat} {p1 p2 p3 pos : Pos} (he : PE X e te) : PE X (.Subscript e (.Slice none none (some (.UnaryOp .USub (.Constant (.int 1) k p1) p2)) p3) pos) (tRevA X.K te) := by
  refine ⟨fun pins s σ H Q I h => ?_⟩
  refine Subscript_ (thn (he.run pins s σ H _ I h) fun v s1 ⟨x, H1, I1, r1, q1⟩ => ?_)
  have hst : PO X (some (.UnaryOp .USub (.Constant (.int 1) k p1) p2)) (tPart (tUn (rU fun i => .int (-i)) (tC (.int 1)))) := po_some (pe_un un_neg pe_int)
  refine wpAny_Slice (thn (po_none.run pins s1 σ H1 (fun o H2 => o = none ∧ H2 = H1) I1 ⟨rfl, rfl⟩) fun vl s2 ⟨l, H2, I2, pl, el, e2⟩ => ?_)
  subst el e2
  refine thn (po_none.run pins s2 σ H2 (fun o H3 => o = none ∧ H3 = H2) I2 ⟨rfl, rfl⟩) fun vu s3 ⟨u, H3, I3, pu, eu, e3⟩ => ?_
  subst eu e3
  refine thn (hst.run pins s3 σ H3 (fun o H4 => o = some (-1) ∧ H4 = H3) I3 ⟨1, rfl, -1, rfl, rfl, rfl⟩) fun vs s4 ⟨o, H4, I4, ps, eo, e4⟩ => ?_
  subst eo e4
  have I5 : Inv X pins σ H4 { s4 with heap := s4.heap.push { cls := .type "slice", data := .fields #[vl, vu, vs] } } := I4.kept (t' := s4.toks) fun b ob q => Heap.get?_push_of_some _ q
  rcases q1 with ⟨a, xs, rfl, hx, q⟩ | ⟨a, xs, rfl, hx, q⟩
  · cases r1
    obtain ⟨its, r, ht, hz⟩ := I5.list hx
    have hlen := r.length
    show wpAny (model X.prog X.w) X.A (subscriptTail e (.Slice none none (some (.UnaryOp .USub (.Constant (.int 1) k p1) p2)) p3) (.ref a) (.ref s4.heap.objs.size)) (EP X pins σ Q) X.xe { s4 with heap := s4.heap.push { cls := .type "slice", data := .fields #[vl, vu, vs] } }
    refine tail_any (ops := [.ref a, .ref s4.heap.objs.size]) ht.isList.typeIs (PySem.slot_list_getitem.lookup) ?_ (by with_unfolding_all rfl)
    refine wpAny_getItem_list_slice ht.isList (Heap.IsSliceOf.new _ vl vu vs) pl pu ps (by decide) ?_ (by rw [List.size_toArray]; omega)
    rw [PySem.W.krv_pick]
    refine ⟨.ref _, _, I5.laid (t' := s4.toks) (o := .lst xs.reverse) (fun b ob q => Heap.get?_push_of_some _ q) (Nat.le_refl _) ⟨by simpa using hz, its.reverse, 0, r.reverse, ?_⟩, rfl, q _ (I5.hok.fresh (Nat.le_refl _))⟩
    exact Heap.get?_push_size _ rfl
  · cases r1
    cases pl
    cases pu
    obtain ⟨its, r, ht, hz⟩ := I5.tuple hx
    have hlen : its.toArray.size = xs.length := by rw [List.size_toArray]; exact r.length.symm
    show wpAny (model X.prog X.w) X.A (subscriptTail e (.Slice none none (some (.UnaryOp .USub (.Constant (.int 1) k p1) p2)) p3) (.ref a) (.ref s4.heap.objs.size)) (EP X pins σ Q) X.xe { s4 with heap := s4.heap.push { cls := .type "slice", data := .fields #[.none, .none, vs] } }
    refine tail_any (ops := [.ref a, .ref s4.heap.objs.size]) ht.typeIs PyProof.Rows.slot_tuple_getitem.lookup ?_ (by with_unfolding_all rfl)
    refine getItem_tuple_back ht (Heap.IsSliceOf.new _ .none .none vs) ps ?_ (by rw [hlen]; exact hz)
    refine ⟨.ref _, _, I5.laid (t' := s4.toks) (o := .tup xs.reverse) (fun b ob q => Heap.get?_push_of_some _ q) (Nat.le_refl _) ⟨by simpa using hz, its.reverse, r.reverse, ?_⟩, rfl, q _ (I5.hok.fresh (Nat.le_refl _))⟩
    have := IsTup.new (s4.heap.push { cls := .type "slice", data := .fields #[.none, .none, vs] }) its.reverse.toArray
    simpa using this
section
variable {ck : Ck} {Γ : Tab} {cf : Str → List D → St → Option (D × Bool × St)} {k : Nat} {X : Cx}
theorem n_rev {a : E} {e : Expr} {kk : Nat} {p1 p2 p3 pos : Pos} (h : PEo X Γ cf e a) : PEo X Γ cf (.Subscript e (.Slice none none (some (.UnaryOp .USub (.Constant (.int 1) kk p1) p2)) p3) pos) (.rev a) :=
  PEimp (pe_revA (toD h)) fun σ H Q ⟨Z, F, μ, ρ, st, d, f, ρ', st', r, ev, q⟩ => by
    obtain ⟨x, fx, e1, e2⟩ := ev_rev ev
    refine ⟨Z, F, μ, ρ, st, x, fx, ρ', st', r, e1, fun F1 μ1 H1 v x1 r1 h1 => ?_⟩
    cases x <;> first | (cases e2; done) | skip
    · rename_i ds
      cases e2
      simp only [RelD] at h1
      obtain ⟨a, vs, rfl, g1, g2⟩ := h1
      refine .inr ⟨a, vs, rfl, g1.1, fun p hp => ?_⟩
      have al : Alc (ghX X) F1 μ1 H1 (.tup ds.reverse) false (.ref p) (upd H1 p (.tup vs.reverse)) := .inr (.inl ⟨p, vs.reverse, _, rfl, hp, rfl, rfl, g2.reverse⟩)
      obtain ⟨x4, r4, h4⟩ := al.done r1
      exact q F1 μ1 _ _ (x1.trans x4) r4 h4
    · rename_i ds
      cases e2
      simp only [RelD] at h1
      obtain ⟨a, vs, rfl, g1, g2⟩ := h1
      refine .inl ⟨a, vs, rfl, g1.sql, fun p hp => ?_⟩
      have al : Alc (ghX X) F1 μ1 H1 (.lst ds.reverse) true (.ref p) (upd H1 p (.lst vs.reverse)) := .inr (.inr ⟨p, vs.reverse, _, rfl, hp, rfl, rfl, rfl, g2.reverse⟩)
      obtain ⟨x4, r4, h4⟩ := al.done r1
      exact q F1 μ1 _ _ (x1.trans x4) r4 h4
end
end Rv

set_option Elab.async false
set_option linter.all false
set_option maxRecDepth 100000
set_option maxHeartbeats 8000000
/-! Methods, displays of dicts. -/
namespace Rv
open PySem PySem.Spec PyProof.Rows L2
section
variable {ck : Ck} {Γ : Tab} {cf : Str → List D → St → Option (D × Bool × St)} {k : Nat} {X : Cx}
theorem ab_of {o : Expr} (h : abOk o = true) (n : Str) (env : Env) : attributeBase o n env (eval o env) = eval o env := by
  cases o <;> first | rfl | skip
  rename_i f xs ks p
  cases xs with
  | nil => cases h
  | cons x xs => cases f <;> rfl
theorem few_of {x : Expr} {xs : List Expr} {pos : Pos} {env : Env} (h : (x :: xs).all nStar = true) (hl : (x :: xs).length < 30) :
    ((backTo pos (starEach (x :: xs) env)).all (fun x => !x.1) && (backToKw pos (keywordEach [] env)).all (fun x => x.1.isSome) && decide ((x :: xs).length + ([] : List Keyword).length + (if ([] : List Keyword).isEmpty then 0 else 1) < 30)) = true := by
  have h1 := noStars (pos := pos) (env := env) h
  have h2 : (backTo pos (starEach (x :: xs) env)).all (fun x => !x.1) = true := by
    rw [List.all_eq_true]
    intro y hy
    have := List.any_eq_false.mp h1 y hy
    simpa using this
  rw [h2]
  have h3 : decide ((x :: xs).length + ([] : List Keyword).length + (if ([] : List Keyword).isEmpty then 0 else 1) < 30) = true := by
    rw [decide_eq_true_iff]
    simpa using hl
  rw [h3]
  rfl

theorem ev_mth {m : Mth} {a : E} {es : List E} {ρ ρ' : Ss} {st st' : St} {d : D} {f : Bool} (h : evE Γ cf (.mth m a es) ρ st = some (d, f, ρ', st')) :
    ∃ x fx ρ1 st1 ds, evE Γ cf a ρ st = some (x, fx, ρ1, st1) ∧ evL Γ cf es ρ1 st1 = some (ds, ρ', st') ∧ mthD m x ds = some (d, f) := by
  simp only [evE] at h
  split at h
  · rename_i x fx ρ1 st1 e1
    split at h
    · rename_i ds ρ2 st2 e2
      split at h
      · rename_i d' f' e3
        cases h
        exact ⟨x, fx, ρ1, st1, ds, e1, e2, e3⟩
      · cases h
    · cases h
  · cases h
theorem rel_ints {F : Addr → Prop} {μ : List Addr} {H : Hp} {v : V} {ds : List D} {l : List Int} (h : RelC (ghX X) F μ H (.lst ds) v) (e : intsOf ds = some l) : ∃ p, v = .ref p ∧ SqL X.K H p (l.map V.int) := by
  obtain ⟨p, vs, rfl, h1, h2⟩ := h.lst
  obtain ⟨rfl, _⟩ := relDs_ints e h2
  exact ⟨p, rfl, h1⟩
theorem mth_index {x : D} {ds : List D} {d : D} {f : Bool} (h : mthD .index x ds = some (d, f)) : ∃ zs i l n, x = .lst zs ∧ ds = [.int i] ∧ intsOf zs = some l ∧ l.findIdx? (fun z => z == i) = some n ∧ d = .int (n : Nat) ∧ f = false := by
  cases x <;> first | (simp [mthD] at h; done) | skip
  rcases ds with _ | ⟨a, _ | ⟨b, r⟩⟩ <;> first | (simp [mthD] at h; done) | skip
  cases a <;> first | (simp [mthD] at h; done) | skip
  simp only [mthD] at h
  split at h
  · split at h
    · cases h
      exact ⟨_, _, _, _, rfl, rfl, by assumption, by assumption, rfl, rfl⟩
    · cases h
  · cases h
theorem mth_count {x : D} {ds : List D} {d : D} {f : Bool} (h : mthD .count x ds = some (d, f)) : ∃ zs i l, x = .lst zs ∧ ds = [.int i] ∧ intsOf zs = some l ∧ d = .int (l.count i : Nat) ∧ f = false := by
  cases x <;> first | (simp [mthD] at h; done) | skip
  rcases ds with _ | ⟨a, _ | ⟨b, r⟩⟩ <;> first | (simp [mthD] at h; done) | skip
  cases a <;> first | (simp [mthD] at h; done) | skip
  simp only [mthD] at h
  split at h
  · cases h
    exact ⟨_, _, _, rfl, rfl, by assumption, rfl, rfl⟩
  · cases h
/-- l.index(i) of ints -/
theorem run_index : MtR X "list.index" (fun v vs H Q => ∃ F μ x ds d f, RelC (ghX X) F μ H x v ∧ RelDs (ghX X) F μ H ds vs ∧ mthD .index x ds = some (d, f) ∧ ∀ v, RelD (ghX X) F μ H d v → Q v H) := by
  intro pins s σ H x xs v us Q I rx rxs ⟨F, μ, x', ds, d, f, h1, h2, e, q⟩
  obtain ⟨zs, i, l, n, rfl, rfl, e2, e3, rfl, rfl⟩ := mth_index e
  obtain ⟨p, rfl, hs⟩ := rel_ints h1 e2
  simp only [RelDs, RelD] at h2
  obtain ⟨y, r, rfl, rfl, rfl⟩ := h2
  obtain ⟨hl, h5, h6⟩ := List.findIdx?_eq_some_iff_getElem.mp e3
  refine mt_index pins s σ H _ _ v us Q I rx rxs ⟨p, l.map V.int, .int i, n, .int l[n], rfl, rfl, hs, rfl, ?_, ?_, h5, fun m z' hm hz => ?_, q _ relInt⟩
  · rw [List.all_map, List.all_eq_true]
    exact fun _ _ => rfl
  · rw [List.getElem?_map, List.getElem?_eq_getElem hl]
    rfl
  · rw [List.getElem?_map, List.getElem?_eq_getElem (by omega)] at hz
    cases hz
    have := h6 m hm
    show (l[m] == i) = false
    simpa using this
theorem run_count : MtR X "list.count" (fun v vs H Q => ∃ F μ x ds d f, RelC (ghX X) F μ H x v ∧ RelDs (ghX X) F μ H ds vs ∧ mthD .count x ds = some (d, f) ∧ ∀ v, RelD (ghX X) F μ H d v → Q v H) := by
  intro pins s σ H x xs v us Q I rx rxs ⟨F, μ, x', ds, d, f, h1, h2, e, q⟩
  obtain ⟨zs, i, l, rfl, rfl, e2, rfl, rfl⟩ := mth_count e
  obtain ⟨p, rfl, hs⟩ := rel_ints h1 e2
  simp only [RelDs, RelD] at h2
  obtain ⟨y, r, rfl, rfl, rfl⟩ := h2
  exact mt_lcount pins s σ H _ _ v us Q I rx rxs ⟨p, l, i, rfl, rfl, hs, q _ relInt⟩
theorem mth_lst {m : Mth} (hm : m = .index ∨ m = .count) {x : D} {ds : List D} {d : D} {f : Bool} (h : mthD m x ds = some (d, f)) : (∃ zs, x = .lst zs) ∧ f = false := by
  rcases hm with rfl | rfl
  · obtain ⟨zs, i, l, n, rfl, _, _, _, _, rfl⟩ := mth_index h
    exact ⟨⟨_, rfl⟩, rfl⟩
  · obtain ⟨zs, i, l, rfl, _, _, _, rfl⟩ := mth_count h
    exact ⟨⟨_, rfl⟩, rfl⟩
theorem n_mth {m : Mth} (hm : m = .index ∨ m = .count) {a : E} {es : List E} {o x : Expr} {xs : List Expr} {apos pos : Pos} (ho : PEo X Γ cf o a) (h : PLo X Γ cf (x :: xs) es) (hn : (x :: xs).all nStar = true) (hl : (x :: xs).length < 30) (hab : abOk o = true)
    (hline : (apos.endLine == pos.line) = true) : PEo X Γ cf (.Call (.Attribute o (mthN m) apos) (x :: xs) [] pos) (.mth m a es) := by
  have hn' := hn
  simp only [List.all_cons, Bool.and_eq_true] at hn'
  have w : ∀ {id}, MtR X id (fun v vs H Q => ∃ F μ x ds d f, RelC (ghX X) F μ H x v ∧ RelDs (ghX X) F μ H ds vs ∧ mthD m x ds = some (d, f) ∧ ∀ v, RelD (ghX X) F μ H d v → Q v H) → Slot "list" (mthN m) id → typeOf (.builtin id) = pure (.type "method_descriptor") → PEo X Γ cf (.Call (.Attribute o (mthN m) apos) (x :: xs) [] pos) (.mth m a es) := by
    intro id hr sl ty
    refine PEimp (pe_bm PySem.F.plainAttrs_list sl ty hr (toD ho) h (ab_of hab _ _) (few_of hn hl) hline (starEach_cons hn'.1) (noStars hn'.2)) fun σ H Q ⟨Z, F, μ, ρ, st, d, f, ρ', st', r, ev, q⟩ => ?_
    obtain ⟨x', fx, ρ1, st1, ds, e1, e2, e3⟩ := ev_mth ev
    refine ⟨Z, F, μ, ρ, st, x', fx, ρ1, st1, r, e1, fun F1 μ1 H1 v1 x1 r1 h1 => ⟨?_, Z, F1, μ1, ρ1, st1, ds, ρ', st', r1, e2, fun F2 μ2 H2 vs x2 r2 h2 => ⟨F2, μ2, x', ds, d, f, .inl (h1.ext x2 _ _), h2, e3, fun v hv => ?_⟩⟩⟩
    · obtain ⟨⟨zs, rfl⟩, _⟩ := mth_lst hm e3
      simp only [RelD] at h1
      obtain ⟨p, vs, rfl, h3, _⟩ := h1
      exact .inl ⟨rfl, vs, h3.sql⟩
    · obtain ⟨_, rfl⟩ := mth_lst hm e3
      exact q F2 μ2 H2 v (x1.trans x2) r2 (.val rfl hv)
  rcases hm with rfl | rfl
  · exact w run_index PySem.F.slot_list_index PySem.F.type_list_index
  · exact w run_count PySem.F.slot_list_count PySem.F.type_list_count

/-! ### displays of dicts -/
def pairsE : List E → List (E × E)
  | a :: b :: r => (a, b) :: pairsE r
  | _ => []
def flatP : List (V × V) → List V
  | [] => []
  | (a, b) :: r => a :: b :: flatP r
theorem ev_dic {kvs : List E} {ρ ρ' : Ss} {st st' : St} {d : D} {f : Bool} (h : evE Γ cf (.dic kvs) ρ st = some (d, f, ρ', st')) : ∃ ds ks vs, evL Γ cf kvs ρ st = some (ds, ρ', st') ∧ mkDic ds [] [] = some (ks, vs) ∧ d = .dic ks vs ∧ f = true ∧ kvs.length ≤ 30 := by
  simp only [evE] at h
  split at h
  · rename_i ds ρ1 st1 e1
    split at h
    · rename_i ks vs e2
      split at h
      · cases h
        exact ⟨ds, ks, vs, e1, e2, rfl, rfl, by assumption⟩
      · cases h
    · cases h
  · cases h
theorem nStE_of {e : E} (h : nStE e = true) : ∀ a, e ≠ .star a := by
  intro a q
  subst q
  cases h
theorem pairs_imp {g : Gh} : ∀ (kvs : List E) {Z F : Addr → Prop} {μ : List Addr} {ρ ρ' : Ss} {st st' : List D} {σ : L2.St} {H : Hp} {ds : List D} {Q : List (V × V) → Hp → Prop}, kvs.all nStE = true → kvs.length % 2 = 0 → R g Z F μ ρ st σ H → evL Γ cf kvs ρ st = some (ds, ρ', st') →
    (∀ F' μ' H' ps, Ext Z F μ H F' μ' H' → R g Z F' μ' ρ' st' σ H' → RelDs g F' μ' H' ds (flatP ps) → ps.length * 2 = kvs.length → Q ps H') → tPairs ((pairsE kvs).map fun p => (TD_ g Γ cf p.1, TD_ g Γ cf p.2)) σ H Q
  | [], Z, F, μ, ρ, ρ', st, st', σ, H, ds, Q, hn, he, r, ev, q => by
    simp only [evL, Option.some.injEq, Prod.mk.injEq] at ev
    obtain ⟨rfl, rfl, rfl⟩ := ev
    exact q F μ H [] .refl r .nil rfl
  | [a], _, _, _, _, _, _, _, _, _, _, _, _, he, _, _, _ => by simp at he
  | a :: b :: kvs, Z, F, μ, ρ, ρ', st, st', σ, H, ds, Q, hn, he, r, ev, q => by
    simp only [List.all_cons, Bool.and_eq_true] at hn
    obtain ⟨x, fx, ρ1, st1, ds1, e1, e2, rfl⟩ := ev_cons (nStE_of hn.1) ev
    obtain ⟨y, fy, ρ2, st2, ds2, e3, e4, rfl⟩ := ev_cons (nStE_of hn.2.1) e2
    refine ⟨Z, F, μ, ρ, st, x, fx, ρ1, st1, r, e1, fun F1 μ1 H1 v1 x1 r1 h1 => ⟨Z, F1, μ1, ρ1, st1, y, fy, ρ2, st2, r1, e3, fun F2 μ2 H2 v2 x2 r2 h2 => ?_⟩⟩
    refine pairs_imp kvs hn.2.2 (by simp only [List.length_cons] at he; omega) r2 e4 fun F3 μ3 H3 ps x3 r3 h3 hl => ?_
    refine q F3 μ3 H3 ((v1, v2) :: ps) ((x1.trans x2).trans x3) r3 (.cons (h1.ext (x2.trans x3) _ _) (.cons (h2.ext x3 _ _) h3)) ?_
    simp only [List.length_cons]
    omega
theorem mkDic_rel {g : Gh} {F : Addr → Prop} {μ : List Addr} {H : Hp} : ∀ (ps : List (V × V)) {ds : List D} {keys : List Key} {vs : List D} {ws : List V} {ks' vs' : List D}, RelDs g F μ H ds (flatP ps) → keys.length = ws.length → RelDs g F μ H vs ws → mkDic ds (keys.map keyD) vs = some (ks', vs') →
    ∃ (kvs : List (Key × V)) (keys' : List Key) (ws' : List V), ps = kvs.map (fun kv => (kV kv.1, kv.2)) ∧ mergeK (keys.zip ws) kvs = keys'.zip ws' ∧ keys'.length = ws'.length ∧ ks' = keys'.map keyD ∧ RelDs g F μ H vs' ws'
  | [], ds, keys, vs, ws, ks', vs', h, hl, hv, e => by
    cases ds with
    | cons a b => simp only [RelDs, flatP] at h; obtain ⟨_, _, z, _⟩ := h; cases z
    | nil =>
      simp only [mkDic, Option.some.injEq, Prod.mk.injEq] at e
      obtain ⟨rfl, rfl⟩ := e
      exact ⟨[], keys, ws, rfl, rfl, hl, rfl, hv⟩
  | (x, y) :: ps, ds, keys, vs, ws, ks', vs', h, hl, hv, e => by
    cases ds with
    | nil => simp only [RelDs, flatP] at h; cases h
    | cons a ds =>
      cases ds with
      | nil =>
        simp only [RelDs, flatP] at h
        obtain ⟨_, _, z, _, z2⟩ := h
        cases z
        cases z2
      | cons b ds =>
        simp only [RelDs, flatP] at h
        obtain ⟨_, _, z, h1, _, _, z2, h2, h3⟩ := h
        cases z
        cases z2
        simp only [mkDic] at e
        split at e
        · rename_i ok
          obtain ⟨k, rfl, rfl⟩ := key_of' ok h1
          obtain ⟨keys1, ws1, g1, g2, g3, g4⟩ := dic_put (k := k) hl hv h2
          rw [g2] at e
          obtain ⟨kvs, keys', ws', q1, q2, q3, q4, q5⟩ := mkDic_rel ps h3 g1 g3 e
          refine ⟨(k, y) :: kvs, keys', ws', by rw [q1]; rfl, ?_, q3, q4, q5⟩
          show mergeK (putK (keys.zip ws) k y) kvs = _
          rw [g4, q2]
        · cases e
theorem n_dic {kvs : List E} {keys : List (Option Expr)} {values : List Expr} {pos : Pos} (h : PPs X pos keys values ((pairsE kvs).map fun p => (TD_ (ghX X) Γ cf p.1, TD_ (ghX X) Γ cf p.2))) (hall : keys.all (·.isSome) = true) (hl : keys.length = values.length) (h0 : keys ≠ []) (h15 : keys.length ≤ 15)
    (hn : kvs.all nStE = true) (he : kvs.length % 2 = 0) : PEo X Γ cf (.Dict keys values pos) (.dic kvs) := by
  refine PEimp (pe_disp h hall hl h0 h15) fun σ H Q ⟨Z, F, μ, ρ, st, d, f, ρ', st', r, ev, q⟩ => ?_
  obtain ⟨ds, ks, vs, e1, e2, rfl, rfl, e30⟩ := ev_dic ev
  intro p hp
  have x2 : Ext Z F μ H F μ (upd H p (.dK [])) := Ext.laid hp r.zd r.fd
  have nZ : ¬Z p := fun z => r.zd p z hp
  have r2 := (r.laid (o := .dK []) hp).zplus (D := p) (by rw [upd_same]; simp) (fun z => ?_) (fun i e hi hs => ?_)
  · refine pairs_imp kvs hn he r2 e1 fun F' μ' H' ps x3 r3 h3 hlen => ?_
    have hD : H' p = some (.dK []) := (x3.z p (.inr rfl)).trans upd_same
    obtain ⟨kvs', keys', ws', q1, q2, q3, q4, q5⟩ := mkDic_rel ps (keys := []) (ws := []) h3 rfl .nil e2
    refine ⟨hD, kvs', q1, ?_, ?_⟩
    · rw [q1, List.length_map] at hlen
      omega
    · have nF : ¬F' p := fun z => r.fd p (x3.zf p (.inr rfl) z) hp
      obtain ⟨x4, r4⟩ := r3.priv (o := .dK (mergeK [] kvs')) nZ nF (by rw [hD]; trivial)
      refine q F' μ' _ (.ref p) ((x2.trans x3.zminus).trans x4) r4.zminus (.inr ⟨rfl, p, rfl, ⟨keys'.map kV, ws', ?_, q5.ext x4 _ _, keys', rfl, q3, ?_⟩, nF, nZ, fun z => (r3.mo p z).2 (.inr rfl), fun i e hi hs => ?_⟩)
      · rw [q4]
        exact rel_keys keys'
      · rw [upd_same]
        have q2' : mergeK [] kvs' = keys'.zip ws' := q2
        rw [q2']
      · obtain ⟨a, e3, _, _, nz, _⟩ := r3.own i e hi
        rw [hs] at e3
        cases e3
        exact nz (.inr rfl)
  · obtain ⟨h', e⟩ := List.mem_iff_getElem?.mp z
    have hl : h' < st.length := by
      rw [← r.stl]
      exact (List.getElem?_eq_some_iff.mp e).1
    obtain ⟨a', e', q'⟩ := r.sto h' _ (List.getElem?_eq_getElem hl)
    rw [e] at e'
    cases e'
    exact q'.some.1 hp
  · obtain ⟨a', e', q', _⟩ := r.own i e hi
    rw [hs] at e'
    cases e'
    exact q'.some.1 hp
end
end Rv

set_option Elab.async false
set_option linter.all false
set_option maxRecDepth 100000
set_option maxHeartbeats 4000000
/-! set(list of ints), with its order. -/
namespace L2
open PySem PySem.Spec PyProof.Rows
section
variable {P : Program} {w : World} {A : Around} {E : Value → Shared → Prop} {s : Shared}
set_option maxRecDepth 100000 in
set_option maxHeartbeats 3200000 in
/-- set(xs), xs a list of ints: the set's own order kept (the library has it for tuples) -/
theorem call_set_listI {l : Addr} {items : Array Value} (ns : List Int) {Q : Value → Shared → Prop} (hh : A.handled = none) (hl : s.heap.IsList l items) (hit : IntsAre items.toList ns) (hb : ns.length + 1 < scanBound)
    (h : ∀ (h' : Heap) (tk c : Nat), SetR w h' s.heap.objs.size (fun j => decide (j ∈ ns)) c → c ≤ ns.length → (∀ b o, s.heap.get? b = some o → h'.get? b = some o) → Q (.ref s.heap.objs.size) { s with heap := h', toks := tk }) :
    wpAny (model P w) A (call (.type "set") [.ref l]) Q E s := by
  have hisz : items.size = ns.length := by
    have q := IntsAre.length hit
    rw [Array.length_toList] at q
    exact q
  obtain ⟨c, tl, hmro⟩ := F.called_set.mro
  have hmade := F.called_set.made
  have hsub := F.called_set.sub
  refine wpAny_call (codeAny_of_tree ?_)
  show wpAny _ _ (callAny (.type "set") _) _ _ _
  refine wpAny_pure ⟨Code.quiet_builtin _ (by decide +kernel), codeAny_builtin F.entry_type_call ?_⟩
  rw [Around.under_plain (weight_type_call_type "set" [.ref l] []) rfl]
  have h1 := F.called_set.notType
  have h2 := F.called_set.canCreate
  have hct := F.typeCall_set_1 (.ref l)
  repeat (any_goals (first | assumption | wp_step))

  refine codeAny_mono (code_set_led1 (.ref l) (E := E) (Q₁ := fun obj s₁ => obj = .ref s.heap.objs.size ∧ s₁ = { s with heap := s.heap.push { cls := .type "set", dict := none, data := .set #[] 0 (.fresh 0 0 (!w.params.followText "set-order")) } }) ⟨rfl, rfl⟩) fun r s₁ hr => ?_
  cases r with
  | error e => exact hr
  | ok fl =>
    cases fl with
    | ret obj =>
      obtain ⟨rfl, rfl⟩ := hr
      have hS : (s.heap.push { cls := .type "set", dict := none, data := .set #[] 0 (.fresh 0 0 (!w.params.followText "set-order")) }).get? s.heap.objs.size = some { cls := .type "set", dict := none, data := .set #[] 0 (.fresh 0 0 (!w.params.followText "set-order")) } := Heap.get?_push_size _ rfl
      have hT : Shared.TypeIs { s with heap := s.heap.push { cls := .type "set", dict := none, data := .set #[] 0 (.fresh 0 0 (!w.params.followText "set-order")) } } (.ref s.heap.objs.size) "set" := ⟨_, hS, rfl⟩
      have hli := F.called_set.init.lookup
      have hbi := F.called_set.init.bind (.ref s.heap.objs.size)
      repeat (any_goals (first | assumption | wp_step))

      refine codeAny_mono (codeAny_call_builtin (R := wants (fun r s₂ => r = .none ∧ ∃ h' tk c, s₂ = { s with heap := h', toks := tk } ∧ SetR w h' s.heap.objs.size (fun j => decide (j ∈ ns)) c ∧ c ≤ ns.length ∧
          (∀ b o, s.heap.get? b = some o → h'.get? b = some o)) E) F.called_set.init.plain F.entry_set_init (check_set_init_1 hT ?_)) fun r₂ s₂ hr₂ => ?_
      · obtain ⟨ol, hol, hcl, nl, hdl⟩ := hl
        obtain ⟨ocls, odict, odata, oslots⟩ := ol
        simp only at hcl hdl
        subst hcl; subst hdl
        have hol' : (s.heap.push { cls := .type "set", dict := none, data := .set #[] 0 (.fresh 0 0 (!w.params.followText "set-order")) }).get? l = some { cls := .type "list", dict := odict, data := .seq items nl, slots := oslots } := Heap.get?_push_of_some _ hol
        have hsls := F.sub_list_set
        have hslf := F.sub_list_frozenset
        have hne : (Value.type "list" == Value.type "dict") = false := by decide
        have hl1 : (s.heap.push { cls := .type "set", dict := none, data := .set #[] 0 (.fresh 0 0 (!w.params.followText "set-order")) }).IsList l items := ⟨_, hol', rfl, nl, rfl⟩
        unfold Builtin.«set.__init__» noKeywords Builtin.Frozenset.updateFrom
        generalize hPI : pyIter = PI
        wp_walk
        subst hPI

        refine wpAny_pyIter_list hl1 ?_
        refine wpAny_bind (wpAny_runValue ?_)
        have hlS : l < s.heap.objs.size := Heap.lt_size hol
        have hh3 : A.in1.in1.in1.handled = none := by simp [hh]
        have hz1 : (s.heap.push { cls := .type "set", dict := none, data := .set #[] 0 (.fresh 0 0 (!w.params.followText "set-order")) }).objs.size = s.heap.objs.size + 1 := Heap.size_push ..
        have hneI : l ≠ (s.heap.push { cls := .type "set", dict := none, data := .set #[] 0 (.fresh 0 0 (!w.params.followText "set-order")) }).objs.size := by
          rw [Heap.size_push]; exact Nat.ne_of_lt (Nat.lt_succ_of_lt hlS)
        have hSf : s.heap.objs.size ∉ [(s.heap.push { cls := .type "set", dict := none, data := .set #[] 0 (.fresh 0 0 (!w.params.followText "set-order")) }).objs.size, l] := by
          rw [Heap.size_push]; simp only [List.mem_cons, List.mem_singleton, List.not_mem_nil, or_false, not_or]
          exact ⟨Nat.ne_of_lt (Nat.lt_succ_self _), Nat.ne_of_gt hlS⟩
        have hval : ∀ (i : Nat) (v : Value), items[i]? = some v → ∃ k t, ns[i]? = some k ∧ v = .int k t := fun i v hv => by
          have hi : i < ns.length := by rw [← hisz]; exact (Array.getElem?_eq_some_iff.mp hv).1
          obtain ⟨t, e⟩ := PyProof.Rows.IntsAre.int_at hit i v (by rw [Array.getElem?_toList]; exact hv)
          refine ⟨ns[i], t, List.getElem?_eq_getElem hi, ?_⟩
          rw [e, List.getD_eq_getElem?_getD, List.getElem?_eq_getElem hi] <;> rfl
        refine set_update_ints ((Walks.list hh3 _ l hneI items).toS) s.heap.objs.size
          hSf ns hisz hb hval (items.size - 0) 0 _ (by omega) (Nat.zero_le _)
          ⟨⟨_, Heap.get?_push_size _ rfl, rfl, rfl⟩, (hl1.push _)⟩ ?hS0 ?hR
        case hS0 =>
          have hget : ((s.heap.push { cls := .type "set", dict := none, data := .set #[] 0 (.fresh 0 0 (!w.params.followText "set-order")) }).push { cls := .type "list_iterator", data := .fields #[.ref l, .int 0 0] }).get? s.heap.objs.size
              = some { cls := .type "set", dict := none, data := .set #[] 0 (.fresh 0 0 (!w.params.followText "set-order")) } := Heap.get?_push_of_some _ hS
          exact ⟨0, Nat.le_refl 0, setR_new_at hget⟩
        case hR =>
          intro s' c' hm hc' hS'
          obtain ⟨h', g2, d', tk', os'⟩ := s'
          have eg : g2 = s.gens := hm.gens
          have ed : d' = s.drawn := hm.drawn
          have eo : os' = s.os := hm.os
          subst eg; subst ed; subst eo
          show wpAny _ _ _ _ _ _
          refine wpAny_pure ?_
          show wpAny _ _ (ret Value.none) _ _ _
          rw [hisz] at hc'
          refine wpAny_pure ⟨rfl, h', tk', c', rfl, hS', hc', fun b o e => ?_⟩
          have hb0 : b < s.heap.objs.size := Heap.lt_size e
          have hb1 : b ≠ s.heap.objs.size := Nat.ne_of_lt hb0
          have hb2 : b ≠ (s.heap.push { cls := .type "set", dict := none, data := .set #[] 0 (.fresh 0 0 (!w.params.followText "set-order")) }).objs.size := by
            rw [Heap.size_push]; exact Nat.ne_of_lt (Nat.lt_succ_of_lt hb0)
          exact hm.heap b o (by simp only [List.mem_cons, List.mem_singleton, List.not_mem_nil, or_false, not_or]; exact ⟨hb1, hb2⟩) (Heap.get?_push_of_some _ (Heap.get?_push_of_some _ e))

      · cases r₂ with
        | error e => exact hr₂
        | ok fl₂ =>
          cases fl₂ with
          | ret r =>
            obtain ⟨rfl, h', tk, c', rfl, hS', hc', hk'⟩ := hr₂
            repeat (any_goals (first | assumption | wp_step))
            exact h _ _ _ hS' hc' hk'
          | _ => exact hr₂.elim
    | _ => exact hr.elim

end
end L2

set_option Elab.async false
set_option linter.all false
set_option maxRecDepth 100000
set_option maxHeartbeats 8000000
/-! Sets: sorted(set(x)), len(set(x)), len({..}). -/
namespace Rv
open PySem PySem.Spec PyProof.Rows L2

/-! ### sorted lists without repeats -/
theorem mem_insI {i k : Int} : ∀ {l : List Int}, k ∈ insI i l ↔ k = i ∨ k ∈ l
  | [] => by simp [insI]
  | j :: r => by
    unfold insI
    split
    · simp
    · split
      · rename_i e
        subst e
        simp
      · simp only [List.mem_cons, mem_insI (l := r)]
        exact ⟨fun h => by rcases h with h | h | h <;> simp [h], fun h => by rcases h with h | h | h <;> simp [h]⟩
theorem mem_setI {k : Int} : ∀ {l : List Int}, k ∈ setI l ↔ k ∈ l
  | [] => by simp [setI]
  | i :: r => by
    show k ∈ insI i (setI r) ↔ _
    rw [mem_insI, mem_setI, List.mem_cons]
theorem insI_sorted {i : Int} : ∀ {l : List Int}, l.Pairwise (· < ·) → (insI i l).Pairwise (· < ·)
  | [], _ => by simp [insI]
  | j :: r, h => by
    have h1 := List.pairwise_cons.mp h
    unfold insI
    split
    · rename_i e
      refine List.pairwise_cons.mpr ⟨fun k hk => ?_, h⟩
      rcases List.mem_cons.mp hk with z | z
      · omega
      · have := h1.1 k z
        omega
    · split
      · exact h
      · refine List.pairwise_cons.mpr ⟨fun k hk => ?_, insI_sorted h1.2⟩
        rcases mem_insI.mp hk with z | z
        · omega
        · exact h1.1 k z
theorem setI_sorted : ∀ l : List Int, (setI l).Pairwise (· < ·)
  | [] => .nil
  | i :: r => insI_sorted (setI_sorted r)
theorem sorted_uniq : ∀ {l m : List Int}, l.Pairwise (· < ·) → m.Pairwise (· < ·) → (∀ k, k ∈ l ↔ k ∈ m) → l = m
  | [], [], _, _, _ => rfl
  | [], b :: m, _, _, h => by have := (h b).mpr (by simp); simp at this
  | a :: l, [], _, _, h => by have := (h a).mp (by simp); simp at this
  | a :: l, b :: m, h1, h2, h => by
    have p1 := List.pairwise_cons.mp h1
    have p2 := List.pairwise_cons.mp h2
    have e : a = b := by
      rcases List.mem_cons.mp ((h a).mp (by simp)) with e | e
      · exact e
      · rcases List.mem_cons.mp ((h b).mpr (by simp)) with e2 | e2
        · exact e2.symm
        · have := p1.1 b e2
          have := p2.1 a e
          omega
    subst e
    rw [sorted_uniq p1.2 p2.2 fun k => ⟨fun hk => ?_, fun hk => ?_⟩]
    · rcases List.mem_cons.mp ((h k).mp (by simp [hk])) with e | e
      · have := p1.1 k hk
        omega
      · exact e
    · rcases List.mem_cons.mp ((h k).mpr (by simp [hk])) with e | e
      · have := p2.1 k hk
        omega
      · exact e
theorem ltL_irr : ∀ k : List Int, ltL k k = false
  | [] => rfl
  | a :: r => by simp [ltL, ltL_irr r]
theorem ltL_code {B : Int} : ∀ {r s : List Int}, r.length = s.length → TS.Bd B r → TS.Bd B s → (ltL r s = true ↔ TS.code B r < TS.code B s)
  | [], [], _, _, _ => by simp [ltL, TS.code]
  | [], _ :: _, h, _, _ => by simp at h
  | _ :: _, [], h, _, _ => by simp at h
  | a :: r, b :: s, h, h1, h2 => by
    have hl : r.length = s.length := by simpa using h
    simp only [ltL, Bool.or_eq_true, Bool.and_eq_true, decide_eq_true_eq]
    have ih := ltL_code hl h1.tail h2.tail
    by_cases e : a < b
    · exact ⟨fun _ => TS.code_lt hl h1.tail h2.tail e, fun _ => .inl e⟩
    · by_cases e2 : a = b
      · subst e2
        rw [TS.code_same hl, ← ih]
        exact ⟨fun q => q.elim (fun q => absurd q e) (·.2), fun q => .inr ⟨rfl, q⟩⟩
      · have e3 : b < a := by omega
        have := TS.code_lt hl.symm h2.tail h1.tail e3
        exact ⟨fun q => q.elim (fun q => absurd q e) (fun q => absurd q.1 e2), fun q => by omega⟩
theorem mem_insL {i k : List Int} : ∀ {l : List (List Int)}, k ∈ insL i l ↔ k = i ∨ k ∈ l
  | [] => by simp [insL]
  | j :: r => by
    unfold insL
    split
    · simp
    · split
      · rename_i e
        subst e
        simp
      · simp only [List.mem_cons, mem_insL (l := r)]
        exact ⟨fun h => by rcases h with h | h | h <;> simp [h], fun h => by rcases h with h | h | h <;> simp [h]⟩
theorem mem_setL {k : List Int} : ∀ {l : List (List Int)}, k ∈ setL l ↔ k ∈ l
  | [] => by simp [setL]
  | i :: r => by
    show k ∈ insL i (setL r) ↔ _
    rw [mem_insL, mem_setL, List.mem_cons]
/-- the same length, no sign below zero -/
def AllT (B : Int) (d : Nat) (l : List (List Int)) : Prop := ∀ k ∈ l, k.length = d ∧ TS.Bd B k
theorem code_eq {B : Int} : ∀ {r s : List Int}, r.length = s.length → TS.Bd B r → TS.Bd B s → TS.code B r = TS.code B s → r = s
  | [], [], _, _, _, _ => rfl
  | [], _ :: _, h, _, _, _ => by simp at h
  | _ :: _, [], h, _, _, _ => by simp at h
  | a :: r, b :: s, h, h1, h2, e => by
    have hl : r.length = s.length := by simpa using h
    have e1 : a = b := by
      rcases Int.lt_trichotomy a b with q | q | q
      · have := TS.code_lt hl h1.tail h2.tail q
        omega
      · exact q
      · have := TS.code_lt hl.symm h2.tail h1.tail q
        omega
    subst e1
    have e2 : TS.code B r = TS.code B s := by
      rcases Int.lt_trichotomy (TS.code B r) (TS.code B s) with q | q | q
      · have := (TS.code_same (B := B) (d := a) hl).mpr q
        omega
      · exact q
      · have := (TS.code_same (B := B) (d := a) hl.symm).mpr q
        omega
    rw [code_eq hl h1.tail h2.tail e2]
theorem insL_sorted {B : Int} {d : Nat} {i : List Int} : ∀ {l : List (List Int)}, AllT B d (i :: l) → (l.map (TS.code B)).Pairwise (· < ·) → ((insL i l).map (TS.code B)).Pairwise (· < ·)
  | [], _, _ => by simp [insL]
  | j :: r, ha, h => by
    rw [List.map_cons] at h
    have h1 := List.pairwise_cons.mp h
    have hi := ha i (by simp)
    have hj := ha j (by simp)
    unfold insL
    split
    · rename_i e
      have e' := (ltL_code (hi.1.trans hj.1.symm) hi.2 hj.2).mp e
      rw [List.map_cons, List.map_cons]
      refine List.pairwise_cons.mpr ⟨fun k hk => ?_, h⟩
      rcases List.mem_cons.mp hk with z | z
      · omega
      · have := h1.1 k z
        omega
    · rename_i e
      split
      · exact h
      · rename_i ne
        rw [List.map_cons]
        refine List.pairwise_cons.mpr ⟨fun k hk => ?_, insL_sorted (fun k hk => ha k ?_) h1.2⟩
        · obtain ⟨z, hz, rfl⟩ := List.mem_map.mp hk
          rcases mem_insL.mp hz with q | q
          · subst q
            rcases Int.lt_trichotomy (TS.code B j) (TS.code B z) with q | q | q
            · exact q
            · exact absurd (code_eq (hj.1.trans hi.1.symm) hj.2 hi.2 q).symm ne
            · exact absurd ((ltL_code (hi.1.trans hj.1.symm) hi.2 hj.2).mpr q) e
          · exact h1.1 _ (List.mem_map_of_mem q)
        · rcases List.mem_cons.mp hk with z | z
          · simp [z]
          · simp [z]
theorem setL_sorted {B : Int} {d : Nat} : ∀ {l : List (List Int)}, AllT B d l → ((setL l).map (TS.code B)).Pairwise (· < ·)
  | [], _ => .nil
  | i :: r, h => insL_sorted (d := d) (fun k hk => by
      rcases List.mem_cons.mp hk with z | z
      · exact h k (by simp [z])
      · exact h k (List.mem_cons_of_mem _ (mem_setL.mp z))) (setL_sorted fun k hk => h k (List.mem_cons_of_mem _ hk))
/-- what comes of sorted(set(xs)) is the one list -/
theorem setL_uniq {B : Int} {d : Nat} {l m : List (List Int)} (h : AllT B d l) (hm : ∀ k, k ∈ m ↔ k ∈ l) (hs : m.Pairwise fun q r => TS.code B q ≤ TS.code B r) (nd : m.Nodup) : m = setL l := by
  have hm' : AllT B d m := fun k hk => h k ((hm k).mp hk)
  have s1 : (m.map (TS.code B)).Pairwise (· < ·) := by
    rw [List.pairwise_map]
    have := hs.and nd
    refine List.Pairwise.imp_of_mem (fun {a b} ha hb q => ?_) this
    rcases Int.lt_or_eq_of_le q.1 with z | z
    · exact z
    · exact absurd (code_eq ((hm' a ha).1.trans (hm' b hb).1.symm) (hm' a ha).2 (hm' b hb).2 z) q.2
  have e := sorted_uniq s1 (setL_sorted h) fun k => by
    rw [List.mem_map, List.mem_map]
    exact ⟨fun ⟨a, ha, e⟩ => ⟨a, mem_setL.mpr ((hm a).mp ha), e⟩, fun ⟨a, ha, e⟩ => ⟨a, (hm a).mpr (mem_setL.mp ha), e⟩⟩
  have key : ∀ {p q : List (List Int)}, AllT B d p → AllT B d q → p.map (TS.code B) = q.map (TS.code B) → p = q := by
    intro p
    induction p with
    | nil => intro q _ _ e; cases q with
      | nil => rfl
      | cons _ _ => cases e
    | cons a p ih => intro q h1 h2 e; cases q with
      | nil => cases e
      | cons b q =>
        rw [List.map_cons, List.map_cons] at e
        injection e with e1 e2
        have ha := h1 a (by simp)
        have hb := h2 b (by simp)
        rw [code_eq (ha.1.trans hb.1.symm) ha.2 hb.2 e1, ih (fun k hk => h1 k (by simp [hk])) (fun k hk => h2 k (by simp [hk])) e2]
  exact key hm' (fun k hk => h k (mem_setL.mp hk)) e
end Rv

set_option Elab.async false
set_option linter.all false
set_option maxRecDepth 100000
set_option maxHeartbeats 8000000
/-! Sets as nodes. -/
namespace Rv
open PySem PySem.Spec PyProof.Rows L2
section
variable {X : Cx}
/-- set(list of ints) -/
def rSetI (K : PySem.W.Frag) (w : World) : List V → Hp → VK → Prop := fun xs H Q => ∃ (l : Addr) (ns : List Int), xs = [V.ref l] ∧ SqL K H l (ns.map V.int) ∧ ns.length < 64 ∧
  ∀ a c, H a = none → c ≤ ns.length → Q (.ref a) (upd H a (SetO w a (fun j => decide (j ∈ ns)) c))
theorem cr_setI (hc : X.calm = true) : CallR X (.type "set") (rSetI X.K X.w) := by
  intro pins s σ H xs us Q I r h
  obtain ⟨l, ns, rfl, hl, hf, q⟩ := h
  rw [Vals.ref1 r]
  obtain ⟨its, rv, pl, hz⟩ := I.list hl
  have hn : H s.heap.objs.size = none := I.hok.fresh (Nat.le_refl _)
  refine call_set_listI (P := X.prog) (w := X.w) ns (I.ok.hd hc) pl.isList (by simpa using ints_of_vals rv) (by unfold scanBound; omega) fun h' tk c S hle k => ?_
  exact ⟨.ref _, _, I.laid (t' := tk) k (Nat.le_refl _) (setO_new S), rfl, q _ c hn hle⟩
theorem CallR.or' {f : Value} {r r' : List V → Hp → VK → Prop} (h : CallR X f r) (h' : CallR X f r') : CallR X f (fun xs H Q => r xs H Q ∨ r' xs H Q) := fun pins s σ H xs us Q I rv q => q.elim (h pins s σ H xs us Q I rv) (h' pins s σ H xs us Q I rv)
end
section
variable {ck : Ck} {Γ : Tab} {cf : Str → List D → St → Option (D × Bool × St)} {k : Nat} {X : Cx}
theorem ev_srtSet {a : E} {ρ ρ' : Ss} {st st' : St} {d : D} {f : Bool} (h : evE Γ cf (.srtSet a) ρ st = some (d, f, ρ', st')) : ∃ x fx, evE Γ cf a ρ st = some (x, fx, ρ', st') ∧ sortSetD x = some (d, f) := by
  simp only [evE] at h
  split at h
  · split at h
    · cases h
      exact ⟨_, _, by assumption, by assumption⟩
    · cases h
  · cases h
theorem ev_lenSet {a : E} {ρ ρ' : Ss} {st st' : St} {d : D} {f : Bool} (h : evE Γ cf (.lenSet a) ρ st = some (d, f, ρ', st')) : ∃ x fx, evE Γ cf a ρ st = some (x, fx, ρ', st') ∧ lenSetD x = some (d, f) := by
  simp only [evE] at h
  split at h
  · split at h
    · cases h
      exact ⟨_, _, by assumption, by assumption⟩
    · cases h
  · cases h
theorem tupsI_rel {g : Gh} {F : Addr → Prop} {μ : List Addr} {H : Hp} : ∀ {ds : List D} {ks : List (List Int)} {vs : List V}, tupsI ds = some ks → RelDs g F μ H ds vs → ∃ ps : List (Addr × List Int), vs = ps.map (fun p => V.ref p.1) ∧ ps.map (·.2) = ks ∧ ∀ p ∈ ps, H p.1 = some (.tup (p.2.map V.int))
  | [], ks, vs, e, h => by
    simp only [tupsI, Option.some.injEq] at e
    simp only [RelDs] at h
    subst e h
    exact ⟨[], rfl, rfl, fun p hp => by cases hp⟩
  | d :: ds, ks, vs, e, h => by
    simp only [tupsI] at e
    split at e
    · rename_i k0 e1
      obtain ⟨ks', e2, rfl⟩ := Option.map_eq_some_iff.mp e
      simp only [RelDs] at h
      obtain ⟨v, r, rfl, h1, h2⟩ := h
      obtain ⟨ps, rfl, rfl, h3⟩ := tupsI_rel e2 h2
      cases d <;> first | (cases e1; done) | skip
      simp only [RelD] at h1
      obtain ⟨a, ws, rfl, h4, h5⟩ := h1
      obtain ⟨rfl, _⟩ := relDs_ints (show Rv.intsOf _ = some k0 from e1) h5
      refine ⟨(a, k0) :: ps, rfl, rfl, fun p hp => ?_⟩
      rcases List.mem_cons.mp hp with z | z
      · subst z
        refine h4.2 ?_
        obtain ⟨_, rfl⟩ := relDs_ints (show Rv.intsOf _ = some k0 from e1) h5
        simp [intsB]
      · exact h3 p z
    · cases e
theorem allT_of {d : Nat} {l : List (List Int)} (h : l.all (goodT d) = true) : AllT 1048576 d l := by
  intro k hk
  have := List.all_eq_true.mp h k hk
  simp only [goodT, Bool.and_eq_true, decide_eq_true_eq, List.all_eq_true] at this
  exact ⟨this.1, fun m hm => this.2 m hm⟩
theorem relDs_intMap {g : Gh} {F : Addr → Prop} {μ : List Addr} {H : Hp} : ∀ l : List Int, RelDs g F μ H (l.map D.int) (l.map V.int)
  | [] => .nil
  | i :: l => .cons relInt (relDs_intMap l)
theorem relDs_tups {g : Gh} {F : Addr → Prop} {μ : List Addr} {H : Hp} : ∀ (L : List (Addr × List Int)), (∀ p ∈ L, H p.1 = some (.tup (p.2.map V.int))) → RelDs g F μ H ((L.map (·.2)).map tupZ) (L.map fun p => V.ref p.1)
  | [], _ => .nil
  | p :: L, h => by
    refine .cons ?_ (relDs_tups L fun q hq => h q (by simp [hq]))
    simp only [tupZ, RelD]
    refine ⟨p.1, _, rfl, ⟨.inl (.inl (h p (by simp))), fun _ => h p (by simp)⟩, ?_⟩
    exact relDs_intMap p.2
theorem srt_cases {x : D} {d : D} {f : Bool} (h : sortSetD x = some (d, f)) : f = true ∧ ∃ ds, x = .lst ds ∧ ds.length < 64 ∧ ((∃ l, intsOf ds = some l ∧ d = .lst ((setI l).map .int)) ∨ (∃ k ks, tupsI ds = some (k :: ks) ∧ 1 ≤ k.length ∧ (k :: ks).all (goodT k.length) = true ∧ d = .lst ((setL (k :: ks)).map tupZ))) := by
  unfold sortSetD at h
  split at h
  · rename_i ds e
    have ex : x = .lst ds := by
      cases x <;> first | (cases e; done) | (cases e; rfl)
    subst ex
    split at h
    · rename_i hl
      split at h
      · cases h
        exact ⟨rfl, ds, rfl, hl, .inl ⟨_, by assumption, rfl⟩⟩
      · split at h
        · split at h
          · rename_i hc
            cases h
            simp only [Bool.and_eq_true, decide_eq_true_eq] at hc
            exact ⟨rfl, ds, rfl, hl, .inr ⟨_, _, by assumption, hc.1, hc.2, rfl⟩⟩
          · cases h
        · cases h
    · cases h
  · cases h
theorem n_srtSet {a : E} {x : Expr} {p p2 q pos : Pos} (c : Cok ck Γ cf k X) (hf : freeB ck X.env.scope "sorted" "sorted" = true) (hf2 : freeB ck X.env.scope "set" "set" = true) (ha : PEo X Γ cf x a) (hx : nStar x = true) :
    PEo X Γ cf (.Call (.Name "sorted" p) [.Call (.Name "set" p2) [x] [] q] [] pos) (.srtSet a) := by
  obtain ⟨_, g1, g2, m⟩ := free_of c hf
  obtain ⟨_, g3, g4, m2⟩ := free_of c hf2
  have hset := pe_callTy (pos := q) (p := p2) (CallR.or' (cr_setI (X := X) c.calm) (cr_setOfT c.calm c.u64)) g3 m2 (by decide +kernel) (pa_cons (toD ha) pa_nil (starEach_cons hx)) (by decide) (by decide) (starEach_cons hx) rfl
  refine PEimp (pe_callB (CallR.or' (cr_sortedSet c.calm) (cr_sortedT c.calm)) g1 m (by decide +kernel) (pa_cons hset pa_nil)) fun σ H Q ⟨Z, F, μ, ρ, st, d, f, ρ', st', r, ev, qq⟩ => ?_
  obtain ⟨x', fx, e1, e2⟩ := ev_srtSet ev
  obtain ⟨rfl, ds, rfl, hl, hcase⟩ := srt_cases e2
  refine ⟨Z, F, μ, ρ, st, _, fx, ρ', st', r, e1, fun F1 μ1 H1 v1 x1 r1 h1 => ?_⟩
  have h1' := h1
  simp only [RelD] at h1'
  obtain ⟨l, vs, rfl, hq, hv⟩ := h1'
  -- behind the set: a new list
  have fin : ∀ (a : Addr) (o : HO) (out : List V) (ds' : List D) (p : Addr), H1 a = none → RelDs (ghX X) F1 μ1 H1 ds' out → upd H1 a o p = none → d = .lst ds' → Q (.ref p) (upd (upd H1 a o) p (.lst out)) := by
    intro b o out ds' p hb hr hp ed
    subst ed
    have x2 : Ext Z F1 μ1 H1 F1 μ1 (upd H1 b o) := Ext.laid hb r1.zd r1.fd
    have r2 := r1.laid (o := o) hb
    obtain ⟨x3, r3, h3⟩ := Alc.done r2 (show Alc (ghX X) F1 μ1 (upd H1 b o) (.lst ds') true (.ref p) (upd (upd H1 b o) p (.lst out)) from .inr (.inr ⟨p, _, _, rfl, hp, rfl, rfl, rfl, hr.ext x2 _ _⟩))
    exact qq F1 μ1 _ _ ((x1.trans x2).trans x3) r3 h3
  rcases hcase with ⟨ns, e3, ed⟩ | ⟨k0, ks, e3, hk, hg, ed⟩
  · obtain ⟨rfl, rfl⟩ := relDs_ints e3 hv
    refine .inl ⟨l, ns, rfl, hq.sql, by simpa using hl, fun b cn hb hle => .inl ⟨b, _, cn, rfl, upd_same, ?_, fun out p hs hm hlen hp => ?_⟩⟩
    · rw [List.length_map] at hl
      omega
    · refine fin b _ _ _ p hb ?_ hp ed
      have e4 : out = setI ns := sorted_uniq hs (setI_sorted ns) fun k => by
        rw [hm k, mem_setI, decide_eq_true_iff]
      subst e4
      exact relDs_intMap _
  · obtain ⟨ps, rfl, e4, h5⟩ := tupsI_rel e3 hv
    have hall := allT_of hg
    refine .inr ⟨l, ps, rfl, hq.sql, fun p hp => .inl (.inl (h5 p hp)), ?_, fun b L hb h6 h7 => .inr ⟨b, L, k0.length, 1048576, rfl, upd_same, fun p hp => ?_, hk, fun p hp => ?_, fun L' p hp1 hnd h64 hsort hp => ?_⟩⟩
    · have := hv.length
      rw [List.length_map] at this
      omega
    · have x2 : Ext Z F1 μ1 H1 F1 μ1 (upd H1 b (SetTO X.prog X.w b L)) := Ext.laid hb r1.zd r1.fd
      exact .inl (.inl (x2.t _ _ (h5 p (h6 p hp))))
    · exact hall p.2 (by rw [← e4]; exact List.mem_map_of_mem (h6 p hp))
    · refine fin b _ _ ((L'.map (·.2)).map tupZ) p hb (relDs_tups L' fun p hp => h5 p (h6 p (hp1.mem_iff.mp hp))) hp ?_
      rw [ed]
      congr 1
      congr 1
      refine (setL_uniq hall (fun k => ?_) ?_ hnd).symm
      · rw [← e4]
        constructor
        · intro hk
          obtain ⟨p, hp, rfl⟩ := List.mem_map.mp hk
          exact List.mem_map_of_mem (h6 p (hp1.mem_iff.mp hp))
        · intro hk
          obtain ⟨p, hp, rfl⟩ := List.mem_map.mp hk
          obtain ⟨q, hq, e⟩ := List.mem_map.mp (h7 p hp)
          rw [← e]
          exact List.mem_map_of_mem (hp1.mem_iff.mpr hq)
      · rw [List.pairwise_map]
        exact hsort

theorem len_cases {x : D} {d : D} {f : Bool} (h : lenSetD x = some (d, f)) : f = false ∧ ∃ ds l, x = .lst ds ∧ ds.length < 64 ∧ intsOf ds = some l ∧ d = .int (dedupI l).length := by
  unfold lenSetD at h
  split at h
  · rename_i ds e
    have ex : x = .lst ds := by
      cases x <;> first | (cases e; done) | (cases e; rfl)
    subst ex
    split at h
    · split at h
      · cases h
        exact ⟨rfl, ds, _, rfl, by assumption, by assumption, rfl⟩
      · cases h
    · cases h
  · cases h
theorem met_dedup (ns : List Int) : PyProof.Rows.firstMet (fun i => ns.getD i 0) ns.length = dedupI ns := by
  have e : (List.range ns.length).map (fun i => ns.getD i 0) = ns := by
    apply List.ext_getElem
    · simp
    · intro i h1 h2
      simp [List.getD_eq_getElem?_getD, h2]
  unfold PyProof.Rows.firstMet dedupI
  rw [e]
  rfl
theorem dedup_le (ns : List Int) : (dedupI ns).length ≤ ns.length := by
  rw [← met_dedup]
  exact PyProof.Rows.firstMet_length_le _ _
theorem ints_map : ∀ {ds : List D} {l : List Int}, intsOf ds = some l → ds = l.map D.int
  | [], l, e => by
    simp only [intsOf, Option.some.injEq] at e
    subst e
    rfl
  | d :: ds, l, e => by
    cases d <;> first | (simp [intsOf] at e; done) | skip
    simp only [intsOf] at e
    obtain ⟨l', e', rfl⟩ := Option.map_eq_some_iff.mp e
    rw [ints_map e']
    rfl
theorem n_lenSet {a : E} {x : Expr} {p p2 q pos : Pos} (c : Cok ck Γ cf k X) (hf : freeB ck X.env.scope "len" "len" = true) (hf2 : freeB ck X.env.scope "set" "set" = true) (ha : PEo X Γ cf x a) (hx : nStar x = true) :
    PEo X Γ cf (.Call (.Name "len" p) [.Call (.Name "set" p2) [x] [] q] [] pos) (.lenSet a) := by
  obtain ⟨_, hg, g2, hm⟩ := free_of c hf
  obtain ⟨_, hg2, g4, hm2⟩ := free_of c hf2
  refine ⟨fun pins s σ H Q I h => ?_⟩
  obtain ⟨Z, F, μ, ρ, st, d, f, ρ', st', r, ev, qq⟩ := h
  obtain ⟨x', fx, e1, e2⟩ := ev_lenSet ev
  obtain ⟨rfl, ds, ns, rfl, hl, e3, rfl⟩ := len_cases e2
  have na : starEach [x] X.env = (false, eval x X.env) :: starEach [] X.env := starEach_cons hx
  refine Call_ (ld_blt I hg hm boot_len ?_)
  refine PyProof.Rows.callWith_builtin1 (PyProof.Rows.args_cons ?_ rfl) rfl rfl
  refine Call_ (ld_blt I hg2 hm2 boot_set ?_)
  refine PyProof.Rows.callWith_type1 (PyProof.Rows.args_cons (thn ((toD ha).run pins s σ H (fun v H1 => ∃ F1 μ1 l, v = .ref l ∧ SqL X.K H1 l (ns.map V.int) ∧ Ext Z F μ H F1 μ1 H1 ∧ R (ghX X) Z F1 μ1 ρ' st' σ H1) I ⟨Z, F, μ, ρ, st, _, fx, ρ', st', r, e1, fun F1 μ1 H1 v x1 r1 h1 => ?_⟩) fun v s1 ⟨x, H1, I1, r1, q1⟩ => PyProof.Rows.args_nil ?_) na) na rfl
  · obtain ⟨l, rfl, hq⟩ := rel_ints (.inl h1) e3
    exact ⟨F1, μ1, l, rfl, hq, x1, r1⟩
  · obtain ⟨F1, μ1, l, rfl, hq, x1, r2⟩ := q1
    cases r1
    obtain ⟨its, rv, pl, hz⟩ := I1.list hq
    have hlen : its.toArray.size = ns.length := by rw [List.size_toArray, ← rv.length, List.length_map]
    have hnl := ints_map e3
    · rw [hnl, List.length_map] at hl
      refine call_set_list (I1.ok.hd c.calm) pl.isList (by simpa using ints_of_vals rv) (by rw [hlen]; unfold scanBound; omega) fun h' tk hS hk => ?_
      refine PyProof.Rows.args_nil ?_
      rw [hlen, met_dedup] at hS
      obtain ⟨o, es, ep, t, ho, hex, hd, _, _, _, hf, hn⟩ := hS
      have I2 : Inv X pins σ H1 { s1 with heap := h', toks := tk } := I1.kept fun b o e => hk b o (Heap.lt_size e) e
      have hd2 := dedup_le ns
      exact call_len_set ho hex hd hf (by rw [hn]; omega) ⟨.int (dedupI ns).length, H1, I2.tok _, ⟨_, by rw [hn]⟩, qq F1 μ1 H1 _ x1 r2 (.val rfl relInt)⟩
end
end Rv

set_option Elab.async false
set_option linter.all false
set_option maxRecDepth 100000
set_option maxHeartbeats 8000000
/-! len({a, b, ..}). -/
namespace Rv
open PySem PySem.Spec PyProof.Rows L2
section
variable {P : Program} {w : World} {A : Around} {E : Value → Shared → Prop} {s : Shared} {D0 : Addr}
theorem unledI {S : Int → Bool} {n : Nat} {Q : Unit → Shared → Prop} (hS : s.heap.SetOf (intKind P w) D0 S n) (h : ∀ h', h'.SetOf (intKind P w) D0 S n → (∀ b o, b ≠ D0 → s.heap.get? b = some o → h'.get? b = some o) → Q () { s with heap := h' }) :
    wpAny (model P w) A (setUnled D0) Q E s := by
  obtain ⟨o, es, ep, t, ho, hex, hd, hel, hmem, hb, hf, hn⟩ := hS
  have hf' : ({ t with led := false } : SetTable).fits es.size = true := by cases t; exact hf
  unfold setUnled
  refine wpAny_bind (wpAny_setState_of ho hd hf ?_)
  dsimp only
  refine wpAny_storeSet_of ho hd ?_ (fits_of_scanBound hb)
  obtain ⟨_, hS⟩ := SetOf_store (knd := intKind P w) ho hex hd hel hmem hb hf'
  rw [hn] at hS
  have sb := Heap.SameBut.update s.heap D0 (Obj.putSet es { t with led := false })
  exact h _ hS fun b o hb e => (sb.2 b hb).trans e
theorem any_mem (acc : List Int) (i : Int) : acc.any (· == i) = decide (i ∈ acc) := by
  rw [Bool.eq_iff_iff, List.any_eq_true, decide_eq_true_iff]
  exact ⟨fun ⟨x, h, e⟩ => by rw [beq_iff_eq] at e; rw [← e]; exact h, fun h => ⟨i, h, beq_self_eq_true i⟩⟩
theorem fill_ints {u : Bool} {h₀ : Heap} : ∀ (l : List Int) (us : List Value), IntsAre us l → ∀ (h : Heap) (k : Nat) (acc : List Int) (Q : Value → Shared → Prop), h.SetOf (intKind P w) D0 (fun j => decide (j ∈ acc)) acc.length →
    (∀ b o, b ≠ D0 → h₀.get? b = some o → h.get? b = some o) → acc.length + l.length < 4000 →
    (∀ h' k', h'.SetOf (intKind P w) D0 (fun j => decide (j ∈ l.foldl addI acc)) (l.foldl addI acc).length → (∀ b o, b ≠ D0 → h₀.get? b = some o → h'.get? b = some o) → PySem.W.KdsFill (model P w) A E u D0 Q [] { s with heap := h', toks := k' }) →
    PySem.W.KdsFill (model P w) A E u D0 Q us { s with heap := h, toks := k }
  | [], us, r, h, k, acc, Q, hS, hk, hn, q => by
    cases r
    exact q h k hS hk
  | i :: l, us, r, h, k, acc, Q, hS, hk, hn, q => by
    cases r with
    | cons _ t r =>
      rw [List.length_cons] at hn
      refine PySem.W.kds_fill_cons ?_
      unfold setAdd
      refine wpAny_holding (wpAny_bind ((intKind P w).pyHash (k := i) (intKind_is _ _ _ _) ?_))
      refine wpAny_setAddHashed_of (knd := intKind P w) (s := { s with heap := h, toks := k + 1 }) (intKind_is _ _ _ _) rfl hS (by unfold scanBound; omega) fun h' sb hS' => ?_
      have hS2 : h'.SetOf (intKind P w) D0 (fun j => decide (j ∈ addI acc i)) (addI acc i).length := by
        refine SetOf_congr hS' (fun j => ?_) ?_
        · unfold addI
          rw [any_mem]
          by_cases e : i ∈ acc
          · simp only [e, decide_true, if_true]
            by_cases e2 : j = i
            · subst e2; simp [e]
            · simp [e2]
          · simp [e]
        · unfold addI
          rw [any_mem]
          by_cases e : i ∈ acc
          · simp [e]
          · simp [e]
      refine fill_ints l _ r h' (k + 1) (addI acc i) Q hS2 (fun b o hb e => (sb.2 b hb).trans (hk b o hb e)) ?_ q
      unfold addI
      split
      · omega
      · rw [List.length_append, List.length_singleton]
        omega
end
section
variable {ck : Ck} {Γ : Tab} {cf : Str → List D → St → Option (D × Bool × St)} {k : Nat} {X : Cx}
/-- each of the expressions -/
def PEs (X : Cx) (Γ : Tab) (cf : Str → List D → St → Option (D × Bool × St)) : List Expr → List E → Prop
  | [], [] => True
  | x :: xs, e :: es => PEo X Γ cf x e ∧ PEs X Γ cf xs es
  | _, _ => False
theorem kds_run {σ : L2.St} {pins : List (Addr × Obj)} : ∀ (xs : List Expr) (es : List E) {Z F : Addr → Prop} {μ : List Addr} {ρ ρ' : Ss} {st st' : List D} {H : Hp} {s : Shared} {ds : List D} {Qv : List Value → Shared → Prop}, PEs X Γ cf xs es → es.all nStE = true → R (ghX X) Z F μ ρ st σ H → L2.Inv X pins σ H s →
    evL Γ cf es ρ st = some (ds, ρ', st') → (∀ F' μ' H' vs us s', Ext Z F μ H F' μ' H' → R (ghX X) Z F' μ' ρ' st' σ H' → RelDs (ghX X) F' μ' H' ds vs → Vals vs us → L2.Inv X pins σ H' s' → Qv us s') →
    PySem.W.KdsAll (model X.prog X.w) X.A X.xe X.env xs Qv s
  | [], [], Z, F, μ, ρ, ρ', st, st', H, s, ds, Qv, _, _, r, I, ev, q => by
    simp only [evL, Option.some.injEq, Prod.mk.injEq] at ev
    obtain ⟨rfl, rfl, rfl⟩ := ev
    exact q F μ H [] [] s .refl r .nil .nil I
  | x :: xs, e :: es, Z, F, μ, ρ, ρ', st, st', H, s, ds, Qv, h, hn, r, I, ev, q => by
    simp only [List.all_cons, Bool.and_eq_true] at hn
    obtain ⟨d, fd, ρ1, st1, ds1, e1, e2, rfl⟩ := ev_cons (nStE_of hn.1) ev
    show wpAny _ X.A (eval x X.env) (fun v s' => PySem.W.KdsAll (model X.prog X.w) X.A X.xe X.env xs (fun vs => Qv (v :: vs)) s') X.xe s
    refine thn ((toD h.1).run pins s σ H (fun v H1 => ∃ F1 μ1, Ext Z F μ H F1 μ1 H1 ∧ R (ghX X) Z F1 μ1 ρ1 st1 σ H1 ∧ RelD (ghX X) F1 μ1 H1 d v) I ⟨Z, F, μ, ρ, st, d, fd, ρ1, st1, r, e1, fun F1 μ1 H1 v x1 r1 h1 => ⟨F1, μ1, x1, r1, h1⟩⟩) fun u s1 ⟨v, H1, I1, rv, F1, μ1, x1, r1, h1⟩ => ?_
    refine kds_run xs es h.2 hn.2 r1 I1 e2 fun F2 μ2 H2 vs us s2 x2 r2 h2 rvs I2 => ?_
    exact q F2 μ2 H2 (v :: vs) (u :: us) s2 (x1.trans x2) r2 (.cons (h1.ext x2 _ _) h2) (.cons rv rvs) I2
  | [], _ :: _, _, _, _, _, _, _, _, _, _, _, _, h, _, _, _, _, _ => h.elim
  | _ :: _, [], _, _, _, _, _, _, _, _, _, _, _, h, _, _, _, _, _ => h.elim
theorem PEs.len : ∀ {xs : List Expr} {es : List E}, PEs X Γ cf xs es → xs.length = es.length
  | [], [], _ => rfl
  | _ :: _, _ :: _, h => by rw [List.length_cons, List.length_cons, PEs.len h.2]
  | [], _ :: _, h => h.elim
  | _ :: _, [], h => h.elim
theorem ev_lenset {es : List E} {ρ ρ' : Ss} {st st' : St} {d : D} {f : Bool} (h : evE Γ cf (.lenset es) ρ st = some (d, f, ρ', st')) : ∃ ds l, evL Γ cf es ρ st = some (ds, ρ', st') ∧ intsOf ds = some l ∧ d = .int (dedupI l).length ∧ f = false ∧ es.length ≤ 30 := by
  simp only [evE] at h
  split at h
  · split at h
    · split at h
      · cases h
        exact ⟨_, _, by assumption, by assumption, rfl, rfl, by assumption⟩
      · cases h
    · cases h
  · cases h
theorem plain_ns {xs : List Expr} (h : xs.all nStar = true) : xs.all PySem.W.kdsPlain = true := by
  rw [List.all_eq_true] at h ⊢
  intro x hx
  have := h x hx
  cases x <;> first | rfl | cases this
theorem n_lenset {es : List E} {xs : List Expr} {p q pos : Pos} (c : Cok ck Γ cf k X) (hf : freeB ck X.env.scope "len" "len" = true) (h : PEs X Γ cf xs es) (hn : xs.all nStar = true) (hne : es.all nStE = true) :
    PEo X Γ cf (.Call (.Name "len" p) [.Set xs 0 q] [] pos) (.lenset es) := by
  obtain ⟨_, hg, g2, hm⟩ := free_of c hf
  refine ⟨fun pins s σ H Q I hq => ?_⟩
  obtain ⟨Z, F, μ, ρ, st, d, f, ρ', st', r, ev, qq⟩ := hq
  obtain ⟨ds, l, e1, e2, rfl, rfl, e30⟩ := ev_lenset ev
  have hlen := h.len
  refine Call_ (ld_blt I hg hm boot_len ?_)
  refine PyProof.Rows.callWith_builtin1 (PyProof.Rows.args_cons ?_ rfl) rfl rfl
  rw [arm_eval_Set]
  refine wpAny_bind (wpAny_standAt ?_)
  refine wpAny_bind (PySem.W.kds_main I.kIn c.code fun b => ?_)
  rw [PySem.W.kds_star xs (plain_ns hn), List.map_map]
  refine PySem.W.kds_core (ts := (evalEach xs X.env).map fun t => do let v ← t; standAt q; pure v) (road0 xs) ?_ ?_ ?_ fun led => ?_
  · refine List.findIdx?_eq_none_iff.mpr fun x hx => ?_
    obtain ⟨t, _, rfl⟩ := List.mem_map.mp hx
    rfl
  · rw [List.length_map, PySem.W.kds_len, hlen]
    exact e30
  · rw [List.map_map]
    try rfl
  · have hD : (s.heap.push { cls := .type "set", dict := none, data := .set #[] 0 (.fresh 0 0 led) }).get? s.heap.objs.size = some { cls := .type "set", dict := none, data := .set #[] 0 (.fresh 0 0 led) } := Heap.get?_push_size _ rfl
    have I1 : L2.Inv X pins σ H { s with heap := s.heap.push { cls := .type "set", dict := none, data := .set #[] 0 (.fresh 0 0 led) } } := I.kept (t' := s.toks) fun b u e => Heap.get?_push_of_some _ e
    have fp := I.fpOk (Nat.le_refl _) (I.hok.fresh (Nat.le_refl s.heap.objs.size))
    have I2 := I1.pinned (fp := [s.heap.objs.size]) (fun b hb => by rw [List.mem_singleton.mp hb]; exact fp) (fun b hb => by rw [List.mem_singleton.mp hb]; exact ⟨_, hD, fun v z => by cases z⟩)
    refine PySem.W.kds_all q xs _ _ (kds_run xs es h hne r I2 e1 fun F' μ' H' vs us s' x1 r1 h1 rv I3 => ?_)
    obtain ⟨rfl, rfl⟩ := relDs_ints e2 h1
    obtain ⟨hD', hH', _⟩ := I3.pin (s.heap.objs.size, _) (List.mem_append_right _ (List.mem_append_right _ (mem_pinsAt (by simp) hD)))
    have I4 := I3.unpinned
    refine fill_ints (s := s') (h₀ := s'.heap) l us (ints_of_vals rv) s'.heap s'.toks [] _ ((setObjOf_fresh (knd := intKind X.prog X.w) led).setOf hD' (by decide)) (fun b o _ e => e) ?_ fun h' k' hS hk => ?_
    · have hl2 := ev_len (fun e he => nStE_of (List.all_eq_true.mp hne e he)) e1
      rw [List.length_map] at hl2
      rw [List.length_nil]
      omega
    · have fin : ∀ h2 : Heap, h2.SetOf (intKind X.prog X.w) s.heap.objs.size (fun j => decide (j ∈ dedupI l)) (dedupI l).length → (∀ b o, b ≠ s.heap.objs.size → s'.heap.get? b = some o → h2.get? b = some o) →
          wpAny (model X.prog X.w) X.A (spliced (backTo pos (starEach [] X.env))) (fun us s2 => wpAny (model X.prog X.w) X.A (call (.builtin "len") (Value.ref s.heap.objs.size :: us)) (EP X pins σ Q) X.xe s2) X.xe { s' with heap := h2, toks := k' } := by
        intro h2 hS2 hk2
        refine PyProof.Rows.args_nil ?_
        obtain ⟨o, es', ep, t, ho, hex, hd, _, _, hb, hf, hn⟩ := hS2
        have I5 : L2.Inv X pins σ H' { s' with heap := h2, toks := k' } := I4.turnedL (ch := [s.heap.objs.size]) (fun b o hb e => hk2 b o (by simpa using hb) e) fun b hb => by
          rw [List.mem_singleton.mp hb]
          exact ⟨hH', fp.2⟩
        exact call_len_set ho hex hd hf (by unfold scanBound at hb; omega) ⟨.int (dedupI l).length, H', I5.tok _, ⟨_, by rw [hn]⟩, qq F' μ' H' _ x1 r1 (.val rfl relInt)⟩
      cases hu : (displayRoad 0 xs == DisplayRoad.unsure) with
      | false => exact PySem.W.kds_fill_nil rfl (fin h' hS hk)
      | true => exact PySem.W.kds_fill_unled rfl (unledI (s := { s' with heap := h', toks := k' }) hS fun h2 hS2 sb => fin h2 hS2 fun b o hb e => sb b o hb (hk b o hb e))
end
end Rv

set_option Elab.async false
set_option linter.all false
set_option maxRecDepth 100000
set_option maxHeartbeats 8000000
/-! What the check gives: every expression. -/
namespace Rv
open PySem PySem.Spec PyProof.Rows L2
section
variable {g : Gh} {Z F : Addr → Prop} {μ : List Addr} {ρ : Ss} {st : List D} {σ : L2.St} {H : Hp}
/-- the content of an own list or dict is written -/
theorem R.store {i : Nat} {c c' : D} {ρ' : Ss} {st' : List D} (r : R g Z F μ ρ st σ H) (h : ownD ρ st i = some c) (e : setOwn ρ st i c' = some (ρ', st')) :
    ∃ a, σ[i]? = some (some (.ref a)) ∧ ContR g F μ H a c ∧ ¬F a ∧ ∀ o, (Ext Z F μ H F μ (upd H a o) → ContR g F μ (upd H a o) a c') → Ext Z F μ H F μ (upd H a o) ∧ R g Z F μ ρ' st' σ (upd H a o) := by
  have mkx : ∀ {a : Addr} {o : HO}, ¬Z a → ¬F a → Mut (H a) → Ext Z F μ H F μ (upd H a o) := by
    intro a o nz nf mu
    refine ⟨fun b h => upd_ne fun e => nz (by rw [← e]; exact h), fun _ _ h => h, fun b h => ⟨h, upd_ne fun e => nf (by rw [← e]; exact h)⟩, fun b xs h => ?_, fun b o u h => ?_, [], by simp⟩
    · rw [upd_ne fun e => ?_]
      · exact h
      · subst e; rw [h] at mu; exact mu
    · rw [upd_ne fun e => ?_]
      · exact h
      · subst e; rw [h] at mu; exact mu
  unfold ownD at h
  unfold setOwn at e
  split at h
  · rename_i n hs
    rw [hs] at e
    simp only [Option.some.injEq, Prod.mk.injEq] at e
    obtain ⟨rfl, rfl⟩ := e
    obtain ⟨v, e1, hv⟩ := r.val i _ hs
    simp only [RelD] at hv
    obtain ⟨a, rfl, ha⟩ := hv
    obtain ⟨a', e2, q⟩ := r.sto n c h
    rw [ha] at e2
    cases e2
    have hm := List.mem_of_getElem? ha
    obtain ⟨nf, nz⟩ := r.mo a hm
    refine ⟨a, e1, q, nf, fun o ho => ?_⟩
    have x := mkx (o := o) nz nf q.some.2.2.2
    refine ⟨x, r.len, fun j d hj => ?_, fun j d hj => ?_, r.apart, fun m d hm' => ?_, by rw [List.length_set]; exact r.stl, r.nd, r.mo, fun b hb => ?_, fun b hb => ?_⟩
    · obtain ⟨v, e3, q3⟩ := r.val j d hj
      exact ⟨v, e3, q3.ext x _ _⟩
    · obtain ⟨b, e3, q3, nf3, nz3, nm3⟩ := r.own j d hj
      exact ⟨b, e3, q3.ext x (upd_ne fun e => nm3 (e ▸ hm)), nf3, nz3, nm3⟩
    · rw [List.getElem?_set] at hm'
      split at hm'
      · rename_i en
        subst en
        split at hm'
        · cases hm'
          exact ⟨a, ha, ho x⟩
        · cases hm'
      · rename_i en
        obtain ⟨b, e3, q3⟩ := r.sto m d hm'
        refine ⟨b, e3, q3.ext x (upd_ne fun eb => en ?_)⟩
        subst eb
        have h1 := (List.getElem?_eq_some_iff.mp ha)
        have h2 := (List.getElem?_eq_some_iff.mp e3)
        obtain ⟨l1, g1⟩ := h1
        obtain ⟨l2, g2⟩ := h2
        exact (List.getElem_inj r.nd).mp (g1.trans g2.symm)
    · by_cases eb : b = a
      · subst eb
        rw [upd_same]
        simp
      · rw [upd_ne eb]; exact r.fd b hb
    · by_cases eb : b = a
      · subst eb
        rw [upd_same]
        simp
      · rw [upd_ne eb]; exact r.zd b hb
  · rename_i d hs
    cases h
    rw [hs] at e
    simp only [Option.some.injEq, Prod.mk.injEq] at e
    obtain ⟨rfl, rfl⟩ := e
    obtain ⟨a, e1, q, nf, nz, nm⟩ := r.own i _ hs
    refine ⟨a, e1, q, nf, fun o ho => ?_⟩
    have x := mkx (o := o) nz nf q.some.2.2.2
    refine ⟨x, by rw [List.length_set]; exact r.len, fun j d hj => ?_, fun j d hj => ?_, fun j l d e b hj hl ej el => ?_, fun m d hm' => ?_, r.stl, r.nd, r.mo, fun b hb => ?_, fun b hb => ?_⟩
    · rcases getS hj with ⟨_, e, _⟩ | ⟨_, hj⟩
      · cases e
      · obtain ⟨v, e3, q3⟩ := r.val j d hj
        exact ⟨v, e3, q3.ext x _ _⟩
    · rcases getS hj with ⟨rfl, e, _⟩ | ⟨ne, hj⟩
      · cases e
        exact ⟨a, e1, ho x, nf, nz, nm⟩
      · obtain ⟨b, e3, q3, nf3, nz3, nm3⟩ := r.own j d hj
        refine ⟨b, e3, q3.ext x (upd_ne fun eb => ?_), nf3, nz3, nm3⟩
        subst eb
        exact ne (r.apart i j _ _ b hs hj e1 e3)
    · have hj' : ∃ d', ρ[j]? = some (.own d') := by
        rcases getS hj with ⟨rfl, _, _⟩ | ⟨_, hj⟩
        · exact ⟨_, hs⟩
        · exact ⟨_, hj⟩
      have hl' : ∃ d', ρ[l]? = some (.own d') := by
        rcases getS hl with ⟨rfl, _, _⟩ | ⟨_, hl⟩
        · exact ⟨_, hs⟩
        · exact ⟨_, hl⟩
      obtain ⟨d1, h1⟩ := hj'
      obtain ⟨d2, h2⟩ := hl'
      exact r.apart j l d1 d2 b h1 h2 ej el
    · obtain ⟨b, e3, q3⟩ := r.sto m d hm'
      exact ⟨b, e3, q3.ext x (upd_ne fun eb => nm (eb ▸ List.mem_of_getElem? e3))⟩
    · by_cases eb : b = a
      · subst eb
        rw [upd_same]
        simp
      · rw [upd_ne eb]; exact r.fd b hb
    · by_cases eb : b = a
      · subst eb
        rw [upd_same]
        simp
      · rw [upd_ne eb]; exact r.zd b hb
  · cases h
end

section
variable {ck : Ck} {Γ : Tab} {cf : Str → List D → St → Option (D × Bool × St)} {k : Nat} {X : Cx}
/-- what stands at a behind a store -/
def Behind (g : Gh) (F : Addr → Prop) (μ : List Addr) (H : Hp) (a : Addr) (c' : D) (ob : HO) : Prop :=
  ∀ (F' : Addr → Prop) (μ' : List Addr) (H' : Hp), (∀ d v, RelD g F μ H d v → RelD g F' μ' H' d v) → H' a = some ob → ContR g F' μ' H' a c'
theorem relDs_all {g : Gh} {F F' : Addr → Prop} {μ μ' : List Addr} {H H' : Hp} (h : ∀ d v, RelD g F μ H d v → RelD g F' μ' H' d v) : ∀ {ds : List D} {vs : List V}, RelDs g F μ H ds vs → RelDs g F' μ' H' ds vs
  | [], vs, q => by simp only [RelDs] at q ⊢; exact q
  | d :: ds, vs, q => by
    simp only [RelDs] at q
    obtain ⟨v, r, rfl, q1, q2⟩ := q
    exact .cons (h d v q1) (relDs_all h q2)
def rPut (g : Gh) : TSet := fun o i v H Q => ∃ F μ a c y x c', o = .ref a ∧ ContR g F μ H a c ∧ RelD g F μ H y i ∧ RelD g F μ H x v ∧ putD c y x = some c' ∧ ∀ ob, Behind g F μ H a c' ob → Q (upd H a ob)
theorem set_put (c : Cok ck Γ cf k X) : PSet X (rPut (ghX X)) := by
  intro pins s σ H o i v ov iv u Q I ro ri rv ⟨F, μ, a, ct, y, x, c', eo, hc, hy, hx, e, q⟩
  subst eo
  cases ct <;> first | (simp [ContR] at hc; done) | skip
  · rename_i ds
    cases y <;> first | (simp [putD] at e; done) | skip
    rename_i n
    simp only [RelD] at hy
    subst hy
    obtain ⟨vs, hl, hv⟩ := hc
    have hlen := hv.length
    have fin : ∀ j : Nat, c' = .lst (ds.set j x) → ixN vs.length n = some j → wpAny (model X.prog X.w) X.A (setItem ov iv u) (fun _ s' => ∃ H', L2.Inv X pins σ H' s' ∧ Q H') X.xe s := by
      intro j ej hj
      refine set_list pins s σ H _ _ v ov iv u Q I ro ri rv ⟨a, vs, n, j, rfl, rfl, hl, hj, q _ fun F' μ' H' hr hH => ?_⟩
      rw [ej]
      exact ⟨_, hH, RelDs.set (hr x v hx) j (relDs_all hr hv)⟩
    simp only [putD] at e
    split at e
    · rename_i hn
      simp only [Option.some.injEq] at e
      refine fin n.toNat e.symm ?_
      unfold ixN
      rw [← hlen]
      simp only [hn.1, hn.2, and_self, if_true]
    · split at e
      · rename_i hn0 hn
        simp only [Option.some.injEq] at e
        refine fin (n + ds.length).toNat e.symm ?_
        unfold ixN
        rw [← hlen, if_neg (by omega), if_pos hn.2]
      · cases e
  · rename_i ks vs
    obtain ⟨kv, ws, h1, h2, keys, rfl, hl, hH⟩ := hc
    have e : okKey y = true ∧ ks.length < lim ∧ c' = .dic (dPut ks vs y x).1 (dPut ks vs y x).2 := by
      cases y <;> simp [putD, okKey] at e ⊢ <;> exact ⟨e.1, e.2.symm⟩
    obtain ⟨ok, hlim, rfl⟩ := e
    obtain ⟨kk, rfl, rfl⟩ := key_of' ok hy
    have hk := keys_rel h1
    subst hk
    obtain ⟨keys', ws', g1, g2, g3, g4⟩ := dic_put (k := kk) hl h2 hx
    refine set_dict c.u1 pins s σ H _ _ v ov iv u Q I ro ri rv ⟨a, _, rfl, .inl ⟨_, kk, hH, rfl, ?_, rfl⟩, q _ fun F' μ' H' hr hH' => ?_⟩
    · rw [List.length_zip, ← hl, Nat.min_self, ← lim_line]
      simpa using hlim
    · obtain ⟨keys2, ws2, q1, q2, q3, q4⟩ := dic_put (g := ghX X) (F := F') (μ := μ') (H := H') (k := kk) hl (relDs_all hr h2) (hr x v hx)
      refine ⟨keys2.map kV, ws2, ?_, q3, keys2, rfl, q1, ?_⟩
      · rw [q2]
        exact rel_keys keys2
      · rw [hH', q4]

theorem ev_tix {i : Nat} {a : E} {d : D} {ρ ρ' : Ss} {st st' : St} (h : evT Γ cf (.idxO i a) d ρ st = some (ρ', st')) : ∃ x0 x fx ρ1 st1 c c', slotD ρ st i = some x0 ∧ evE Γ cf a ρ st = some (x, fx, ρ1, st1) ∧ ownD ρ1 st1 i = some c ∧ putD c x d = some c' ∧ setOwn ρ1 st1 i c' = some (ρ', st') := by
  simp only [evT] at h
  split at h
  · cases h
  · rename_i x0 e0
    split at h
    · rename_i x fx ρ1 st1 e1
      split at h
      · rename_i c e2
        split at h
        · rename_i c' e3
          exact ⟨x0, x, fx, ρ1, st1, c, c', e0, e1, e2, e3, h⟩
        · cases h
      · cases h
    · cases h
theorem g_idxO {i : Nat} {a : E} {y : Str} {s : Expr} {p pos : Pos} (c : Cok ck Γ cf k X) (hs : slotB ck X.env.scope i y = true) (ha : PEo X Γ cf s a) (hp : plainIx s = true) : PG X (.Subscript (.Name y p) s pos) (TG_ (ghX X) Γ cf (.idxO i a)) := by
  refine PGimp (pg_sub (slot_pe c hs) (toD ha) (set_put c) (by intro v; cases s <;> first | rfl | cases hp)) fun v σ H Q ⟨Z, F, μ, ρ, st, d, ρ', st', r, hv, ev, q⟩ => ?_
  obtain ⟨x0, x, fx, ρ1, st1, ct, c', e0, e1, e2, e3, e4⟩ := ev_tix ev
  obtain ⟨o, ho⟩ := r.slotv e0
  refine ⟨o, ho, Z, F, μ, ρ, st, x, fx, ρ1, st1, r, e1, fun F1 μ1 H1 kv x1 r1 hk => ?_⟩
  obtain ⟨b, hb, hcb, nf, hst⟩ := r1.store e2 e4
  rw [ho] at hb
  cases hb
  refine ⟨F1, μ1, b, ct, x, d, c', rfl, hcb, hk, hv.ext x1 _ _, e3, fun ob hob => ?_⟩
  obtain ⟨x2, r2⟩ := hst ob fun x2 => hob F1 μ1 _ (fun d v h => h.ext x2 _ _) upd_same
  exact q F1 μ1 _ σ (x1.trans x2) r2 fun _ _ => rfl
end
end Rv

set_option Elab.async false
set_option linter.all false
set_option maxRecDepth 100000
set_option maxHeartbeats 16000000
/-! What the check gives: every expression, by recursion. -/
namespace Rv
open PySem PySem.Spec PyProof.Rows L2
section
variable {ck : Ck} {Γ : Tab} {cf : Str → List D → St → Option (D × Bool × St)} {k : Nat}
abbrev Both (X : Cx) (Γ : Tab) (cf : Str → List D → St → Option (D × Bool × St)) (x : Expr) (e : E) : Prop := PEo X Γ cf x e ∧ PTo X Γ cf x e
abbrev Boths (X : Cx) (Γ : Tab) (cf : Str → List D → St → Option (D × Bool × St)) (xs : List Expr) (es : List E) : Prop := PySem.W.EachIs (fun x e => Both X Γ cf x e) xs es
theorem both_of {X : Cx} {x : Expr} {e : E} (h : PEo X Γ cf x e) (hp : plainT x = true) : Both X Γ cf x e := ⟨h, toT h hp⟩
theorem Boths.pes {X : Cx} : ∀ {xs : List Expr} {es : List E}, Boths X Γ cf xs es → PEs X Γ cf xs es
  | [], [], _ => trivial
  | x :: xs, e :: es, h => by
    cases h with
    | cons a b => exact ⟨a.1, Boths.pes b⟩
  | [], _ :: _, h => by cases h
  | _ :: _, [], h => by cases h
theorem Boths.plo {X : Cx} : ∀ {xs : List Expr} {es : List E}, Boths X Γ cf xs es → xs.all nStar = true → es.all nStE = true → PLo X Γ cf xs es
  | [], [], _, _, _ => l_nil
  | x :: xs, e :: es, h, h1, h2 => by
    simp only [List.all_cons, Bool.and_eq_true] at h1 h2
    cases h with
    | cons a b => exact l_cons h1.1 (nStE_of h2.1) a.1 (Boths.plo b h1.2 h2.2)
  | [], _ :: _, h, _, _ => by cases h
  | _ :: _, [], h, _, _ => by cases h
theorem Boths.pk {X : Cx} : ∀ {kws : List Keyword} {es : List E}, Boths X Γ cf (kws.map (·.value)) es → es.all nStE = true → PK X kws (TL_ (ghX X) Γ cf es)
  | [], [], _, _ => k_nil
  | ⟨xa, xv, xp⟩ :: xs, e :: es, h, h2 => by
    simp only [List.all_cons, Bool.and_eq_true] at h2
    cases h with
    | cons a b => exact k_cons (nStE_of h2.1) a.1 (Boths.pk b h2.2)
  | [], _ :: _, h, _ => by cases h
  | _ :: _, [], h, _ => by cases h
theorem Boths.len {X : Cx} {xs : List Expr} {es : List E} (h : Boths X Γ cf xs es) : xs.length = es.length := by
  induction h with
  | nil => rfl
  | cons _ _ ih => simp [ih]
theorem Boths.pps {X : Cx} {pos : Pos} : ∀ {keys : List (Option Expr)} {values : List Expr} {kvs : List E}, Boths X Γ cf (flatKV keys values) kvs → keys.all (·.isSome) = true → keys.length = values.length → PPs X pos keys values ((pairsE kvs).map fun p => (TD_ (ghX X) Γ cf p.1, TD_ (ghX X) Γ cf p.2))
  | [], [], kvs, h, _, _ => by
    cases h
    exact pps_nil
  | [], _ :: _, _, _, _, h => by simp at h
  | _ :: _, [], _, _, _, h => by simp at h
  | none :: _, _ :: _, _, _, h, _ => by simp at h
  | some x :: ks, y :: vs, kvs, h, h1, h2 => by
    simp only [flatKV] at h
    cases h with
    | cons a b =>
      cases b with
      | cons b c =>
        simp only [List.all_cons, Bool.and_eq_true] at h1
        exact pps_cons (toD a.1) (toD b.1) (Boths.pps c h1.2 (by simpa using h2))
theorem Boths.ifs {X : Cx} {xs : List Expr} {es : List E} (h : Boths X Γ cf xs es) (hl : es.length ≤ 1) : PTs X xs (TI_ (ghX X) Γ cf es) := by
  cases h with
  | nil => exact ts_nil
  | cons a b =>
    cases b with
    | nil => exact ts_one a.2
    | cons _ _ => simp at hl
theorem vars_of {l vars : List Nat} (h : subB l vars = true) : ∀ i ∈ l, i ∈ vars := by
  intro i hi
  have := List.all_eq_true.mp h i hi
  simpa using this
theorem tg_of {X : Cx} {fn : Str → Bool} {y : Str} (h : tgB fn X.env.scope y = true) (hf : ∀ y, fn y = true → X.fn y = true) : TgOk X y := by
  unfold tgB at h
  simp only [Bool.and_eq_true, Bool.or_eq_true, decide_eq_true_eq] at h
  exact ⟨loc_of h.1, h.2.elim (fun z => .inl (hf y z)) .inr⟩
theorem toT_un {X : Cx} {op : UnaryOp} {x : Expr} {pos : Pos} {e : E} (h : PEo X Γ cf (.UnaryOp op x pos) e) (hop : op = .USub ∨ op = .Invert := by first | exact .inl rfl | exact .inr rfl) : PTo X Γ cf (.UnaryOp op x pos) e := by
  refine PTimp (pt_val (toD h) ?_) fun σ H Q ⟨Z, F, μ, ρ, st, b, f, ρ', st', r, ev, q⟩ => ?_
  · intro whole
    rcases hop with rfl | rfl <;> rfl
  · refine ⟨Z, F, μ, ρ, st, _, f, ρ', st', r, ev, fun F' μ' H' v x r' hv => ?_⟩
    simp only [RelD] at hv
    exact ⟨b, hv, q F' μ' H' x r'⟩
theorem i_it {X : Cx} {tg e : Expr} {ir : E} (h : PEo X Γ cf e ir) : PIo X Γ cf tg e (.it ir) := by
  have h1 := i_val (tg := tg) h
  refine ⟨fun pins s σ H Rq I hq => h1.run pins s σ H Rq I ?_⟩
  obtain ⟨Z, F, μ, ρ, st, x, f, ρ', st', ds, r, ev, ei, q⟩ := hq
  simp only [evE] at ev
  exact ⟨Z, F, μ, ρ, st, x, f, ρ', st', ds, r, ev, ei, q⟩
end

section
variable {ck : Ck} {Γ : Tab} {cf : Str → List D → St → Option (D × Bool × St)} {k : Nat}
theorem lo_pe {X : Cx} {x : E} {l : Option Expr} (h : (match x with | .omit => l.isNone | _ => match l with | some q => cE ck x X.env.scope q | none => false) = true) (hx : ∀ q : Expr, cE ck x X.env.scope q = true → PEo X Γ cf q x) : PO X l (TP_ (ghX X) Γ cf x) := by
  cases l with
  | none => cases x <;> first | exact p_omit | (cases h; done)
  | some q =>
    have hn : x ≠ .omit := by
      intro e
      subst e
      cases h
    have h' : cE ck x X.env.scope q = true := by
      cases x <;> first | exact absurd rfl hn | exact h
    exact p_some hn (hx q h')
mutual
theorem sE : ∀ (ir : E) (X : Cx) (e : Expr), Cok ck Γ cf k X → cE ck ir X.env.scope e = true → Both X Γ cf e ir
  | .lit d, X, e, c, h => by
    obtain ⟨h1, h2⟩ := n_lit c h
    exact both_of h1 h2
  | .gc x, X, e, c, h => by
    obtain ⟨h1, h2⟩ := n_gc c h
    exact both_of h1 h2
  | .var i, X, e, c, h => by
    obtain ⟨h1, h2⟩ := n_var c h
    exact both_of h1 h2
  | .mv i, X, e, c, h => by
    obtain ⟨h1, h2⟩ := n_mv c h
    exact both_of h1 h2
  | .bin o a b, X, e, c, h => by
    simp only [cE] at h
    split at h <;> first | (cases h; done) | skip
    simp only [Bool.and_eq_true, decide_eq_true_eq] at h
    obtain ⟨⟨rfl, h1⟩, h2⟩ := h
    exact both_of (n_bin (sE a X _ c h1).1 (sE b X _ c h2).1) rfl
  | .neg a, X, e, c, h => by
    simp only [cE] at h
    split at h <;> first | (cases h; done) | skip
    rename_i x pos
    have h1 : PEo X Γ cf (.UnaryOp .USub x pos) (.neg a) := n_neg (sE a X _ c h).1
    exact ⟨h1, toT_un h1⟩
  | .inv a, X, e, c, h => by
    simp only [cE] at h
    split at h <;> first | (cases h; done) | skip
    rename_i x pos
    have h1 : PEo X Γ cf (.UnaryOp .Invert x pos) (.inv a) := n_inv (sE a X _ c h).1
    exact ⟨h1, toT_un h1⟩
  | .bnot a, X, e, c, h => by
    simp only [cE] at h
    split at h <;> first | (cases h; done) | skip
    obtain ⟨h1, h2⟩ := sE a X _ c h
    exact n_bnot h1 h2
  | .bop kk es, X, e, c, h => by
    simp only [cE] at h
    split at h <;> first | (cases h; done) | skip
    rename_i op xs pos
    simp only [Bool.and_eq_true, Bool.not_eq_true'] at h
    obtain ⟨⟨h1, h2⟩, h3⟩ := h
    have ho : op = bopO kk := by
      cases op <;> cases kk <;> first | rfl | (cases h1; done)
    subst ho
    exact n_bop' (fun e => by subst e; cases h2) (sEs es X xs c h3)
  | .cmp o a b, X, e, c, h => by
    simp only [cE] at h
    split at h <;> first | (cases h; done) | skip
    simp only [Bool.and_eq_true, decide_eq_true_eq] at h
    obtain ⟨⟨⟨rfl, h1⟩, h2⟩, h3⟩ := h
    exact n_cmp c (sE a X _ c h1).1 (sE b X _ c h2).1 h3
  | .cmp2 o o' a b c', X, e, c, h => by
    simp only [cE] at h
    split at h <;> first | (cases h; done) | skip
    simp only [Bool.and_eq_true, decide_eq_true_eq] at h
    obtain ⟨⟨⟨⟨⟨⟨rfl, rfl⟩, h1⟩, h2⟩, h3⟩, h4⟩, h5⟩ := h
    exact n_cmp2 c (sE a X _ c h1).1 (sE b X _ c h2).1 (sE c' X _ c h3).1 (behind_of h4) (behind_of h5)
  | .cmpO o i b, X, e, c, h => by
    simp only [cE] at h
    split at h <;> first | (cases h; done) | skip
    simp only [Bool.and_eq_true, decide_eq_true_eq] at h
    obtain ⟨⟨⟨rfl, h1⟩, h2⟩, h3⟩ := h
    exact n_cmpO c h1 (sE b X _ c h2).1 h3
  | .inO neg a i, X, e, c, h => by
    simp only [cE] at h
    split at h <;> first | (cases h; done) | skip
    simp only [Bool.and_eq_true, decide_eq_true_eq] at h
    obtain ⟨⟨rfl, h1⟩, h2⟩ := h
    exact n_inO c h2 (sE a X _ c h1).1
  | .ife t a b, X, e, c, h => by
    simp only [cE] at h
    split at h <;> first | (cases h; done) | skip
    simp only [Bool.and_eq_true] at h
    obtain ⟨⟨h1, h2⟩, h3⟩ := h
    obtain ⟨_, t2⟩ := sE t X _ c h1
    obtain ⟨a1, a2⟩ := sE a X _ c h2
    obtain ⟨b1, b2⟩ := sE b X _ c h3
    exact n_ife t2 a1 b1 a2 b2
  | .tup es, X, e, c, h => by
    simp only [cE] at h
    split at h <;> first | (cases h; done) | skip
    exact both_of (n_tup (sDs es X _ c h)) rfl
  | .lst es, X, e, c, h => by
    simp only [cE] at h
    split at h <;> first | (cases h; done) | skip
    exact both_of (n_lst (sDs es X _ c h)) rfl
  | .newH es, X, e, c, h => by
    simp only [cE] at h
    split at h <;> first | (cases h; done) | skip
    exact both_of (n_newH (sDs es X _ c h)) rfl
  | .star a, X, e, c, h => by simp [cE] at h
  | .dic kvs, X, e, c, h => by
    simp only [cE] at h
    split at h <;> first | (cases h; done) | skip
    simp only [Bool.and_eq_true, decide_eq_true_eq, Bool.not_eq_true'] at h
    obtain ⟨⟨⟨⟨⟨⟨h1, h2⟩, h3⟩, h4⟩, h5⟩, h6⟩, h7⟩ := h
    exact both_of (n_dic (Boths.pps (sEs kvs X _ c h7) h1 h2) h1 h2 (fun e => by subst e; cases h3) h4 h6 h5) rfl
  | .idx a b, X, e, c, h => by
    simp only [cE] at h
    split at h <;> first | (cases h; done) | skip
    simp only [Bool.and_eq_true] at h
    obtain ⟨⟨h1, h2⟩, h3⟩ := h
    exact both_of (n_idx c (sE a X _ c h1).1 (sE b X _ c h2).1 h3) rfl
  | .idxO i b, X, e, c, h => by
    simp only [cE] at h
    split at h <;> first | (cases h; done) | skip
    simp only [Bool.and_eq_true] at h
    obtain ⟨⟨h1, h2⟩, h3⟩ := h
    exact both_of (n_idxO c h1 (sE b X _ c h2).1 h3) rfl
  | .omit, X, e, c, h => by simp [cE] at h
  | .slc a lo hi, X, e, c, h => by
    simp only [cE] at h
    split at h <;> first | (cases h; done) | skip
    rw [Bool.and_eq_true, Bool.and_eq_true] at h
    obtain ⟨⟨h1, h2⟩, h3⟩ := h
    exact both_of (n_slc (sE a X _ c h1).1 (lo_pe h2 fun q hq => (sE lo X q c hq).1) (lo_pe h3 fun q hq => (sE hi X q c hq).1)) rfl
  | .slcO i lo hi, X, e, c, h => by
    simp only [cE] at h
    split at h <;> first | (cases h; done) | skip
    rw [Bool.and_eq_true, Bool.and_eq_true] at h
    obtain ⟨⟨h1, h2⟩, h3⟩ := h
    exact both_of (n_slcO c h1 (lo_pe h2 fun q hq => (sE lo X q c hq).1) (lo_pe h3 fun q hq => (sE hi X q c hq).1)) rfl
  | .rev a, X, e, c, h => by
    simp only [cE] at h
    split at h <;> first | (cases h; done) | skip
    exact both_of (n_rev (sE a X _ c h).1) rfl
  | .call f args, X, e, c, h => by
    simp only [cE] at h
    split at h <;> first | (cases h; done) | skip
    rename_i y p xs pos
    simp only [Bool.and_eq_true, decide_eq_true_eq] at h
    obtain ⟨⟨⟨rfl, h1⟩, h2⟩, h3⟩ := h
    have hh := sEs args X _ c h2.1
    exact both_of (n_call c h1 (Boths.plo hh h3 h2.2) h3 (fun e => by subst e; cases hh; rfl)) rfl
  | .callK f pm args, X, e, c, h => by
    simp only [cE] at h
    split at h <;> first | (cases h; done) | skip
    rename_i y p kws pos
    simp only [Bool.and_eq_true, decide_eq_true_eq] at h
    obtain ⟨⟨⟨⟨⟨rfl, h1⟩, h2⟩, h3⟩, h4⟩, h5⟩ := h
    have hh := sEs args X _ c h4.1
    exact both_of (n_callK c h1 h2 h3 (Boths.pk hh h4.2) h4.2 (by rw [← Boths.len hh, List.length_map])) rfl
  | .callv i args, X, e, c, h => by simp [cE] at h
  | .blt b args, X, e, c, h => by
    simp only [cE] at h
    split at h <;> first | (cases h; done) | skip
    rename_i y p x xs pos
    simp only [Bool.and_eq_true, decide_eq_true_eq] at h
    obtain ⟨⟨h1, h2⟩, h3⟩ := h
    have hh := Boths.plo (sEs args X _ c h2.1) (by simpa using h3) h2.2
    by_cases hg : isGcd b = true
    · rw [if_pos hg] at h1
      have eb : b = .gcd := by cases b <;> first | rfl | (cases hg; done)
      subst eb
      simp only [Bool.and_eq_true, decide_eq_true_eq] at h1
      obtain ⟨⟨rfl, g1⟩, g2⟩ := h1
      exact both_of (n_gcd c g1 g2 hh (by simpa using h3)) rfl
    · rw [if_neg hg] at h1
      obtain ⟨rfl, _⟩ := free_of c h1
      exact both_of (n_blt c (by simpa using hg) h1 hh (by simpa using h3)) rfl
  | .lenO i, X, e, c, h => by
    simp only [cE] at h
    split at h <;> first | (cases h; done) | skip
    simp only [Bool.and_eq_true] at h
    obtain ⟨h1, h2⟩ := h
    obtain ⟨rfl, _⟩ := free_of c h1
    exact both_of (n_lenO c h1 h2) rfl
  | .mth m a args, X, e, c, h => by
    simp only [cE] at h
    split at h <;> first | (cases h; done) | skip
    simp only [Bool.and_eq_true, decide_eq_true_eq] at h
    obtain ⟨⟨⟨⟨⟨⟨⟨⟨h1, rfl⟩, h3⟩, h4⟩, h5⟩, h6⟩, h7⟩, h8⟩, h9⟩ := h
    have hm : m = .index ∨ m = .count := by cases m <;> first | exact .inl rfl | exact .inr rfl | (cases h1; done)
    exact both_of (n_mth hm (sE a X _ c h3).1 (Boths.plo (sEs args X _ c h4) h5 h6) h5 h7 h8 h9) rfl
  | .mthO m i args, X, e, c, h => by simp [cE] at h
  | .popO i args, X, e, c, h => by simp [cE] at h
  | .lenset es, X, e, c, h => by
    simp only [cE] at h
    split at h <;> first | (cases h; done) | skip
    simp only [Bool.and_eq_true, decide_eq_true_eq] at h
    obtain ⟨⟨⟨⟨h1, rfl⟩, h3⟩, h4⟩, h5⟩ := h
    obtain ⟨rfl, _⟩ := free_of c h1
    exact both_of (n_lenset c h1 (sEs es X _ c h3).pes h4 h5) rfl
  | .isi t a, X, e, c, h => by
    simp only [cE] at h
    split at h <;> first | (cases h; done) | skip
    simp only [Bool.and_eq_true] at h
    obtain ⟨⟨⟨h1, h2⟩, h3⟩, h4⟩ := h
    obtain ⟨rfl, _⟩ := free_of c h1
    obtain ⟨rfl, _⟩ := free_of c h2
    exact both_of (n_isi c h1 h2 (sE a X _ c h3).1 h4) rfl
  | .srtSet a, X, e, c, h => by
    simp only [cE] at h
    split at h <;> first | (cases h; done) | skip
    simp only [Bool.and_eq_true] at h
    obtain ⟨⟨⟨h1, h2⟩, h3⟩, h4⟩ := h
    obtain ⟨rfl, _⟩ := free_of c h1
    obtain ⟨rfl, _⟩ := free_of c h2
    exact both_of (n_srtSet c h1 h2 (sE a X _ c h3).1 h4) rfl
  | .lenSet a, X, e, c, h => by
    simp only [cE] at h
    split at h <;> first | (cases h; done) | skip
    simp only [Bool.and_eq_true] at h
    obtain ⟨⟨⟨h1, h2⟩, h3⟩, h4⟩ := h
    obtain ⟨rfl, _⟩ := free_of c h1
    obtain ⟨rfl, _⟩ := free_of c h2
    exact both_of (n_lenSet c h1 h2 (sE a X _ c h3).1 h4) rfl
  | .comp tg it ifs elt vars, X, e, c, h => by
    simp only [cE] at h
    split at h <;> first | (cases h; done) | skip
    simp only [Bool.and_eq_true, decide_eq_true_eq] at h
    obtain ⟨⟨⟨⟨⟨⟨⟨⟨rfl, h2⟩, h3⟩, h4⟩, h5⟩, h6⟩, h7⟩, h8⟩, h9⟩ := h
    refine both_of (n_comp c h2 (vars_of h3) (sI it X _ _ c h4) ⟨fun s H C cl fp => ?_, fun s H C cl fp => ?_⟩ (fun s H C cl fp => ?_) h9) rfl
    · exact sT _ tg _ _ (c.blk s H _ cl C fp) (fun y hy => hy) h5
    · exact Boths.ifs (sEs ifs _ _ (c.blk s H _ cl C fp) h7) h6
    · exact (sE elt _ _ (c.blk s H _ cl C fp) h8).1
  | .comp2 tg it ifs tg' it' ifs' elt vars vars', X, e, c, h => by
    simp only [cE] at h
    split at h <;> first | (cases h; done) | skip
    simp only [Bool.and_eq_true, decide_eq_true_eq] at h
    obtain ⟨⟨⟨⟨⟨⟨⟨⟨⟨⟨⟨⟨⟨⟨⟨⟨rfl, rfl⟩, h2⟩, h3⟩, h3'⟩, h3''⟩, h4⟩, h5⟩, h6⟩, h7⟩, h8⟩, h9⟩, h10⟩, h11⟩, h12⟩, h13⟩, h14⟩ := h
    refine both_of (n_comp2 c h2 (vars_of h3) (vars_of h3') (vars_of h3'') (sI it X _ _ c h4) ⟨fun s H C cl fp => ?_, fun s H C cl fp => ?_⟩ (fun s H C cl fp => ?_) ⟨fun s H C cl fp => ?_, fun s H C cl fp => ?_⟩ (fun s H C cl fp => ?_) h13 h14) rfl
    · exact sT _ tg _ _ (c.blk s H _ cl C fp) (fun y hy => hy) h5
    · exact Boths.ifs (sEs ifs _ _ (c.blk s H _ cl C fp) h7) h6
    · exact sI it' _ _ _ (c.blk s H _ cl C fp) h8
    · exact sT _ tg' _ _ (c.blk s H _ cl C fp) (fun y hy => hy) h9
    · exact Boths.ifs (sEs ifs' _ _ (c.blk s H _ cl C fp) h11) h10
    · exact (sE elt _ _ (c.blk s H _ cl C fp) h12).1
  | .rng args, X, e, c, h => by simp [cE] at h
  | .zip a b, X, e, c, h => by simp [cE] at h
  | .enu a, X, e, c, h => by simp [cE] at h
  | .comb a b, X, e, c, h => by simp [cE] at h
  | .items a, X, e, c, h => by simp [cE] at h
  | .itemsO i, X, e, c, h => by simp [cE] at h
  | .lof a, X, e, c, h => by simp [cE] at h
  | .tof a, X, e, c, h => by simp [cE] at h
  | .it a, X, e, c, h => by simp [cE] at h
theorem sEs : ∀ (es : List E) (X : Cx) (xs : List Expr), Cok ck Γ cf k X → cEs ck es X.env.scope xs = true → Boths X Γ cf xs es
  | [], X, xs, c, h => by
    simp only [cEs] at h
    have : xs = [] := by simpa using h
    subst this
    exact .nil
  | e :: es, X, xs, c, h => by
    simp only [cEs] at h
    split at h <;> first | (cases h; done) | skip
    simp only [Bool.and_eq_true] at h
    exact .cons (sE e X _ c h.1) (sEs es X _ c h.2)
theorem sDs : ∀ (es : List E) (X : Cx) (xs : List Expr), Cok ck Γ cf k X → cDs ck es X.env.scope xs = true → PLo X Γ cf xs es
  | [], X, xs, c, h => by
    simp only [cDs] at h
    have : xs = [] := by simpa using h
    subst this
    exact l_nil
  | e :: es, X, xs, c, h => by
    by_cases he : ∃ a, e = .star a
    · obtain ⟨a, rfl⟩ := he
      simp only [cDs] at h
      split at h <;> first | (cases h; done) | skip
      simp only [Bool.and_eq_true] at h
      exact l_star (sE a X _ c h.1).1 (sDs es X _ c h.2)
    · have hn : ∀ a, e ≠ .star a := fun a q => he ⟨a, q⟩
      rw [cDs] at h
      · dsimp only at h
        split at h <;> first | (cases h; done) | skip
        simp only [Bool.and_eq_true] at h
        exact l_cons h.1.1 hn (sE e X _ c h.1.2).1 (sDs es X _ c h.2)
      · exact hn
theorem sI : ∀ (ir : E) (X : Cx) (tg e : Expr), Cok ck Γ cf k X → cI ck ir X.env.scope tg e = true → PIo X Γ cf tg e ir
  | .rng args, X, tg, e, c, h => by
    simp only [cI] at h
    split at h <;> first | (cases h; done) | skip
    rename_i f p xs pos
    simp only [Bool.and_eq_true, Bool.or_eq_true, decide_eq_true_eq] at h
    obtain ⟨⟨⟨⟨h1, h2⟩, h3⟩, h4⟩, h5⟩ := h
    obtain ⟨rfl, _⟩ := free_of c h1
    have hh := sEs args X _ c h3
    rcases h2 with h2 | h2
    · match xs, args, hh, h4, h5 with
      | [x], [a], hh, h4, h5 =>
        simp only [List.all_cons, List.all_nil, Bool.and_true] at h4 h5
        exact i_rng1 c h1 (Boths.plo hh (by simpa using h4) (by simpa using h5)) h4 (nStE_of h5)
      | [x], [], hh, _, _ => cases hh
      | [x], a :: b :: r, hh, _, _ => cases hh with | cons _ q => cases q
    · match xs, args, hh, h4, h5 with
      | [x, y], [a, b], hh, h4, h5 =>
        simp only [List.all_cons, List.all_nil, Bool.and_true, Bool.and_eq_true] at h4 h5
        exact i_rng2 c h1 (Boths.plo hh (by simpa using h4) (by simpa using h5)) h4.1 h4.2 (nStE_of h5.1) (nStE_of h5.2)
      | [x, y], [], hh, _, _ => cases hh
      | [x, y], [a], hh, _, _ => cases hh with | cons _ q => cases q
      | [x, y], a :: b :: d :: r, hh, _, _ => cases hh with | cons _ q => cases q with | cons _ q => cases q
  | .zip a b, X, tg, e, c, h => by
    simp only [cI] at h
    split at h <;> first | (cases h; done) | skip
    simp only [Bool.and_eq_true] at h
    obtain ⟨⟨⟨⟨⟨h1, h2⟩, h3⟩, h4⟩, h5⟩, h6⟩ := h
    obtain ⟨rfl, _⟩ := free_of c h1
    cases tg <;> first | (cases h6; done) | exact i_zip c h1 (sE a X _ c h2).1 (sE b X _ c h3).1 h4 h5
  | .enu a, X, tg, e, c, h => by
    simp only [cI] at h
    split at h <;> first | (cases h; done) | skip
    simp only [Bool.and_eq_true] at h
    obtain ⟨⟨⟨h1, h2⟩, h4⟩, h6⟩ := h
    obtain ⟨rfl, _⟩ := free_of c h1
    cases tg <;> first | (cases h6; done) | exact i_enu c h1 (sE a X _ c h2).1 h4
  | .it a, X, tg, e, c, h => by
    simp only [cI] at h
    exact i_it (sE a X _ c h).1
  | .lit _, X, tg, e, c, h | .gc _, X, tg, e, c, h | .var _, X, tg, e, c, h | .mv _, X, tg, e, c, h | .bin _ _ _, X, tg, e, c, h | .neg _, X, tg, e, c, h | .inv _, X, tg, e, c, h | .bnot _, X, tg, e, c, h | .bop _ _, X, tg, e, c, h
  | .cmp _ _ _, X, tg, e, c, h | .cmp2 _ _ _ _ _, X, tg, e, c, h | .cmpO _ _ _, X, tg, e, c, h | .inO _ _ _, X, tg, e, c, h | .ife _ _ _, X, tg, e, c, h | .tup _, X, tg, e, c, h | .lst _, X, tg, e, c, h | .newH _, X, tg, e, c, h | .star _, X, tg, e, c, h
  | .dic _, X, tg, e, c, h | .idx _ _, X, tg, e, c, h | .idxO _ _, X, tg, e, c, h | .omit, X, tg, e, c, h | .slc _ _ _, X, tg, e, c, h | .slcO _ _ _, X, tg, e, c, h | .rev _, X, tg, e, c, h | .call _ _, X, tg, e, c, h | .callK _ _ _, X, tg, e, c, h | .callv _ _, X, tg, e, c, h
  | .blt _ _, X, tg, e, c, h | .lenO _, X, tg, e, c, h | .mth _ _ _, X, tg, e, c, h | .mthO _ _ _, X, tg, e, c, h | .popO _ _, X, tg, e, c, h | .lenset _, X, tg, e, c, h | .isi _ _, X, tg, e, c, h | .srtSet _, X, tg, e, c, h | .lenSet _, X, tg, e, c, h
  | .comp _ _ _ _ _, X, tg, e, c, h | .comp2 _ _ _ _ _ _ _ _ _, X, tg, e, c, h | .comb _ _, X, tg, e, c, h | .items _, X, tg, e, c, h | .itemsO _, X, tg, e, c, h | .lof _, X, tg, e, c, h | .tof _, X, tg, e, c, h => by simp [cI] at h
theorem sT (fn : Str → Bool) : ∀ (ir : E) (X : Cx) (e : Expr), Cok ck Γ cf k X → (∀ y, fn y = true → X.fn y = true) → cT ck fn ir X.env.scope e = true → PG X e (TG_ (ghX X) Γ cf ir)
  | .var i, X, e, c, hf, h => by
    simp only [cT] at h
    split at h <;> first | (cases h; done) | skip
    simp only [Bool.and_eq_true, decide_eq_true_eq] at h
    exact g_var c (tg_of h.2 hf) h.1
  | .tup ts, X, e, c, hf, h => by
    simp only [cT] at h
    split at h <;> first | (cases h; done) | skip
    simp only [Bool.and_eq_true] at h
    obtain ⟨hl, hg⟩ := sTs fn ts X _ c hf h.1 h.2
    exact g_tup c h.2 hl hg
  | .idxO i a, X, e, c, hf, h => by
    simp only [cT] at h
    split at h <;> first | (cases h; done) | skip
    simp only [Bool.and_eq_true] at h
    exact g_idxO c h.1.1 (sE a X _ c h.1.2).1 h.2
  | .lit _, X, e, c, hf, h | .gc _, X, e, c, hf, h | .mv _, X, e, c, hf, h | .bin _ _ _, X, e, c, hf, h | .neg _, X, e, c, hf, h | .inv _, X, e, c, hf, h | .bnot _, X, e, c, hf, h | .bop _ _, X, e, c, hf, h
  | .cmp _ _ _, X, e, c, hf, h | .cmp2 _ _ _ _ _, X, e, c, hf, h | .cmpO _ _ _, X, e, c, hf, h | .inO _ _ _, X, e, c, hf, h | .ife _ _ _, X, e, c, hf, h | .lst _, X, e, c, hf, h | .newH _, X, e, c, hf, h | .star _, X, e, c, hf, h
  | .dic _, X, e, c, hf, h | .idx _ _, X, e, c, hf, h | .omit, X, e, c, hf, h | .slc _ _ _, X, e, c, hf, h | .slcO _ _ _, X, e, c, hf, h | .rev _, X, e, c, hf, h | .call _ _, X, e, c, hf, h | .callK _ _ _, X, e, c, hf, h | .callv _ _, X, e, c, hf, h
  | .blt _ _, X, e, c, hf, h | .lenO _, X, e, c, hf, h | .mth _ _ _, X, e, c, hf, h | .mthO _ _ _, X, e, c, hf, h | .popO _ _, X, e, c, hf, h | .lenset _, X, e, c, hf, h | .isi _ _, X, e, c, hf, h | .srtSet _, X, e, c, hf, h | .lenSet _, X, e, c, hf, h
  | .comp _ _ _ _ _, X, e, c, hf, h | .comp2 _ _ _ _ _ _ _ _ _, X, e, c, hf, h | .rng _, X, e, c, hf, h | .zip _ _, X, e, c, hf, h | .enu _, X, e, c, hf, h | .comb _ _, X, e, c, hf, h | .items _, X, e, c, hf, h | .itemsO _, X, e, c, hf, h | .lof _, X, e, c, hf, h | .tof _, X, e, c, hf, h | .it _, X, e, c, hf, h => by simp [cT] at h
theorem sTs (fn : Str → Bool) : ∀ (ts : List E) (X : Cx) (xs : List Expr), Cok ck Γ cf k X → (∀ y, fn y = true → X.fn y = true) → cTs ck fn ts X.env.scope xs = true → xs.all nStar = true → xs.length = ts.length ∧ PGs X xs (TGs_ (ghX X) Γ cf ts)
  | [], X, xs, c, hf, h, hs => by
    simp only [cTs] at h
    have : xs = [] := by simpa using h
    subst this
    exact ⟨rfl, gs_nil⟩
  | t :: ts, X, xs, c, hf, h, hs => by
    simp only [cTs] at h
    split at h <;> first | (cases h; done) | skip
    simp only [Bool.and_eq_true] at h
    simp only [List.all_cons, Bool.and_eq_true] at hs
    obtain ⟨hl, hg⟩ := sTs fn ts X _ c hf h.2 hs.2
    exact ⟨by simp [hl], gs_cons hs.1 (sT fn t X _ c hf h.1) hg⟩
end
end
end Rv

set_option Elab.async false
set_option linter.all false
set_option maxRecDepth 100000
set_option maxHeartbeats 16000000
/-! Statements: what is stored at names. -/
namespace Rv
open PySem PySem.Spec PyProof.Rows L2
section
variable {g : Gh} {Z F F' : Addr → Prop} {μ μ' : List Addr} {ρ : Ss} {st st' : List D} {σ : L2.St} {H H' : Hp}
/-- a new list or dict becomes a name's own -/
theorem R.seto (r : R g Z F μ ρ st σ H) {d : D} {p : Addr} (hc : ContR g F μ H p d) (nf : ¬F p) (nz : ¬Z p) (nm : p ∉ μ) (no : ∀ (i : Nat) e, ρ[i]? = some (.own e) → σ[i]? ≠ some (some (.ref p))) (i : Nat) :
    R g Z F μ (ρ.set i (.own d)) st (σ.set i (some (.ref p))) H where
  len := by rw [List.length_set, List.length_set]; exact r.len
  val := fun j d' hj => by
    rcases getS hj with ⟨rfl, e, hl⟩ | ⟨ne, hj⟩
    · cases e
    · rw [List.getElem?_set_ne ne]
      exact r.val j d' hj
  own := fun j d' hj => by
    rcases getS hj with ⟨rfl, e, hl⟩ | ⟨ne, hj⟩
    · cases e
      exact ⟨p, by rw [List.getElem?_set_self (by rw [← r.len]; exact hl)], hc, nf, nz, nm⟩
    · rw [List.getElem?_set_ne ne]
      exact r.own j d' hj
  apart := fun j l d' e' a hj hl ej el => by
    rcases getS hj with ⟨rfl, _, lj⟩ | ⟨nj, hj⟩
    · rcases getS hl with ⟨rfl, _, _⟩ | ⟨nl, hl⟩
      · rfl
      · rw [List.getElem?_set_self (by rw [← r.len]; exact lj)] at ej
        rw [List.getElem?_set_ne nl] at el
        cases ej
        exact absurd el (no l _ hl)
    · rcases getS hl with ⟨rfl, _, ll⟩ | ⟨nl, hl⟩
      · rw [List.getElem?_set_self (by rw [← r.len]; exact ll)] at el
        rw [List.getElem?_set_ne nj] at ej
        cases el
        exact absurd ej (no j _ hj)
      · rw [List.getElem?_set_ne nj] at ej
        rw [List.getElem?_set_ne nl] at el
        exact r.apart j l d' e' a hj hl ej el
  sto := r.sto
  stl := r.stl
  nd := r.nd
  mo := r.mo
  fd := r.fd
  zd := r.zd
theorem slOf_fr {f : Bool} {d : D} (h : (f && isCont d) = true) : slOf d f = .own d := by unfold slOf; rw [if_pos h]
theorem slOf_nf {f : Bool} {d : D} (h : (f && isCont d) = false) : slOf d f = .val d := by unfold slOf; rw [if_neg (by rw [h]; exact Bool.false_ne_true)]
theorem R.setF (r : R g Z F μ ρ st σ H) {f : Bool} {d : D} {v : V} (h : VR g Z F μ ρ σ H f d v) (i : Nat) : R g Z F μ (ρ.set i (slOf d f)) st (σ.set i (some v)) H := by
  rcases h with ⟨e, h⟩ | ⟨e, p, rfl, h1, h2, h3, h4, h5⟩
  · rw [slOf_nf e]
    exact r.setv h i
  · rw [slOf_fr e]
    exact r.seto h1 h2 h3 h4 h5 i
/-- values with their flags, none of the new ones twice -/
def SlRs (g : Gh) (F : Addr → Prop) (μ : List Addr) (ρ : Ss) (σ : L2.St) (H : Hp) : (Addr → Prop) → List Sl → List V → Prop
  | _, [], vs => vs = []
  | Z, .val d :: ss, vs => ∃ v r, vs = v :: r ∧ RelD g F μ H d v ∧ SlRs g F μ ρ σ H Z ss r
  | Z, .own d :: ss, vs => ∃ p r, vs = .ref p :: r ∧ ContR g F μ H p d ∧ ¬F p ∧ ¬Z p ∧ p ∉ μ ∧ (∀ (i : Nat) e, ρ[i]? = some (.own e) → σ[i]? ≠ some (some (.ref p))) ∧ SlRs g F μ ρ σ H (zplus Z p) ss r
  | _, .un :: _, _ => False
theorem SlRs.length : ∀ {Z : Addr → Prop} {ss : List Sl} {vs : List V}, SlRs g F μ ρ σ H Z ss vs → ss.length = vs.length
  | _, [], vs, h => by simp only [SlRs] at h; subst h; rfl
  | Z, .val d :: ss, vs, h => by
    simp only [SlRs] at h
    obtain ⟨v, r, rfl, _, h⟩ := h
    simp [SlRs.length h]
  | Z, .own d :: ss, vs, h => by
    simp only [SlRs] at h
    obtain ⟨v, r, rfl, _, _, _, _, _, h⟩ := h
    simp [SlRs.length h]
  | _, .un :: _, _, h => by simp only [SlRs] at h
/-- fewer kept apart, other owners -/
theorem SlRs.mono {ρ' : Ss} {σ' : L2.St} : ∀ {Z Z' : Addr → Prop} {ss : List Sl} {vs : List V}, SlRs g F μ ρ σ H Z ss vs → (∀ a, Z' a → Z a) → (∀ (i : Nat) e a, ρ'[i]? = some (.own e) → σ'[i]? = some (some (.ref a)) → Z a ∨ ∃ (j : Nat) (e' : D), ρ[j]? = some (.own e') ∧ σ[j]? = some (some (.ref a))) → SlRs g F μ ρ' σ' H Z' ss vs
  | Z, Z', [], vs, h, hz, ho => by simp only [SlRs] at h ⊢; exact h
  | Z, Z', .val d :: ss, vs, h, hz, ho => by
    simp only [SlRs] at h ⊢
    obtain ⟨v, r, rfl, h1, h⟩ := h
    exact ⟨v, r, rfl, h1, h.mono hz ho⟩
  | Z, Z', .own d :: ss, vs, h, hz, ho => by
    simp only [SlRs] at h ⊢
    obtain ⟨p, r, rfl, h1, h2, h3, h4, h5, h⟩ := h
    refine ⟨p, r, rfl, h1, h2, fun z => h3 (hz p z), h4, fun i e hi hs => ?_, h.mono (fun a z => z.elim (fun z => .inl (hz a z)) .inr) fun i e a hi hs => ?_⟩
    · rcases ho i e p hi hs with z | ⟨j, e', hj, hs'⟩
      · exact h3 z
      · exact h5 j e' hj hs'
    · rcases ho i e a hi hs with z | z
      · exact .inl (.inl z)
      · exact .inr z
  | _, _, .un :: _, _, h, _, _ => by simp only [SlRs] at h
/-- all stored, one behind the other -/
theorem R.setAll : ∀ {ss : List Sl} {is : List Nat} {vs : List V} {ρ : Ss} {σ : L2.St}, R g Z F μ ρ st σ H → SlRs g F μ ρ σ H Z ss vs → R g Z F μ (setAll ρ is ss) st (Rv.setAll σ is (vs.map some)) H
  | [], is, vs, ρ, σ, r, h => by
    simp only [SlRs] at h
    subst h
    cases is <;> exact r
  | s :: ss, [], vs, ρ, σ, r, h => by
    cases vs <;> exact r
  | .val d :: ss, i :: is, vs, ρ, σ, r, h => by
    simp only [SlRs] at h
    obtain ⟨v, t, rfl, h1, h⟩ := h
    refine R.setAll (ss := ss) (is := is) (r.setv h1 i) (h.mono (fun _ z => z) fun j e a hj hs => .inr ?_)
    rcases getS hj with ⟨_, e, _⟩ | ⟨ne, hj⟩
    · cases e
    · rw [List.getElem?_set_ne ne] at hs
      exact ⟨j, e, hj, hs⟩
  | .own d :: ss, i :: is, vs, ρ, σ, r, h => by
    simp only [SlRs] at h
    obtain ⟨p, t, rfl, h1, h2, h3, h4, h5, h⟩ := h
    refine R.setAll (ss := ss) (is := is) (r.seto h1 h2 h3 h4 h5 i) (h.mono (fun _ z => .inl z) fun j e a hj hs => ?_)
    rcases getS hj with ⟨rfl, e, hl⟩ | ⟨ne, hj⟩
    · rw [List.getElem?_set_self (by rw [← r.len]; exact hl)] at hs
      cases hs
      exact .inl (.inr rfl)
    · rw [List.getElem?_set_ne ne] at hs
      exact .inr ⟨j, e, hj, hs⟩
  | .un :: _, _ :: _, _, _, _, _, h => by simp only [SlRs] at h
/-- another heap -/
theorem SlRs.ext {ρ' : Ss} {σ' : L2.St} : ∀ {Z : Addr → Prop} {ss : List Sl} {vs : List V}, SlRs g F μ ρ σ H Z ss vs → Ext Z F μ H F μ H' → (∀ (p : Addr), H p ≠ none → H' p = H p) → SlRs g F μ ρ σ H' Z ss vs
  | Z, [], vs, h, x, k => by simp only [SlRs] at h ⊢; exact h
  | Z, .val d :: ss, vs, h, x, k => by
    simp only [SlRs] at h ⊢
    obtain ⟨v, r, rfl, h1, h⟩ := h
    exact ⟨v, r, rfl, h1.ext x _ _, SlRs.ext (ρ' := ρ') (σ' := σ') h x k⟩
  | Z, .own d :: ss, vs, h, x, k => by
    simp only [SlRs] at h ⊢
    obtain ⟨p, r, rfl, h1, h2, h3, h4, h5, h⟩ := h
    have hk := k p h1.some.1
    refine ⟨p, r, rfl, h1.ext x hk, h2, h3, h4, h5, SlRs.ext (ρ' := ρ') (σ' := σ') h ⟨fun a z => ?_, fun a _ q => q, x.f, x.t, x.frz, x.m⟩ k⟩
    rcases z with z | z
    · exact x.z a z
    · rw [z]; exact hk
  | _, .un :: _, _, h, _, _ => by simp only [SlRs] at h
end
section
variable {ck : Ck} {Γ : Tab} {cf : Str → List D → St → Option (D × Bool × St)} {k : Nat} {X : Cx}
/-- expressions one behind another, what is new stays new -/
def tTE (g : Gh) (Γ : Tab) (cf : Str → List D → St → Option (D × Bool × St)) : List E → TA
  | [] => tNil
  | e :: es => tCons (TE_ g Γ cf e) (tTE g Γ cf es)
theorem ev_F {e : E} {es : List E} {ρ ρ' : Ss} {st st' : St} {ss : List Sl} (h : evF Γ cf (e :: es) ρ st = some (ss, ρ', st')) : ∃ d f ρ1 st1 ss', evE Γ cf e ρ st = some (d, f, ρ1, st1) ∧ evF Γ cf es ρ1 st1 = some (ss', ρ', st') ∧ ss = slOf d f :: ss' := by
  simp only [evF] at h
  split at h
  · split at h
    · cases h
      exact ⟨_, _, _, _, _, by assumption, by assumption, rfl⟩
    · cases h
  · cases h
theorem par_run {g : Gh} : ∀ (es : List E) {Z F : Addr → Prop} {μ : List Addr} {ρ ρ' : Ss} {st st' : List D} {σ : L2.St} {H : Hp} {ss : List Sl} {Q : List V → Hp → Prop}, R g Z F μ ρ st σ H → evF Γ cf es ρ st = some (ss, ρ', st') →
    (∀ F' μ' H' vs, Ext Z F μ H F' μ' H' → R g Z F' μ' ρ' st' σ H' → SlRs g F' μ' ρ' σ H' Z ss vs → Q vs H') → tTE g Γ cf es σ H Q
  | [], Z, F, μ, ρ, ρ', st, st', σ, H, ss, Q, r, ev, q => by
    simp only [evF, Option.some.injEq, Prod.mk.injEq] at ev
    obtain ⟨rfl, rfl, rfl⟩ := ev
    exact q F μ H [] .refl r rfl
  | e :: es, Z, F, μ, ρ, ρ', st, st', σ, H, ss, Q, r, ev, q => by
    obtain ⟨d, f, ρ1, st1, ss', e1, e2, rfl⟩ := ev_F ev
    refine ⟨Z, F, μ, ρ, st, d, f, ρ1, st1, r, e1, fun F1 μ1 H1 v x1 r1 hv => ?_⟩
    rcases hv with ⟨ef, hv⟩ | ⟨ef, p, rfl, h1, h2, h3, h4, h5⟩
    · refine par_run es r1 e2 fun F2 μ2 H2 vs x2 r2 h => q F2 μ2 H2 (v :: vs) (x1.trans x2) r2 ?_
      rw [slOf_nf ef]
      exact ⟨v, vs, rfl, hv.ext x2 _ _, h⟩
    · have r1' := r1.zplus (D := p) h1.some.1 h4 h5
      refine par_run es r1' e2 fun F2 μ2 H2 vs x2 r2 h => q F2 μ2 H2 (.ref p :: vs) (x1.trans x2.zminus) r2.zminus ?_
      rw [slOf_fr ef]
      refine ⟨p, vs, rfl, h1.ext x2 (x2.z p (.inr rfl)), fun z => h2 (x2.zf p (.inr rfl) z), h3, fun z => (r2.mo p z).2 (.inr rfl), fun i e hi hs => ?_, h⟩
      obtain ⟨a, e3, _, _, nz, _⟩ := r2.own i e hi
      rw [hs] at e3
      cases e3
      exact nz (.inr rfl)
end
end Rv

set_option Elab.async false
set_option linter.all false
set_option maxRecDepth 100000
set_option maxHeartbeats 16000000
/-! The check of statements. -/
namespace Rv
open PySem PySem.Spec PyProof.Rows L2

def fnK : ScopeKind → Bool
  | .function => true
  | _ => false
def noSD : Expr → Bool
  | .SetComp _ _ _ _ => false
  | .DictComp _ _ _ _ _ => false
  | _ => true
def noLC : Expr → Bool
  | .ListComp _ _ _ _ => false
  | .SetComp _ _ _ _ => false
  | .DictComp _ _ _ _ _ => false
  | _ => true
/-- the model's other road for name = [..] -/
def swL (sc : Scope) (y : Str) (py : Pos) : Expr → Bool
  | .ListComp _ _ scope pos => sc.names.lookup y == some .local && py.line == pos.line && !(scope.names.any fun x => x.1 == y && (x.2 == .local || x.2 == .cell))
  | _ => false
theorem bk_of {env : Env} (h : fnK env.scope.kind = true) : env.blockKind = .function := by
  have e : env.scope.kind = .function := by
    cases q : env.scope.kind <;> rw [q] at h <;> first | rfl | (cases h; done)
  unfold Env.blockKind
  rw [e]
  rfl
theorem sw_eq {env : Env} (h : fnK env.scope.kind = true) {ex : Expr} (hn : noSD ex = true) (y : Str) (py : Pos) (line : Nat) : swapsWith ex (some (.Name y py)) line env = pure (swL env.scope y py ex) := by
  have hb := bk_of h
  have hb' : (env.blockKind == ScopeKind.function) = true := by rw [hb]; rfl
  cases ex <;> first | (cases hn; done) | rfl | skip
  rename_i elt gens scope pos
  show (pure (env.blockKind == ScopeKind.function && env.kindOf y == some NameKind.local && py.line == pos.line && !(scope.names.any fun x => x.1 == y && (x.2 == .local || x.2 == .cell))) : Sem Bool) = _
  rw [hb']
  rfl
/-- the model's other road for a, b = x, y -/
def nmL (sc : Scope) (line : Nat) : Expr → Option Str
  | .Name id pos => if sc.names.lookup id == some .local && pos.line == line then some id else none
  | _ => none
def swS (sc : Scope) (ts vs : List Expr) : Option (Option (List Str)) :=
  if !(ts.length == 2 || ts.length == 3) || vs.length != ts.length then some none
  else if vs.any (fun | .Starred .. => true | _ => false) then some none
  else
    let names := ts.filterMap (nmL sc ((ts.head?.map (·.pos.line)).getD 0))
    if names.length != ts.length || names.eraseDups.length != names.length then some none
    else if vs.all (foldedForSure 8) then some none
    else if vs.all (constantsAlone 8) then none
    else some (some names)
theorem swS_eq {env : Env} (h : fnK env.scope.kind = true) {ts vs : List Expr} {k1 k2 : Nat} {p1 p2 : Pos} {r : Option (List Str)} (e : swS env.scope ts vs = some r) : swappedStores [.Tuple ts k1 p1] (.Tuple vs k2 p2) env = pure r := by
  have hb := bk_of h
  have hb' : (env.blockKind != ScopeKind.function) = false := by rw [hb]; rfl
  unfold swS at e
  show (if (!(ts.length == 2 || ts.length == 3) || vs.length != ts.length || env.blockKind != .function) = true then pure none else _) = pure r
  rw [hb', Bool.or_false]
  by_cases c1 : (!(ts.length == 2 || ts.length == 3) || vs.length != ts.length) = true
  · rw [if_pos c1] at e ⊢
    cases e
    rfl
  · rw [if_neg c1] at e ⊢
    show (if vs.any (fun | .Starred .. => true | _ => false) = true then pure none else _) = pure r
    by_cases c2 : vs.any (fun | .Starred .. => true | _ => false) = true
    · rw [if_pos c2] at e ⊢
      cases e
      rfl
    · rw [if_neg c2] at e ⊢
      dsimp only at e
      split at e
      · rename_i c3
        cases e
        exact if_pos c3
      · rename_i c3
        refine (if_neg c3).trans ?_
        split at e
        · rename_i c4
          cases e
          exact if_pos c4
        · rename_i c4
          refine (if_neg c4).trans ?_
          split at e
          · cases e
          · rename_i c5
            cases e
            exact if_neg c5
end Rv

set_option Elab.async false
set_option linter.all false
set_option maxRecDepth 100000
set_option maxHeartbeats 16000000
/-! Statements: the check, their readings. -/
namespace Rv
open PySem PySem.Spec PyProof.Rows L2

section
variable (ck : Ck)
abbrev allT : Str → Bool := fun _ => true
def cNs (sc : Scope) : List Nat → List Expr → Bool
  | [], [] => true
  | i :: is, .Name y _ :: xs => decide (ck.N[i]? = some y) && locB sc y && cNs sc is xs
  | _, _ => false
/-- two or three plain local names -/
def namesOf : List Expr → List Str
  | .Name y _ :: xs => y :: namesOf xs
  | _ => []
mutual
def cS : S → Scope → (Stmt → Bool)
  | .set i e, sc => fun s => match s with
    | .Assign [.Name y py] ex _ => decide (ck.N[i]? = some y) && locB sc y && noSD ex && (if swL sc y py ex then decide (sc.names.lookup y = some .local) && cE ck e sc ex else cE ck e sc ex)
    | _ => false
  | .tset tg e, sc => fun s => match s with
    | .Assign [tgE] ex _ => ((match tgE with | .Tuple _ _ _ => (match ex with | .Tuple _ _ _ => false | _ => true) | .Subscript _ _ _ => true | _ => false) && cT ck allT tg sc tgE && cE ck e sc ex) ||
      (match tg, tgE with
      | .var i, .Name y py => decide (ck.N[i]? = some y) && locB sc y && noSD ex && (if swL sc y py ex then decide (sc.names.lookup y = some .local) && cE ck e sc ex else cE ck e sc ex)
      | _, _ => false)
    | _ => false
  | .par is es, sc => fun s => match s with
    | .Assign [.Tuple ts _ _] (.Tuple vs _ _) _ => decide (is.length ≤ 100) && cNs ck sc is ts && decide (is.Nodup) && cEs ck es sc vs && vs.all nStar && es.all nStE && decide (vs.length = ts.length) && (match swS sc ts vs with
      | some none => true
      | some (some _) => ts.all (fun | .Name y _ => decide (sc.names.lookup y = some .local) | _ => false) && decide (swS sc ts vs = some (some (namesOf ts)))
      | none => false)
    | _ => false
  | .app i e, sc => fun s => match s with
    | .Expr (.Call (.Attribute (.Name y _) n apos) [x] [] pos) _ => decide (n = "append") && slotB ck sc i y && cE ck e sc x && nStar x && nStE e && (apos.endLine == pos.line)
    | _ => false
  | .expr e, sc => fun s => match s with
    | .Expr ex _ => cE ck e sc ex && noLC ex
    | _ => false
  | .ret e, sc => fun s => match s with
    | .Return (some ex) _ => cE ck e sc ex
    | _ => false
  | .retN, sc => fun s => match s with
    | .Return none _ => true
    | _ => false
  | .ife c a b, sc => fun s => match s with
    | .If t x y _ => cE ck c sc t && cB a sc x && cB b sc y
    | _ => false
  | .for_ tg it body, sc => fun s => match s with
    | .For tgE itE b [] _ => cI ck it sc tgE itE && cT ck allT tg sc tgE && cB body sc b && noSet itE
    | _ => false
  | .while_ c body, sc => fun s => match s with
    | .While t b [] _ => cE ck c sc t && cB body sc b
    | _ => false
  | .never, _ => fun _ => true
  | .pass, _ => fun s => match s with
    | .Pass _ => true
    | _ => false
  | .brk, _ => fun s => match s with
    | .Break _ => true
    | _ => false
  | _, _ => fun _ => false
def cB : List S → Scope → (List Stmt → Bool)
  | [], _ => fun xs => xs.isEmpty
  | s :: ss, sc => fun xs => match xs with
    | x :: xs => cS s sc x && cB ss sc xs
    | [] => false
end
end

section
variable (g : Gh) (Γ : Tab) (cf : Str → List D → St → Option (D × Bool × St))
/-- what is wanted of a statement's end -/
def Fin (Z F : Addr → Prop) (μ : List Addr) (H : Hp) (D : Ends) (fl : Fl) (ρ' : Ss) (st' : List Rv.D) : Prop :=
  match fl with
  | .nx => ∀ F' μ' H' σ', Ext Z F μ H F' μ' H' → R g Z F' μ' ρ' st' σ' H' → D.nx σ' H'
  | .bk => ∀ F' μ' H' σ', Ext Z F μ H F' μ' H' → R g Z F' μ' ρ' st' σ' H' → D.bk σ' H'
  | .rt d f => ∀ F' μ' H' σ' v, Ext Z F μ H F' μ' H' → R g Z F' μ' ρ' st' σ' H' → VR g Z F' μ' ρ' σ' H' f d v → D.rt v H'
def TS_ (s : S) : TS := fun D σ H => ∃ Z F μ ρ st fl ρ' st', R g Z F μ ρ st σ H ∧ evS Γ cf s ρ st = some (fl, ρ', st') ∧ Fin g Z F μ H D fl ρ' st'
def TB_ (ss : List S) : TS := fun D σ H => ∃ Z F μ ρ st fl ρ' st', R g Z F μ ρ st σ H ∧ evB Γ cf ss ρ st = some (fl, ρ', st') ∧ Fin g Z F μ H D fl ρ' st'
end
section
variable {g : Gh} {Z F F' : Addr → Prop} {μ μ' : List Addr} {H H' : Hp} {D D' : Ends} {fl : Fl} {ρ' : Ss} {st' : List Rv.D}
theorem Fin.ext (h : Fin g Z F μ H D fl ρ' st') (x : Ext Z F μ H F' μ' H') : Fin g Z F' μ' H' D fl ρ' st' := by
  unfold Fin at h ⊢
  cases fl with
  | nx => exact fun F2 μ2 H2 σ2 x2 r2 => h F2 μ2 H2 σ2 (x.trans x2) r2
  | bk => exact fun F2 μ2 H2 σ2 x2 r2 => h F2 μ2 H2 σ2 (x.trans x2) r2
  | rt d f => exact fun F2 μ2 H2 σ2 v x2 r2 hv => h F2 μ2 H2 σ2 v (x.trans x2) r2 hv
end
section
variable {X : Cx} {s : Stmt} {ss : List Stmt}
theorem PSimp {t t' : TS} (h : PS X s t) (w : ∀ D σ H, t' D σ H → t D σ H) : PS X s t' := ⟨fun pins s σ H D I q => h.run pins s σ H D I (w D σ H q)⟩
theorem PSsimp {t t' : TS} (h : PSs X ss t) (w : ∀ D σ H, t' D σ H → t D σ H) : PSs X ss t' := ⟨fun pins s σ H D I q => h.run pins s σ H D I (w D σ H q)⟩
end
section
variable {ck : Ck} {Γ : Tab} {cf : Str → List D → St → Option (D × Bool × St)} {k : Nat} {X : Cx}
abbrev PSo (X : Cx) (Γ : Tab) (cf : Str → List D → St → Option (D × Bool × St)) (x : Stmt) (s : S) : Prop := PS X x (TS_ (ghX X) Γ cf s)
abbrev PBo (X : Cx) (Γ : Tab) (cf : Str → List D → St → Option (D × Bool × St)) (xs : List Stmt) (ss : List S) : Prop := PSs X xs (TB_ (ghX X) Γ cf ss)
/-- what is known at the statements of a def's body -/
structure Sok (ck : Ck) (Γ : Tab) (cf : Str → List D → St → Option (D × Bool × St)) (k : Nat) (X : Cx) : Prop extends Cok ck Γ cf k X where
  kind : fnK X.env.scope.kind = true
  fn : ∀ y, X.fn y = true
  own : PassesOwn (model X.prog X.w) X.A X.env X.xe

theorem b_nil : PBo X Γ cf [] [] := PSsimp pss_nil fun D σ H ⟨Z, F, μ, ρ, st, fl, ρ', st', r, ev, q⟩ => by
  simp only [evB, Option.some.injEq, Prod.mk.injEq] at ev
  obtain ⟨rfl, rfl, rfl⟩ := ev
  exact q F μ H σ .refl r
theorem b_cons {x : Stmt} {xs : List Stmt} {s : S} {ss : List S} (h : PSo X Γ cf x s) (t : PBo X Γ cf xs ss) : PBo X Γ cf (x :: xs) (s :: ss) := PSsimp (pss_cons h t) fun D σ H ⟨Z, F, μ, ρ, st, fl, ρ', st', r, ev, q⟩ => by
  simp only [evB] at ev
  split at ev
  · rename_i ρ1 st1 e1
    exact ⟨Z, F, μ, ρ, st, .nx, ρ1, st1, r, e1, fun F1 μ1 H1 σ1 x1 r1 => ⟨Z, F1, μ1, ρ1, st1, fl, ρ', st', r1, ev, q.ext x1⟩⟩
  · rename_i d f ρ1 st1 e1
    cases ev
    exact ⟨Z, F, μ, ρ, st, .rt d f, ρ', st', r, e1, q⟩
  · rename_i ρ1 st1 e1
    cases ev
    exact ⟨Z, F, μ, ρ, st, .bk, ρ', st', r, e1, q⟩
  · cases ev
theorem ev_set {i : Nat} {e : E} {ρ ρ' : Ss} {st st' : St} {fl : Fl} (h : evS Γ cf (.set i e) ρ st = some (fl, ρ', st')) : ∃ d f ρ1, evE Γ cf e ρ st = some (d, f, ρ1, st') ∧ fl = .nx ∧ ρ' = ρ1.set i (slOf d f) := by
  simp only [evS] at h
  split at h
  · cases h
    exact ⟨_, _, _, by assumption, rfl, rfl⟩
  · cases h
theorem set_imp {i : Nat} {e : E} (D : Ends) (σ : L2.St) (H : Hp) (h : TS_ (ghX X) Γ cf (.set i e) D σ H) : tAsg (TE_ (ghX X) Γ cf e) (gName i) D σ H := by
  obtain ⟨Z, F, μ, ρ, st, fl, ρ', st', r, ev, q⟩ := h
  obtain ⟨d, f, ρ1, e1, rfl, rfl⟩ := ev_set ev
  exact ⟨Z, F, μ, ρ, st, d, f, ρ1, st', r, e1, fun F1 μ1 H1 v x1 r1 hv => q F1 μ1 H1 _ x1 (r1.setF hv i)⟩
/-- stored as a value that nobody changes: a new list is frozen -/
theorem tset_imp {i : Nat} {e : E} (D : Ends) (σ : L2.St) (H : Hp) (h : TS_ (ghX X) Γ cf (.tset (.var i) e) D σ H) : TS_ (ghX X) Γ cf (.set i e) D σ H := by
  obtain ⟨Z, F, μ, ρ, st, fl, ρ', st', r, ev, q⟩ := h
  simp only [evS] at ev
  split at ev
  · rename_i d f ρ1 st1 e1
    simp only [evT, Option.some.injEq, Prod.mk.injEq] at ev
    obtain ⟨rfl, rfl, rfl⟩ := ev
    refine ⟨Z, F, μ, ρ, st, .nx, ρ1.set i (slOf d f), st1, r, by simp only [evS, e1], ?_⟩
    intro F2 μ2 H2 σ2 x2 r2
    have q' : ∀ F' μ' H' σ', Ext Z F μ H F' μ' H' → R (ghX X) Z F' μ' (ρ1.set i (.val d)) st1 σ' H' → D.nx σ' H' := q
    unfold slOf at r2
    split at r2
    · by_cases hi : i < ρ1.length
      · have e3 : (ρ1.set i (.own d))[i]? = some (.own d) := by simp [hi]
        obtain ⟨a, F', _, x, r', _⟩ := r2.frz e3
        rw [List.set_set] at r'
        exact q' F' μ2 H2 σ2 (x2.trans x) r'
      · refine q' F2 μ2 H2 σ2 x2 ?_
        rw [List.set_eq_of_length_le (by omega)] at r2 ⊢
        exact r2
    · exact q' F2 μ2 H2 σ2 x2 r2
  · cases ev
theorem s_set {i : Nat} {e : E} {y : Str} {py pos : Pos} {ex : Expr} (c : Sok ck Γ cf k X) (hi : ck.N[i]? = some y) (hl : locB X.env.scope y = true) (hn : noSD ex = true) (hw : swL X.env.scope y py ex = false) (h : PEo X Γ cf ex e) : PSo X Γ cf (.Assign [.Name y py] ex pos) (.set i e) :=
  PSimp (ps_set c.nd (by rw [c.N]; exact hi) (loc_of hl) h (by rw [sw_eq c.kind hn, hw]) (.inl (c.fn y))) set_imp
theorem s_ret {e : E} {pos : Pos} {ex : Expr} (h : PEo X Γ cf ex e) : PSo X Γ cf (.Return (some ex) pos) (.ret e) := PSimp (ps_ret h) fun D σ H ⟨Z, F, μ, ρ, st, fl, ρ', st', r, ev, q⟩ => by
  simp only [evS] at ev
  split at ev
  · rename_i d f ρ1 st1 e1
    cases ev
    exact ⟨Z, F, μ, ρ, st, d, f, ρ', st', r, e1, fun F1 μ1 H1 v x1 r1 hv => q F1 μ1 H1 σ v x1 r1 hv⟩
  · cases ev
theorem s_retN {pos : Pos} : PSo X Γ cf (.Return none pos) .retN := PSimp ps_retN fun D σ H ⟨Z, F, μ, ρ, st, fl, ρ', st', r, ev, q⟩ => by
  simp only [evS, Option.some.injEq, Prod.mk.injEq] at ev
  obtain ⟨rfl, rfl, rfl⟩ := ev
  exact q F μ H σ .non .refl r (.val rfl relNon)
theorem s_pass {pos : Pos} : PSo X Γ cf (.Pass pos) .pass := PSimp ps_pass fun D σ H ⟨Z, F, μ, ρ, st, fl, ρ', st', r, ev, q⟩ => by
  simp only [evS, Option.some.injEq, Prod.mk.injEq] at ev
  obtain ⟨rfl, rfl, rfl⟩ := ev
  exact q F μ H σ .refl r
theorem s_brk {pos : Pos} : PSo X Γ cf (.Break pos) .brk := PSimp ps_break fun D σ H ⟨Z, F, μ, ρ, st, fl, ρ', st', r, ev, q⟩ => by
  simp only [evS, Option.some.injEq, Prod.mk.injEq] at ev
  obtain ⟨rfl, rfl, rfl⟩ := ev
  exact q F μ H σ .refl r
theorem s_never {x : Stmt} : PSo X Γ cf x .never := PSimp ps_never fun D σ H ⟨Z, F, μ, ρ, st, fl, ρ', st', r, ev, q⟩ => by
  simp only [evS] at ev
  cases ev
theorem s_expr {e : E} {pos : Pos} {ex : Expr} (h : PEo X Γ cf ex e) (hn : noLC ex = true) : PSo X Γ cf (.Expr ex pos) (.expr e) := PSimp (ps_expr h (by cases ex <;> first | rfl | cases hn)) fun D σ H ⟨Z, F, μ, ρ, st, fl, ρ', st', r, ev, q⟩ => by
  simp only [evS] at ev
  split at ev
  · rename_i d f ρ1 st1 e1
    cases ev
    exact ⟨Z, F, μ, ρ, st, d, f, ρ', st', r, e1, fun F1 μ1 H1 v x1 r1 hv => q F1 μ1 H1 σ x1 r1⟩
  · cases ev
theorem s_ife {t : E} {a b : List S} {x : Expr} {xa xb : List Stmt} {pos : Pos} (h : PTo X Γ cf x t) (ha : PBo X Γ cf xa a) (hb : PBo X Γ cf xb b) : PSo X Γ cf (.If x xa xb pos) (.ife t a b) := PSimp (ps_if h ha hb) fun D σ H ⟨Z, F, μ, ρ, st, fl, ρ', st', r, ev, q⟩ => by
  simp only [evS] at ev
  split at ev
  · rename_i f ρ1 st1 e1
    exact ⟨Z, F, μ, ρ, st, true, f, ρ1, st1, r, e1, fun F1 μ1 H1 x1 r1 => iteT ⟨Z, F1, μ1, ρ1, st1, fl, ρ', st', r1, ev, q.ext x1⟩⟩
  · rename_i f ρ1 st1 e1
    exact ⟨Z, F, μ, ρ, st, false, f, ρ1, st1, r, e1, fun F1 μ1 H1 x1 r1 => iteF ⟨Z, F1, μ1, ρ1, st1, fl, ρ', st', r1, ev, q.ext x1⟩⟩
  · cases ev
theorem s_tset {tg e : E} {tgE ex : Expr} {pos : Pos} (hk : (match tgE with | .Tuple _ _ _ => (match ex with | .Tuple _ _ _ => false | _ => true) | .Subscript _ _ _ => true | _ => false) = true) (hg : PG X tgE (TG_ (ghX X) Γ cf tg)) (h : PEo X Γ cf ex e) : PSo X Γ cf (.Assign [tgE] ex pos) (.tset tg e) := by
  have hs : swapsWithSole [tgE] ex pos.line X.env = pure false := by
    cases tgE <;> first | (cases hk; done) | (cases ex <;> rfl)
  have hw : swappedStores [tgE] ex X.env = pure none := by
    cases tgE <;> first | (cases hk; done) | (cases ex <;> first | rfl | (cases hk; done))
  have h1 : (assignEach [tgE] X.env).map (·.2) = [assign tgE X.env] := by
    cases tgE <;> first | (cases hk; done) | rfl
  refine PSimp (ps_asg (toD h) hg hs hw h1) fun D σ H ⟨Z, F, μ, ρ, st, fl, ρ', st', r, ev, q⟩ => ?_
  simp only [evS] at ev
  split at ev
  · rename_i d f ρ1 st1 e1
    split at ev
    · rename_i ρ2 st2 e2
      cases ev
      exact ⟨Z, F, μ, ρ, st, d, f, ρ1, st1, r, e1, fun F1 μ1 H1 v x1 r1 hv => ⟨Z, F1, μ1, ρ1, st1, d, ρ', st', r1, hv, e2, fun F2 μ2 H2 σ2 x2 r2 _ => q F2 μ2 H2 σ2 (x1.trans x2) r2⟩⟩
    · cases ev
  · cases ev
end
end Rv

set_option Elab.async false
set_option linter.all false
set_option maxRecDepth 100000
set_option maxHeartbeats 16000000
/-! Statements: loops, appends, names side by side. -/
namespace Rv
open PySem PySem.Spec PyProof.Rows L2
section
variable {ck : Ck} {Γ : Tab} {cf : Str → List D → St → Option (D × Bool × St)} {k : Nat} {X : Cx}
def condW (Γ : Tab) (cf : Str → List D → St → Option (D × Bool × St)) (c : E) (ρ : Ss) (st : St) : Option (Bool × Ss × St) := match evE Γ cf c ρ st with
  | some (.bl b, _, ρ, st) => some (b, ρ, st)
  | _ => none
theorem s_while {t : E} {body : List S} {x : Expr} {xb : List Stmt} {pos : Pos} (c : Sok ck Γ cf k X) (h : PTo X Γ cf x t) (hb : PBo X Γ cf xb body) : PSo X Γ cf (.While x xb [] pos) (.while_ t body) := by
  refine PSimp (ps_while c.own h hb) fun D σ H ⟨Z, F, μ, ρ, st, fl, ρ', st', r, ev, q⟩ => ?_
  simp only [evS] at ev
  refine ⟨fun m σ H => ∃ F μ ρ st, R (ghX X) Z F μ ρ st σ H ∧ whileL (condW Γ cf t) (fun ρ st => evB Γ cf body ρ st) m ρ st = some (fl, ρ', st') ∧ Fin (ghX X) Z F μ H D fl ρ' st', ⟨Γ.W, F, μ, ρ, st, r, ev, q⟩, ?_⟩
  rintro m σ H ⟨F, μ, ρ, st, r, ev, q⟩
  cases m with
  | zero => simp [whileL] at ev
  | succ m =>
    simp only [whileL] at ev
    split at ev
    · rename_i ρ1 st1 ec
      unfold condW at ec
      split at ec
      · rename_i b f ρ2 st2 e1
        cases ec
        refine ⟨Z, F, μ, ρ, st, true, f, ρ1, st1, r, e1, fun F1 μ1 H1 x1 r1 => iteT ?_⟩
        refine ⟨fun σ' H' => ∃ F μ ρ st, R (ghX X) Z F μ ρ st σ' H' ∧ whileL (condW Γ cf t) (fun ρ st => evB Γ cf body ρ st) m ρ st = some (fl, ρ', st') ∧ Fin (ghX X) Z F μ H' D fl ρ' st', fun σ' H' z => ⟨m, Nat.lt_succ_self m, z⟩, ?_⟩
        split at ev
        · rename_i ρ3 st3 e3
          exact ⟨Z, F1, μ1, ρ1, st1, .nx, ρ3, st3, r1, e3, fun F2 μ2 H2 σ2 x2 r2 => ⟨F2, μ2, ρ3, st3, r2, ev, q.ext (x1.trans x2)⟩⟩
        · rename_i ρ3 st3 e3
          cases ev
          exact ⟨Z, F1, μ1, ρ1, st1, .bk, ρ', st', r1, e3, fun F2 μ2 H2 σ2 x2 r2 => q F2 μ2 H2 σ2 (x1.trans x2) r2⟩
        · rename_i d f ρ3 st3 e3
          cases ev
          exact ⟨Z, F1, μ1, ρ1, st1, .rt d f, ρ', st', r1, e3, fun F2 μ2 H2 σ2 v x2 r2 hv => q F2 μ2 H2 σ2 v (x1.trans x2) r2 hv⟩
        · cases ev
      · cases ec
    · rename_i ρ1 st1 ec
      unfold condW at ec
      split at ec
      · rename_i b f ρ2 st2 e1
        cases ec
        cases ev
        exact ⟨Z, F, μ, ρ, st, false, f, ρ', st', r, e1, fun F1 μ1 H1 x1 r1 => iteF (q F1 μ1 H1 σ x1 r1)⟩
      · cases ec
    · cases ev
/-- a turn of a for loop -/
def stepF (Γ : Tab) (cf : Str → List D → St → Option (D × Bool × St)) (tg : E) (body : List S) (d : D) (ρ : Ss) (st : St) : Option (Fl × Ss × St) := match evT Γ cf tg d ρ st with
  | some (ρ, st) => evB Γ cf body ρ st
  | none => none
theorem s_for {tg it : E} {body : List S} {tgE itE : Expr} {xb : List Stmt} {pos : Pos} (c : Sok ck Γ cf k X) (hi : PIo X Γ cf tgE itE it) (hg : PG X tgE (TG_ (ghX X) Γ cf tg)) (hb : PBo X Γ cf xb body) (hs : noSet itE = true) : PSo X Γ cf (.For tgE itE xb [] pos) (.for_ tg it body) := by
  refine PSimp (ps_for c.own c.calm hi hg hb (fold_of hs _)) fun D σ H ⟨Z, F, μ, ρ, st, fl, ρ', st', r, ev, q⟩ => ?_
  simp only [evS] at ev
  split at ev
  · rename_i x fx ρ1 st1 e1
    split at ev
    · rename_i ds e2
      refine ⟨Z, F, μ, ρ, st, x, fx, ρ1, st1, ds, r, e1, e2, fun F1 μ1 H1 J x1 r1 it1 => ?_⟩
      refine ⟨fun i m σ H => m = ds.length - i ∧ i ≤ ds.length ∧ ∃ F2 μ2 ρa sta, Ext Z F1 μ1 H1 F2 μ2 H ∧ R (ghX X) Z F2 μ2 ρa sta σ H ∧ turns (stepF Γ cf tg body) (ds.drop i) ρa sta = some (fl, ρ', st'), ⟨ds.length, by simp, Nat.zero_le _, F1, μ1, ρ1, st1, .refl, r1, by rw [List.drop_zero]; exact ev⟩, ?_⟩
      rintro i m σ2 H2 ⟨rfl, hi, F2, μ2, ρa, sta, x2, r2, ht⟩
      by_cases hlt : i < ds.length
      · rw [List.drop_eq_getElem_cons hlt] at ht
        refine .inr ⟨it1.go F2 μ2 H2 i x2.any hlt, fun σ' H' => ∃ F3 μ3 ρb stb, Ext Z F1 μ1 H1 F3 μ3 H' ∧ R (ghX X) Z F3 μ3 ρb stb σ' H' ∧ turns (stepF Γ cf tg body) (ds.drop (i + 1)) ρb stb = some (fl, ρ', st'), fun σ' H' z => ⟨ds.length - (i + 1), by omega, rfl, hlt, z⟩, fun v H3 hy => ?_⟩
        have hal := it1.yld F2 μ2 H2 i v H3 _ x2.any (List.getElem?_eq_getElem hlt) hy
        obtain ⟨x3, r3, v3⟩ := hal.done r2
        have hv3 : RelD (ghX X) F2 μ2 H3 ds[i] v := by
          rcases v3 with ⟨_, h⟩ | ⟨h, _⟩
          · exact h
          · simp at h
        have step : ∃ ρb stb, evT Γ cf tg ds[i] ρa sta = some (ρb, stb) ∧ ∃ fl1 ρc stc, evB Γ cf body ρb stb = some (fl1, ρc, stc) ∧ ((fl1 = .nx ∧ turns (stepF Γ cf tg body) (ds.drop (i + 1)) ρc stc = some (fl, ρ', st')) ∨ (fl1 = .bk ∧ fl = .nx ∧ ρ' = ρc ∧ st' = stc) ∨ (∃ d f, fl1 = .rt d f ∧ fl = .rt d f ∧ ρ' = ρc ∧ st' = stc)) := by
          simp only [turns] at ht
          split at ht
          · rename_i ρc stc e4
            unfold stepF at e4
            split at e4
            · exact ⟨_, _, by assumption, _, _, _, e4, .inl ⟨rfl, ht⟩⟩
            · cases e4
          · rename_i ρc stc e4
            unfold stepF at e4
            cases ht
            split at e4
            · exact ⟨_, _, by assumption, _, _, _, e4, .inr (.inl ⟨rfl, rfl, rfl, rfl⟩)⟩
            · cases e4
          · rename_i d f ρc stc e4
            unfold stepF at e4
            cases ht
            split at e4
            · exact ⟨_, _, by assumption, _, _, _, e4, .inr (.inr ⟨d, f, rfl, rfl, rfl, rfl⟩)⟩
            · cases e4
          · cases ht
        obtain ⟨ρb, stb, s1, fl1, ρc, stc, s2, s3⟩ := step
        refine ⟨Z, F2, μ2, ρa, sta, ds[i], ρb, stb, r3, hv3, s1, fun F4 μ4 H4 σ4 x4 r4 _ => ?_⟩
        have x24 := x3.trans x4
        refine ⟨Z, F4, μ4, ρb, stb, fl1, ρc, stc, r4, s2, ?_⟩
        rcases s3 with ⟨rfl, s4⟩ | ⟨rfl, rfl, rfl, rfl⟩ | ⟨d, f, rfl, rfl, rfl, rfl⟩
        · exact fun F5 μ5 H5 σ5 x5 r5 => ⟨F5, μ5, ρc, stc, (x2.trans x24).trans x5, r5, s4⟩
        · exact fun F5 μ5 H5 σ5 x5 r5 => q F5 μ5 H5 σ5 (((x1.trans x2).trans x24).trans x5) r5
        · exact fun F5 μ5 H5 σ5 v x5 r5 hv => q F5 μ5 H5 σ5 v (((x1.trans x2).trans x24).trans x5) r5 hv
      · have hi' : i = ds.length := by omega
        subst hi'
        rw [List.drop_length] at ht
        simp only [turns, Option.some.injEq, Prod.mk.injEq] at ht
        obtain ⟨rfl, rfl, rfl⟩ := ht
        exact .inl ⟨it1.stop F2 μ2 H2 x2.any, q F2 μ2 H2 σ2 (x1.trans x2) r2⟩
    · cases ev
  · cases ev

/-! ### append -/
theorem ev_app {i : Nat} {e : E} {ρ ρ' : Ss} {st st' : St} {fl : Fl} (h : evS Γ cf (.app i e) ρ st = some (fl, ρ', st')) : ∃ d0 x f ρ1 st1 ds, ownD ρ st i = some (.lst d0) ∧ evE Γ cf e ρ st = some (x, f, ρ1, st1) ∧ ownD ρ1 st1 i = some (.lst ds) ∧ ds.length < lim ∧ setOwn ρ1 st1 i (.lst (ds ++ [x])) = some (ρ', st') ∧ fl = .nx := by
  simp only [evS] at h
  split at h
  · rename_i d0 e0
    split at h
    · rename_i x f ρ1 st1 e1
      split at h
      · rename_i ds e2
        split at h
        · rename_i hl
          split at h
          · rename_i ρ2 st2 e3
            cases h
            exact ⟨d0, x, f, ρ1, st1, ds, e0, e1, e2, hl, e3, rfl⟩
          · cases h
        · cases h
      · cases h
    · cases h
  · cases h
theorem own_at {g : Gh} {Z F : Addr → Prop} {μ : List Addr} {ρ : Ss} {st : List D} {σ : L2.St} {H : Hp} (r : R g Z F μ ρ st σ H) {i : Nat} {c : D} (h : ownD ρ st i = some c) : ∃ a, σ[i]? = some (some (.ref a)) ∧ ContR g F μ H a c := by
  unfold ownD at h
  split at h
  · rename_i n hs
    obtain ⟨v, e1, hv⟩ := r.val i _ hs
    simp only [RelD] at hv
    obtain ⟨a, rfl, ha⟩ := hv
    obtain ⟨a', e2, q⟩ := r.sto n c h
    rw [ha] at e2
    cases e2
    exact ⟨a, e1, q⟩
  · rename_i d hs
    cases h
    obtain ⟨a, e1, q, _⟩ := r.own i _ hs
    exact ⟨a, e1, q⟩
  · cases h
theorem s_app {i : Nat} {e : E} {y : Str} {ex : Expr} {p1 apos pos pos2 : Pos} (c : Sok ck Γ cf k X) (hs : slotB ck X.env.scope i y = true) (h : PEo X Γ cf ex e) (hx : nStar ex = true) (hl : (apos.endLine == pos.line) = true) :
    PSo X Γ cf (.Expr (.Call (.Attribute (.Name y p1) "append" apos) [ex] [] pos) pos2) (.app i e) := by
  have h1 := pe_bm (o := .Name y p1) (apos := apos) (cpos := pos) (name := "append") PySem.F.plainAttrs_list PySem.F.slot_list_append PySem.F.type_list_append (mt_append (X := X)) (slot_pe c.toCok hs) (pa_cons (toD h) pa_nil (starEach_cons hx)) (ab_of rfl _ _) (few_of (by simpa using hx) (by show 1 < 30; decide)) hl (starEach_cons hx) (noStars rfl)
  refine PSimp (ps_expr h1 rfl) fun D σ H ⟨Z, F, μ, ρ, st, fl, ρ', st', r, ev, q⟩ => ?_
  obtain ⟨d0, x, f, ρ1, st1, ds, e0, e1, e2, hlim, e3, rfl⟩ := ev_app ev
  obtain ⟨a, ha, hc⟩ := own_at r e0
  refine ⟨.ref a, ha, ?_, Z, F, μ, ρ, st, x, f, ρ1, st1, r, e1, fun F1 μ1 H1 v x1 r1 hv => ?_⟩
  · obtain ⟨vs, hv, _⟩ := hc
    exact .inl ⟨rfl, vs, .inl (.inl hv)⟩
  · obtain ⟨b, hb, ⟨vs, hvs, hrel⟩, nf, hst⟩ := r1.store e2 e3
    rw [ha] at hb
    cases hb
    refine ⟨a, vs, v, rfl, rfl, hvs, by rw [← hrel.length, ← lim_line]; exact hlim, ?_⟩
    obtain ⟨x2, r2⟩ := hst (.lst (vs ++ [v])) fun x2 => ⟨vs ++ [v], upd_same, (hrel.ext x2 _ _).append (.one (hv.ext x2 _ _))⟩
    exact q F1 μ1 _ σ (x1.trans x2) r2
end
end Rv

set_option Elab.async false
set_option linter.all false
set_option maxRecDepth 100000
set_option maxHeartbeats 16000000
/-! Statements: names side by side; all. -/
namespace Rv
open PySem PySem.Spec PyProof.Rows L2
section
variable {ck : Ck} {Γ : Tab} {cf : Str → List D → St → Option (D × Bool × St)} {k : Nat} {X : Cx}
theorem ev_par {is : List Nat} {es : List E} {ρ ρ' : Ss} {st st' : St} {fl : Fl} (h : evS Γ cf (.par is es) ρ st = some (fl, ρ', st')) : ∃ ss ρ1, evF Γ cf es ρ st = some (ss, ρ1, st') ∧ ss.length = is.length ∧ fl = .nx ∧ ρ' = setAll ρ1 is ss := by
  simp only [evS] at h
  split at h
  · split at h
    · cases h
      exact ⟨_, _, by assumption, by assumption, rfl, rfl⟩
    · cases h
  · cases h
theorem Boths.pte {X : Cx} : ∀ {xs : List Expr} {es : List E}, Boths X Γ cf xs es → xs.all nStar = true → PA X xs (tTE (ghX X) Γ cf es)
  | [], [], _, _ => pa_nil
  | x :: xs, e :: es, h, h1 => by
    simp only [List.all_cons, Bool.and_eq_true] at h1
    cases h with
    | cons a b => exact pa_cons a.1 (Boths.pte b h1.2) (starEach_cons h1.1)
  | [], _ :: _, h, _ => by cases h
  | _ :: _, [], h, _ => by cases h
/-- what is behind the values -/
theorem par_imp {is : List Nat} {es : List E} {D : Ends} {σ : L2.St} {H : Hp} {Q : List V → Hp → Prop} (h : TS_ (ghX X) Γ cf (.par is es) D σ H)
    (w : ∀ vs H1, vs.length = is.length → D.nx (setAll σ is (vs.map some)) H1 → (∀ (p : Addr) (o : HO), H1 p = none → D.nx (setAll σ is (vs.map some)) (upd H1 p o)) → Q vs H1) : tTE (ghX X) Γ cf es σ H Q := by
  obtain ⟨Z, F, μ, ρ, st, fl, ρ', st', r, ev, q⟩ := h
  obtain ⟨ss, ρ1, e1, hl, rfl, rfl⟩ := ev_par ev
  refine par_run es r e1 fun F1 μ1 H1 vs x1 r1 hs => w vs H1 (by rw [← hs.length, hl]) (q F1 μ1 H1 _ x1 (r1.setAll hs)) fun p o hp => ?_
  have r2 := r1.laid (o := o) hp
  have x2 : Ext Z F1 μ1 H1 F1 μ1 (upd H1 p o) := Ext.laid hp r1.zd r1.fd
  refine q F1 μ1 _ _ (x1.trans x2) (r2.setAll (hs.ext (ρ' := ρ1) (σ' := σ) x2 fun a ha => upd_ne fun e => ?_))
  subst e
  exact ha hp
theorem cNs_len {N : List Str} {sc : Scope} : ∀ {is : List Nat} {ts : List Expr}, cNs ⟨N, [], [], []⟩ sc is ts = true → ts.length = is.length
  | [], [], _ => rfl
  | i :: is, .Name y p :: ts, h => by
    simp only [cNs, Bool.and_eq_true] at h
    rw [List.length_cons, List.length_cons, cNs_len h.2]
  | [], _ :: _, h => by simp [cNs] at h
  | _ :: _, [], h => by simp [cNs] at h
  | i :: is, t :: ts, h => by
    cases t <;> first | (simp [cNs] at h; done) | skip
    simp only [cNs, Bool.and_eq_true] at h
    rw [List.length_cons, List.length_cons, cNs_len h.2]
/-- names stored, one behind the other -/
def tgN (is : List Nat) : TGs := fun us σ H Q => us.length = is.length ∧ Q (setAll σ is (us.map some)) H
theorem gs_names (c : Sok ck Γ cf k X) : ∀ {is : List Nat} {ts : List Expr}, cNs ck X.env.scope is ts = true → PGs X ts (tgN is) ∧ ts.all nStar = true ∧ ts.length = is.length
  | [], [], _ => ⟨PGsimp pgs_nil fun us σ H Q q => by
      obtain ⟨q1, q2⟩ := q
      have : us = [] := by simpa using q1
      subst this
      exact ⟨rfl, q2⟩, rfl, rfl⟩
  | [], _ :: _, h => by simp [cNs] at h
  | _ :: _, [], h => by simp [cNs] at h
  | i :: is, t :: ts, h => by
    cases t <;> first | (simp [cNs] at h; done) | skip
    rename_i y p
    simp only [cNs, Bool.and_eq_true, decide_eq_true_eq] at h
    obtain ⟨h1, h2, h3⟩ := gs_names c h.2
    refine ⟨PGsimp (pgs_cons (pg_name c.nd (by rw [c.N]; exact h.1.1) (loc_of h.1.2) (.inl (c.fn y))) h1 rfl) fun us σ H Q q => ?_, by rw [List.all_cons, h2]; rfl, by simp [h3]⟩
    obtain ⟨q1, q2⟩ := q
    cases us with
    | nil => simp at q1
    | cons u us => exact ⟨u, us, rfl, by simpa using q1, q2⟩
theorem s_par {is : List Nat} {es : List E} {ts vs : List Expr} {k1 k2 : Nat} {p1 p2 pos : Pos} (c : Sok ck Γ cf k X) (h100 : is.length ≤ 100) (hn : cNs ck X.env.scope is ts = true) (hd : is.Nodup) (h : Boths X Γ cf vs es) (hs : vs.all nStar = true) (hlen : vs.length = ts.length)
    (hw : (match swS X.env.scope ts vs with
      | some none => true
      | some (some _) => ts.all (fun | .Name y _ => decide (X.env.scope.names.lookup y = some .local) | _ => false) && decide (swS X.env.scope ts vs = some (some (namesOf ts)))
      | none => false) = true) : PSo X Γ cf (.Assign [.Tuple ts k1 p1] (.Tuple vs k2 p2) pos) (.par is es) := by
  have hp := Boths.pte h hs
  obtain ⟨g1, g2, g3⟩ := gs_names c hn
  have hz : is.length ≤ sizeLine := by rw [sizeLine_eq]; omega
  · skip
    cases e : swS X.env.scope ts vs with
    | none => rw [e] at hw; cases hw
    | some o =>
      have hsw := swS_eq c.kind (k1 := k1) (k2 := k2) (p1 := p1) (p2 := p2) e
      cases o with
      | none =>
        refine PSimp (ps_asg (pe_tup hp) (pg_tup (n := ts.length) c.calm g1 (assignEach_len ts) (assignEach_ns g2)) rfl hsw rfl) fun D σ H q => ?_
        refine par_imp q fun us H1 hl n1 n2 => ⟨by rw [hl]; exact hz, fun p hp => ⟨p, us, rfl, .inl (.inl upd_same), by rw [hl, g3], hl, n2 p _ hp⟩⟩
      | some names =>
        rw [e] at hw
        simp only [Bool.and_eq_true, decide_eq_true_eq, Option.some.injEq] at hw
        obtain ⟨hloc, rfl⟩ := hw
        have h23 : ts.length = 2 ∨ ts.length = 3 := by
          unfold swS at e
          split at e
          · cases e
          · rename_i hh
            simp only [Bool.or_eq_true, Bool.not_eq_true', Bool.or_eq_false_iff, beq_eq_false_iff_ne, bne_iff_ne, ne_eq, not_or, not_and, Decidable.not_not] at hh
            by_cases a : ts.length = 2
            · exact .inl a
            · exact .inr (hh.1 a)
        rcases h23 with h2 | h2
        · match ts, is, vs, hn, g3, h2, hlen with
          | [t1, t2], [i, j], [a, b], hn, _, _, _ =>
            cases t1 <;> first | (simp [cNs] at hn; done) | skip
            cases t2 <;> first | (simp [cNs] at hn; done) | skip
            simp only [cNs, Bool.and_eq_true, decide_eq_true_eq] at hn
            simp only [List.all_cons, List.all_nil, Bool.and_true, Bool.and_eq_true, decide_eq_true_eq] at hloc
            have hij : i ≠ j := by
              intro z
              subst z
              simp at hd
            refine PSimp (ps_par c.calm c.nd (by rw [c.N]; exact hn.1.1) (by rw [c.N]; exact hn.2.1.1) hij hloc.1 hloc.2 hp hsw rfl) fun D σ H q => ?_
            refine par_imp q fun us H1 hl n1 n2 => ?_
            match us, hl, n1 with
            | [u, v], _, n1 => exact ⟨u, v, rfl, n1⟩
        · match ts, is, vs, hn, g3, h2, hlen with
          | [t1, t2, t3], [i, j, l], [a, b, d], hn, _, _, _ =>
            cases t1 <;> first | (simp [cNs] at hn; done) | skip
            cases t2 <;> first | (simp [cNs] at hn; done) | skip
            cases t3 <;> first | (simp [cNs] at hn; done) | skip
            simp only [cNs, Bool.and_eq_true, decide_eq_true_eq] at hn
            simp only [List.all_cons, List.all_nil, Bool.and_true, Bool.and_eq_true, decide_eq_true_eq] at hloc
            simp only [List.nodup_cons, List.mem_cons, List.not_mem_nil, or_false, not_or] at hd
            refine PSimp (ps_par3 c.calm c.nd (by rw [c.N]; exact hn.1.1) (by rw [c.N]; exact hn.2.1.1) (by rw [c.N]; exact hn.2.2.1.1) hd.1.1 hd.1.2 hd.2.1 hloc.1 hloc.2.1 hloc.2.2 hp hsw rfl) fun D σ H q => ?_
            refine par_imp q fun us H1 hl n1 n2 => ?_
            match us, hl, n1 with
            | [u, v, w], _, n1 => exact ⟨u, v, w, rfl, n1⟩
/-! ### name = [..] on one line -/
theorem s_setLc {i : Nat} {y : Str} {py pos spos : Pos} {tg it elt : E} {ifs : List E} {vars : List Nat} {tgE itE eltE : Expr} {ifsE : List Expr} {scope : Scope} (c : Sok ck Γ cf k X) (hi0 : ck.N[i]? = some y) (hl : X.env.scope.names.lookup y = some .local) (hw : swL X.env.scope y py (.ListComp eltE [⟨tgE, itE, ifsE, 0⟩] scope pos) = true)
    (hb : blkC ck.N X.env.scope scope (ownOf ck.N vars) = true) (hv : ∀ i ∈ tvars tg, i ∈ vars) (hi : PIo X Γ cf tgE itE it) (p : CP X Γ cf scope tgE ifsE tg ifs) (he : CE_ X Γ cf scope eltE elt) (hs : noSet itE = true) :
    PSo X Γ cf (.Assign [.Name y py] (.ListComp eltE [⟨tgE, itE, ifsE, 0⟩] scope pos) spos) (.set i (.comp tg it ifs elt vars)) := by
  have ok := blkOk_by hb
  rw [← c.N] at ok
  refine PSimp (ps_setLc c.calm c.nd (by rw [c.N]; exact hi0) hl (by rw [sw_eq c.kind rfl, hw]) hi ok p.g p.t (fun s H C cl fp => toD (he s H C cl fp)) (fold_of hs _)) fun D σ H q => ?_
  have q1 := set_imp D σ H q
  rw [ownOf_snd]
  exact comp_imp hv σ H _ q1
theorem s_setLc2 {i : Nat} {y : Str} {py pos spos : Pos} {tg it tg' it' elt : E} {ifs ifs' : List E} {vars vars' : List Nat} {tgE itE tgE' itE' eltE : Expr} {ifsE ifsE' : List Expr} {scope : Scope} (c : Sok ck Γ cf k X) (hi0 : ck.N[i]? = some y) (hl : X.env.scope.names.lookup y = some .local)
    (hw : swL X.env.scope y py (.ListComp eltE [⟨tgE, itE, ifsE, 0⟩, ⟨tgE', itE', ifsE', 0⟩] scope pos) = true)
    (hb : blkC ck.N X.env.scope scope (ownOf ck.N vars) = true) (hv : ∀ i ∈ tvars tg, i ∈ vars) (hv' : ∀ i ∈ tvars tg', i ∈ vars') (hs' : ∀ i ∈ vars', i ∈ vars) (hi : PIo X Γ cf tgE itE it) (p : CP X Γ cf scope tgE ifsE tg ifs) (hi' : CI_ X Γ cf scope tgE' itE' it') (p' : CP X Γ cf scope tgE' ifsE' tg' ifs') (he : CE_ X Γ cf scope eltE elt)
    (hs : noSet itE = true) (hs2 : noSet itE' = true) : PSo X Γ cf (.Assign [.Name y py] (.ListComp eltE [⟨tgE, itE, ifsE, 0⟩, ⟨tgE', itE', ifsE', 0⟩] scope pos) spos) (.set i (.comp2 tg it ifs tg' it' ifs' elt vars vars')) := by
  have ok := blkOk_by hb
  rw [← c.N] at ok
  refine PSimp (ps_setLc2 (vs1 := vars') c.calm c.nd (by rw [c.N]; exact hi0) hl (by rw [sw_eq c.kind rfl, hw]) hi ok (by rw [ownOf_snd]; exact hs') p.g p.t hi' p'.g p'.t (fun s H C cl fp => toD (he s H C cl fp)) (fold_of hs _) (fun env => fold_of hs2 env)) fun D σ H q => ?_
  have q1 := set_imp D σ H q
  rw [ownOf_snd]
  exact comp2_imp hv hv' hs' σ H _ q1
end
section
variable {ck : Ck} {Γ : Tab} {cf : Str → List D → St → Option (D × Bool × St)} {k : Nat} {X : Cx}
theorem s_setB {i : Nat} {e : E} {y : Str} {py spos : Pos} {ex : Expr} (c : Sok ck Γ cf k X) (hi0 : ck.N[i]? = some y) (hl : X.env.scope.names.lookup y = some .local) (hw : swL X.env.scope y py ex = true) (h : cE ck e X.env.scope ex = true) : PSo X Γ cf (.Assign [.Name y py] ex spos) (.set i e) := by
  cases ex <;> first | (cases hw; done) | skip
  rename_i eltE gens scope pos
  cases e <;> first | (simp [cE] at h; done) | skip
  · rename_i tg it ifs elt vars
    simp only [cE] at h
    split at h <;> first | (cases h; done) | skip
    rename_i ha
    cases ha
    simp only [Bool.and_eq_true, decide_eq_true_eq] at h
    obtain ⟨⟨⟨⟨⟨⟨⟨⟨rfl, h2⟩, h3⟩, h4⟩, h5⟩, h6⟩, h7⟩, h8⟩, h9⟩ := h
    have cc := c.toCok
    refine s_setLc c hi0 hl hw h2 (vars_of h3) (sI it X _ _ cc h4) ⟨fun s H C cl fp => ?_, fun s H C cl fp => ?_⟩ (fun s H C cl fp => ?_) h9
    · exact sT _ tg _ _ (cc.blk s H _ cl C fp) (fun y hy => hy) h5
    · exact Boths.ifs (sEs ifs _ _ (cc.blk s H _ cl C fp) h7) h6
    · exact (sE elt _ _ (cc.blk s H _ cl C fp) h8).1
  · rename_i tg it ifs tg' it' ifs' elt vars vars'
    simp only [cE] at h
    split at h <;> first | (cases h; done) | skip
    rename_i ha
    cases ha
    simp only [Bool.and_eq_true, decide_eq_true_eq] at h
    obtain ⟨⟨⟨⟨⟨⟨⟨⟨⟨⟨⟨⟨⟨⟨⟨⟨rfl, rfl⟩, h2⟩, h3⟩, h3'⟩, h3''⟩, h4⟩, h5⟩, h6⟩, h7⟩, h8⟩, h9⟩, h10⟩, h11⟩, h12⟩, h13⟩, h14⟩ := h
    have cc := c.toCok
    refine s_setLc2 c hi0 hl hw h2 (vars_of h3) (vars_of h3') (vars_of h3'') (sI it X _ _ cc h4) ⟨fun s H C cl fp => ?_, fun s H C cl fp => ?_⟩ (fun s H C cl fp => ?_) ⟨fun s H C cl fp => ?_, fun s H C cl fp => ?_⟩ (fun s H C cl fp => ?_) h13 h14
    · exact sT _ tg _ _ (cc.blk s H _ cl C fp) (fun y hy => hy) h5
    · exact Boths.ifs (sEs ifs _ _ (cc.blk s H _ cl C fp) h7) h6
    · exact sI it' _ _ _ (cc.blk s H _ cl C fp) h8
    · exact sT _ tg' _ _ (cc.blk s H _ cl C fp) (fun y hy => hy) h9
    · exact Boths.ifs (sEs ifs' _ _ (cc.blk s H _ cl C fp) h11) h10
    · exact (sE elt _ _ (cc.blk s H _ cl C fp) h12).1
mutual
theorem sS : ∀ (s : S) (x : Stmt), Sok ck Γ cf k X → cS ck s X.env.scope x = true → PSo X Γ cf x s
  | .set i e, x, c, h => by
    simp only [cS] at h
    split at h <;> first | (cases h; done) | skip
    simp only [Bool.and_eq_true, decide_eq_true_eq] at h
    obtain ⟨⟨⟨h1, h2⟩, h3⟩, h4⟩ := h
    split at h4
    · rename_i hw
      simp only [Bool.and_eq_true, decide_eq_true_eq] at h4
      exact s_setB c h1 h4.1 hw h4.2
    · rename_i hw
      exact s_set c h1 h2 h3 (by simpa using hw) (sE e X _ c.toCok h4).1
  | .tset tg e, x, c, h => by
    simp only [cS] at h
    split at h <;> first | (cases h; done) | skip
    rw [Bool.or_eq_true] at h
    rcases h with h | h
    · rw [Bool.and_eq_true, Bool.and_eq_true] at h
      exact s_tset h.1.1 (sT _ tg X _ c.toCok (fun y _ => c.fn y) h.1.2) (sE e X _ c.toCok h.2).1
    · split at h <;> first | (cases h; done) | skip
      simp only [Bool.and_eq_true, decide_eq_true_eq] at h
      obtain ⟨⟨⟨h1, h2⟩, h3⟩, h4⟩ := h
      split at h4
      · rename_i hw
        simp only [Bool.and_eq_true, decide_eq_true_eq] at h4
        exact PSimp (s_setB c h1 h4.1 hw h4.2) tset_imp
      · rename_i hw
        exact PSimp (s_set c h1 h2 h3 (by simpa using hw) (sE e X _ c.toCok h4).1) tset_imp
  | .par is es, x, c, h => by
    simp only [cS] at h
    split at h <;> first | (cases h; done) | skip
    rw [Bool.and_eq_true, Bool.and_eq_true, Bool.and_eq_true, Bool.and_eq_true, Bool.and_eq_true, Bool.and_eq_true, Bool.and_eq_true] at h
    obtain ⟨⟨⟨⟨⟨⟨⟨h0, h1⟩, h2⟩, h3⟩, h4⟩, h5⟩, h6⟩, h7⟩ := h
    exact s_par c (of_decide_eq_true h0) h1 (of_decide_eq_true h2) (sEs es X _ c.toCok h3) h4 (of_decide_eq_true h6) h7
  | .setIx _ _ _, x, c, h => by simp [cS] at h
  | .app i e, x, c, h => by
    simp only [cS] at h
    split at h <;> first | (cases h; done) | skip
    simp only [Bool.and_eq_true, decide_eq_true_eq] at h
    obtain ⟨⟨⟨⟨⟨rfl, h2⟩, h3⟩, h4⟩, h5⟩, h6⟩ := h
    exact s_app c h2 (sE e X _ c.toCok h3).1 h4 h6
  | .ext _ _, x, c, h => by simp [cS] at h
  | .upd _ _, x, c, h => by simp [cS] at h
  | .expr e, x, c, h => by
    simp only [cS] at h
    split at h <;> first | (cases h; done) | skip
    simp only [Bool.and_eq_true] at h
    exact s_expr (sE e X _ c.toCok h.1).1 h.2
  | .ret e, x, c, h => by
    simp only [cS] at h
    split at h <;> first | (cases h; done) | skip
    exact s_ret (sE e X _ c.toCok h).1
  | .retN, x, c, h => by
    simp only [cS] at h
    split at h <;> first | (cases h; done) | skip
    exact s_retN
  | .ife t a b, x, c, h => by
    simp only [cS] at h
    split at h <;> first | (cases h; done) | skip
    simp only [Bool.and_eq_true] at h
    exact s_ife (sE t X _ c.toCok h.1.1).2 (sB a _ c h.1.2) (sB b _ c h.2)
  | .for_ tg it body, x, c, h => by
    simp only [cS] at h
    split at h <;> first | (cases h; done) | skip
    simp only [Bool.and_eq_true] at h
    obtain ⟨⟨⟨h1, h2⟩, h3⟩, h4⟩ := h
    exact s_for c (sI it X _ _ c.toCok h1) (sT _ tg X _ c.toCok (fun y _ => c.fn y) h2) (sB body _ c h3) h4
  | .while_ t body, x, c, h => by
    simp only [cS] at h
    split at h <;> first | (cases h; done) | skip
    simp only [Bool.and_eq_true] at h
    exact s_while c (sE t X _ c.toCok h.1).2 (sB body _ c h.2)
  | .never, x, c, h => s_never
  | .pass, x, c, h => by
    simp only [cS] at h
    split at h <;> first | (cases h; done) | skip
    exact s_pass
  | .brk, x, c, h => by
    simp only [cS] at h
    split at h <;> first | (cases h; done) | skip
    exact s_brk
theorem sB : ∀ (ss : List S) (xs : List Stmt), Sok ck Γ cf k X → cB ck ss X.env.scope xs = true → PBo X Γ cf xs ss
  | [], xs, c, h => by
    simp only [cB] at h
    have : xs = [] := by simpa using h
    subst this
    exact b_nil
  | s :: ss, xs, c, h => by
    simp only [cB] at h
    split at h <;> first | (cases h; done) | skip
    simp only [Bool.and_eq_true] at h
    exact b_cons (sS s _ c h.1) (sB ss _ c h.2)
end
end
end Rv

set_option Elab.async false
set_option linter.all false
set_option maxRecDepth 100000
set_option maxHeartbeats 16000000
/-! Every def keeps what the evaluator makes of it. -/
namespace Rv
open PySem PySem.Spec PyProof.Rows L2
structure DefT where
  name : Str
  fn : Fn
  N : List Str
  args : Arguments
  body : List Stmt
  scope : Scope
def tabOf (l : List DefT) (gcs : Str → Option D) (W : Nat) : Tab := ⟨gcs, fun x => (l.find? fun d => decide (d.name = x)).map (·.fn), W⟩
def chkD (free : List Str) (gb : List (Str × String)) (kw : List (Str × List Str × List Nat)) (d : DefT) : Bool := cB ⟨d.N, free, gb, kw⟩ d.fn.body d.scope d.body && C8.scC d.N d.fn.ps d.scope && decide (d.fn.ns = d.N.length) && fnK d.scope.kind
theorem kds_of {K : PySem.W.Frag} {cd : Value} {q : Str} (h : PySem.W.codeIn K cd q = true) : PySem.W.kdsCode K cd = true := by
  unfold PySem.W.codeIn at h
  unfold PySem.W.kdsCode
  split at h
  · split at h
    · rename_i e
      dsimp only
      rw [e]
    · cases h
  · cases h
theorem start_rel {g : Gh} {Z F : Addr → Prop} {μ : List Addr} {st : List D} {H : Hp} {N : List Str} {ds : List D} {vs : List V} {ns m : Nat} (r : R g Z F μ [] st [] H) (h : RelDs g F μ H ds vs) (hn : ns = N.length) (hm : ds.length = m) :
    m ≤ N.length → R g Z F μ (ds.map Sl.val ++ List.replicate (ns - m) .un) st (L2.start N vs) H := by
  intro hle
  have hl := h.length
  have get : ∀ (i : Nat) s, (ds.map Sl.val ++ List.replicate (ns - m) .un)[i]? = some s → s ≠ .un → ∃ d, s = .val d ∧ ds[i]? = some d := by
    intro i s e hs
    by_cases hi : i < (ds.map Sl.val).length
    · rw [List.getElem?_append_left hi, List.getElem?_map] at e
      obtain ⟨d, e1, e2⟩ := Option.map_eq_some_iff.mp e
      exact ⟨d, e2.symm, e1⟩
    · rw [List.getElem?_append_right (by omega), List.getElem?_replicate] at e
      split at e
      · cases e
        exact absurd rfl hs
      · cases e
  refine ⟨?_, fun i d hi => ?_, fun i d hi => ?_, fun i j d e a hi => ?_, r.sto, r.stl, r.nd, r.mo, r.fd, r.zd⟩
  · unfold L2.start
    simp only [List.length_append, List.length_map, List.length_replicate]
    omega
  · obtain ⟨d', e, hd⟩ := get i _ hi (by simp)
    cases e
    obtain ⟨v, hv, hr⟩ := h.get hd
    refine ⟨v, ?_, hr⟩
    unfold L2.start
    have hi2 := (List.getElem?_eq_some_iff.mp hv).1
    rw [List.getElem?_append_left (by simpa using hi2), List.getElem?_map, hv]
    rfl
  · obtain ⟨d', e, _⟩ := get i _ hi (by simp)
    cases e
  · obtain ⟨d', e, _⟩ := get i _ hi (by simp)
    cases e
theorem R.bare {g : Gh} {Z F : Addr → Prop} {μ : List Addr} {ρ : Ss} {st : List D} {σ : L2.St} {H : Hp} (r : R g Z F μ ρ st σ H) : R g Z F μ [] st [] H :=
  ⟨rfl, fun i d h => by simp at h, fun i d h => by simp at h, fun i j d e a h => by simp at h, r.sto, r.stl, r.nd, r.mo, r.fd, r.zd⟩
theorem VR.bare {g : Gh} {Z F : Addr → Prop} {μ : List Addr} {ρ : Ss} {σ : L2.St} {H : Hp} {f : Bool} {d : D} {v : V} (h : VR g Z F μ ρ σ H f d v) : VR g Z F μ [] [] H f d v := by
  rcases h with h | ⟨e, p, rfl, h1, h2, h3, h4, _⟩
  · exact .inl h
  · exact .inr ⟨e, p, rfl, h1, h2, h3, h4, fun i e h => by simp at h⟩
theorem cf_fn {Γ : Tab} : ∀ (n : Nat) {f : Str} {ds : List D} {st : St} {r : D × Bool × St}, cfN Γ n f ds st = some r → ∃ fn, Γ.fns f = some fn ∧ ds.length = fn.ps.length
  | 0, f, ds, st, r, h => by simp [cfN] at h
  | n + 1, f, ds, st, r, h => by
    simp only [cfN] at h
    split at h
    · rename_i fn e
      split at h
      · exact ⟨fn, e, by assumption⟩
      · cases h
    · cases h
section
variable {P : Program} {w : World} {K : PySem.W.Frag} {mg : Str → Option Value} {base : Heap}
theorem lkOf {x qual : Str} {params : Arguments} {body : List Stmt} {scope : Scope} {f : Addr} {fd : FuncData} (F : FunD K x qual params body scope [] [] f fd) : ∃ (oc : Value) (od : Option Addr) (osl : Array (Option Value)), K.lookup f = some ⟨oc, od, .func fd, osl⟩ := by
  obtain ⟨oc, od, dV, kV, doc, pm, an, cdv, ct, osl, rfl, lk, _⟩ := F.ex
  exact ⟨oc, od, osl, lk⟩
theorem fns_ok {l : List DefT} {gcs : Str → Option D} {W : Nat} {free : List Str} {gb : List (Str × String)} {kw : List (Str × List Str × List Nat)} (hfree : ∀ x, free.contains x = true → mg x = none) (hgb : ∀ x b, gb.lookup x = some b → mg x = some (.builtin b))
    (hgcs : ∀ x d, gcs x = some d → ∃ u v, mg x = some u ∧ RelV v u ∧ ∀ F μ H, RelD ⟨P, w, K, mg⟩ F μ H d v)
    (hdef : ∀ d ∈ l, ∃ fa fd, FunD K d.name d.name d.args d.body d.scope [] [] fa fd ∧ mg d.name = some (.ref fa) ∧ Binds K fd d.fn.ps [] ∧ ∀ ks pm, (d.name, ks, pm) ∈ kw → KB0 K fd d.fn.ps ks pm) (hchk : l.all (chkD free gb kw) = true) :
    ∀ n f fn, (tabOf l gcs W).fns f = some fn → ∃ fa fd, (∃ (oc : Value) (od : Option Addr) (osl : Array (Option Value)), K.lookup fa = some ⟨oc, od, .func fd, osl⟩) ∧ mg f = some (.ref fa) ∧ PySem.W.keepIn K (.ref fa) = true ∧ Binds K fd fn.ps [] ∧ FnOk P w K mg base C8.CX0 n fa fd fn.ps (spF ⟨P, w, K, mg⟩ (cfN (tabOf l gcs W) n) f fn.ps.length) ∧ ∀ ks pm, (f, ks, pm) ∈ kw → KB0 K fd fn.ps ks pm := by
  intro n
  induction n with
  | zero =>
    intro f fn e
    obtain ⟨d, e1, rfl⟩ := Option.map_eq_some_iff.mp e
    have hm := List.mem_of_find?_eq_some e1
    have hn : d.name = f := by simpa using List.find?_some e1
    obtain ⟨fa, fd, F, h1, h2, h3⟩ := hdef d hm
    refine ⟨fa, fd, lkOf F, hn ▸ h1, F.kp, h2, ⟨fun vs H Q E h => ?_, fun A outer s H args us vs Q E _ _ _ _ h => ?_⟩, ?_⟩
    · obtain ⟨Z, F, μ, st, ds, dd, fr, st', r, hr, hl, hc, _⟩ := h
      simp [cfN] at hc
    · obtain ⟨Z, F, μ, st, ds, dd, fr, st', r, hr, hl, hc, _⟩ := h
      simp [cfN] at hc
    · exact hn ▸ h3
  | succ n ih =>
    intro f fn e
    obtain ⟨d, e1, rfl⟩ := Option.map_eq_some_iff.mp e
    have hm := List.mem_of_find?_eq_some e1
    have hn : d.name = f := by simpa using List.find?_some e1
    subst hn
    obtain ⟨fa, fd, F, h1, h2, h3⟩ := hdef d hm
    have hc := List.all_eq_true.mp hchk d hm
    simp only [chkD, Bool.and_eq_true, decide_eq_true_eq] at hc
    obtain ⟨⟨⟨c1, c2⟩, c3⟩, c4⟩ := hc
    have S := C8.fnScope_by c2
    refine ⟨fa, fd, lkOf F, h1, F.kp, h2, ?_, h3⟩
    obtain ⟨oc, od, dV, kV, doc, pm, an, cdv, ct, osl, rfl, lk, hcd, _, _⟩ := F.ex
    refine fn_of lk hcd S (fun vs H Q E h => ?_) fun A outer s H vs Q E hr hsp => ⟨TB_ ⟨P, w, K, mg⟩ (tabOf l gcs W) (cfN (tabOf l gcs W) n) d.fn.body, PSs.nox ?_, ?_⟩
    · obtain ⟨Z, F, μ, st, ds, dd, fr, st', r, hr, hl, hc, _⟩ := h
      rw [← hr.length, hl]
    · refine sB (ck := ⟨d.N, free, gb, kw⟩) (k := n) (X := (cxOf C8.CX0 P w K mg base d.N d.name d.scope fa cdv A outer s H E).nox) d.fn.body d.body ⟨⟨rfl, rfl, S.nd, kds_of hcd, hr, hfree, hgb, hgcs, fun f fn e => ?_, fun f ds st r h => cf_fn n h⟩, c4, fun _ => rfl, PassesOwn.never⟩ c1
      obtain ⟨fa', fd', _, r⟩ := ih f fn e
      exact ⟨fa', fd', r⟩
    · obtain ⟨Z, F, μ, st, ds, dd, fr, st', r, hrel, hl, hc, q⟩ := hsp
      have hle : d.fn.ps.length ≤ d.N.length := by
        have := congrArg List.length S.pre
        rw [List.length_take] at this
        omega
      have hf : (tabOf l gcs W).fns d.name = some d.fn := e
      simp only [cfN, hf] at hc
      rw [if_pos hl] at hc
      have r0 := start_rel r hrel c3 hl hle
      split at hc
      · rename_i dd' fr' ρ' st1 eb
        cases hc
        refine ⟨Z, F, μ, _, st, _, ρ', st', r0, eb, ?_⟩
        exact fun F' μ' H' σ' v x r' hv => q F' μ' H' v x r'.bare hv.bare
      · rename_i ρ' st1 eb
        cases hc
        refine ⟨Z, F, μ, _, st, _, ρ', st', r0, eb, ?_⟩
        exact fun F' μ' H' σ' x r' => q F' μ' H' .non x r'.bare (.val rfl relNon)
      · cases hc
end
end Rv

set_option Elab.async false
set_option linter.all false
set_option maxRecDepth 100000
set_option maxHeartbeats 16000000
/-! The head: what is seen of the module's names, then the law by the evaluator. -/
namespace Rv
open PySem PySem.Spec PyProof.Rows L2
def exB (gb : List (Str × String)) (K : PySem.W.Frag) : Bool := gb.all fun p => He.eqO (PySem.W.nsIn K mainGlobals p.1) (some (some (.builtin p.2)))
mutual
/-- the object at hand is this constant -/
def dB (K : PySem.W.Frag) : D → Value → Bool
  | .int i, .int j _ => decide (i = j)
  | .str i, .str j _ => decide (i = j)
  | .tup ds, .ref a => match K.lookup a with
    | some ⟨.type c, _, .seq its _, _⟩ => (decide (c = "tuple") && (decide (its.size ≤ sizeLine) && !intsB ds)) && dsB K ds its.toList
    | _ => false
  | _, _ => false
def dsB (K : PySem.W.Frag) : List D → List Value → Bool
  | [], [] => true
  | d :: ds, u :: us => dB K d u && dsB K ds us
  | _, _ => false
end
def tuB (tu : List (Str × D)) (K : PySem.W.Frag) : Bool := tu.all fun p => match PySem.W.nsIn K mainGlobals p.1 with
  | some (some u) => dB K p.2 u
  | _ => false
section
variable (g : Gh)
mutual
theorem dB_ok : ∀ {d : D} {u : Value}, dB g.K d u = true → ∃ v, RelV v u ∧ ∀ F μ H, RelD g F μ H d v
  | .tup ds, u, h => by
    cases u <;> first | (simp [dB] at h; done) | skip
    rename_i a
    simp only [dB] at h
    cases q : g.K.lookup a with
    | none => rw [q] at h; cases h
    | some o =>
      obtain ⟨oc, od, dt, osl⟩ := o
      rw [q] at h
      cases oc with
      | type c =>
        cases dt with
        | seq its n =>
          simp only [Bool.and_eq_true, decide_eq_true_eq, Bool.not_eq_true'] at h
          obtain ⟨⟨h1, h2, h3⟩, h4⟩ := h
          obtain ⟨vs, hv, hr⟩ := dsB_ok h4
          refine ⟨.ref a, rfl, fun F μ H => ?_⟩
          simp only [RelD]
          exact ⟨a, vs, rfl, ⟨.inr ⟨_, its, n, q, congrArg Value.type h1, rfl, h2, hv⟩, fun e => by rw [h3] at e; cases e⟩, hr F μ H⟩
        | _ => cases h
      | _ => cases dt <;> cases h
  | .non, _, h => by simp [dB] at h
  | .bl _, _, h => by simp [dB] at h
  | .lst _, _, h => by simp [dB] at h
  | .dic _ _, _, h => by simp [dB] at h
  | .ref _, _, h => by simp [dB] at h
  | .fn _, _, h => by simp [dB] at h
  | .int i, u, h => by
    cases u <;> first | (simp [dB] at h; done) | skip
    have e := of_decide_eq_true (show decide (i = _) = true by simpa only [dB] using h)
    subst e
    exact ⟨.int i, ⟨_, rfl⟩, fun _ _ _ => relInt⟩
  | .str i, u, h => by
    cases u <;> first | (simp [dB] at h; done) | skip
    have e := of_decide_eq_true (show decide (i = _) = true by simpa only [dB] using h)
    subst e
    exact ⟨.str i, ⟨_, rfl⟩, fun _ _ _ => relStr⟩
theorem dsB_ok : ∀ {ds : List D} {us : List Value}, dsB g.K ds us = true → ∃ vs, Vals vs us ∧ ∀ F μ H, RelDs g F μ H ds vs
  | [], [], _ => ⟨[], .nil, fun _ _ _ => by simp [RelDs]⟩
  | d :: ds, u :: us, h => by
    simp only [dsB, Bool.and_eq_true] at h
    obtain ⟨v, h1, h2⟩ := dB_ok h.1
    obtain ⟨vs, h3, h4⟩ := dsB_ok h.2
    refine ⟨v :: vs, .cons h1 h3, fun F μ H => ?_⟩
    simp only [RelDs]
    exact ⟨v, vs, rfl, h2 F μ H, h4 F μ H⟩
  | [], _ :: _, h => by simp [dsB] at h
  | _ :: _, [], h => by simp [dsB] at h
end
end
def obsK (fa : List He.Fa) (fn : List He.DefD) (gb : List (Str × String)) (tu : List (Str × D)) (K : PySem.W.Frag) : He.AlD × Bool := (He.obsD fa fn K, exB gb K && tuB tu K)
def obsR (n : Nat) (fa : List He.Fa) (fn : List He.DefD) (gb : List (Str × String)) (tu : List (Str × D)) (g : Addr → Option Obj) : He.AlD × Bool := obsK fa fn gb tu (He.frG g (He.asD g n))
def hookR (n : Nat) (fa : List He.Fa) (fn : List He.DefD) (gb : List (Str × String)) (tu : List (Str × D)) : PySem.W.Hook where
  α := He.AlD × Bool
  obs := fun s => obsR n fa fn gb tu s.heap.get?
  val := fun _ => (He.valD fn, true)
  says := fun _ h => ∃ K : PySem.W.Frag, K.In h ∧ He.SaysD fa fn K ∧ exB gb K = true ∧ tuB tu K = true
  of := fun _ s e => by
    have e1 : He.obsD fa fn (He.frG s.heap.get? (He.asD s.heap.get? n)) = He.valD fn := congrArg Prod.fst e
    have e2 : (exB gb (He.frG s.heap.get? (He.asD s.heap.get? n)) && tuB tu (He.frG s.heap.get? (He.asD s.heap.get? n))) = true := congrArg Prod.snd e
    rw [Bool.and_eq_true] at e2
    exact ⟨_, He.frG_in, e1, e2.1, e2.2⟩
  keeps := fun _ _ _ ⟨K, hK, c⟩ k => ⟨K, PySem.W.Frag.In.keeps hK k, c⟩
theorem obsR_eq {n : Nat} {fa : List He.Fa} {fn : List He.DefD} {gb : List (Str × String)} {tu : List (Str × D)} {g : Addr → Option Obj} {s : Shared} (h : ∀ a, g a = s.heap.get? a) : obsR n fa fn gb tu g = (hookR n fa fn gb tu).obs s := by
  have e : g = s.heap.get? := funext h
  rw [e] <;> rfl
/-- what is asked for of the module's names -/
def faOf (l : List DefT) (free : List Str) (gc : List (Str × D)) : List He.Fa := l.map (fun d => He.Fa.glo d.name) ++ (free.map He.Fa.free ++ gc.filterMap fun p => match p.2 with
  | .int i => some (He.Fa.int p.1 i)
  | .str s => some (He.Fa.str p.1 s)
  | _ => none)
/-- the constants that are objects -/
def tuOf (gc : List (Str × D)) : List (Str × D) := gc.filter fun p => match p.2 with
  | .int _ => false
  | .str _ => false
  | _ => true
def fnOf' (l : List DefT) : List He.DefD := l.map fun d => ⟨(d.name, none), d.name, d.name, d.args, d.body, d.scope, [], []⟩
theorem all_fa {fa : List He.Fa} {fn : List He.DefD} {K : PySem.W.Frag} (c : He.SaysD fa fn K) {f : He.Fa} (h : f ∈ fa) : f.ok K = true := by
  obtain ⟨i, hi⟩ := List.mem_iff_getElem?.mp h
  exact c.fact i hi
end Rv

set_option Elab.async false
set_option linter.all false
set_option maxRecDepth 100000
set_option maxHeartbeats 16000000
/-! The law's end: the evaluator's answer at every script is the law. -/
namespace Rv
open PySem PySem.Spec PyProof.Rows L2
/-- plain parameters, all given -/
def BindOk (d : DefT) : Prop := ∀ (kV doc pm : Value) (an : Option Addr) (cdv ct : Value) (us : List Value), us.length = d.fn.ps.length → bindArgs (PySem.W.fnOf d.name d.name d.args d.body d.scope .none kV doc pm an cdv ct) ⟨us, []⟩ = pure (d.fn.ps.zip us)
/-- called by names alone -/
def BindOkK (d : DefT) (ks : List Str) (pi : List Nat) : Prop := ∀ (kV doc pm : Value) (an : Option Addr) (cdv ct : Value) (ws : List Value), ws.length = ks.length → bindArgs (PySem.W.fnOf d.name d.name d.args d.body d.scope .none kV doc pm an cdv ct) ⟨[], ks.zip ws⟩ = pure (d.fn.ps.zip (pickV .none pi ws))
theorem kb0_of {K : PySem.W.Frag} {d : DefT} {fa : Addr} {fd : FuncData} {ks : List Str} {pi : List Nat} (F : FunD K d.name d.name d.args d.body d.scope [] [] fa fd) (h : BindOkK d ks pi) : KB0 K fd d.fn.ps ks pi := by
  obtain ⟨oc, od, dV, kV, doc, pm, an, cdv, ct, osl, rfl, lk, hcd, hD, hK⟩ := F.ex
  intro s ws hl
  rcases hD with ⟨_, rfl⟩ | ⟨e, _⟩
  · exact .of_eq (h kV doc pm an cdv ct ws hl)
  · exact absurd rfl e
def gcs (gc : List (Str × D)) : Str → Option D := fun x => gc.lookup x
theorem lookup_mem {α : Type} {x : Str} {v : α} : ∀ {l : List (Str × α)}, l.lookup x = some v → (x, v) ∈ l
  | [], h => by simp at h
  | (y, u) :: r, h => by
    rw [List.lookup_cons] at h
    split at h
    · rename_i e
      cases h
      rw [beq_iff_eq.mp e]
      simp
    · exact List.mem_cons_of_mem _ (lookup_mem h)
section
variable {P : Program} {w : World} {K : PySem.W.Frag} {h : Heap} {mg : Str → Option Value} {l : List DefT} {free : List Str} {gb : List (Str × String)} {kw : List (Str × List Str × List Nat)} {gc : List (Str × D)}
theorem law_fn (X : K.In h) (G : h.Ns mainGlobals mg) (c : He.SaysD (faOf l free gc) (fnOf' l) K) (eb : exB gb K = true) (et : tuB (tuOf gc) K = true) (hchk : l.all (chkD free gb kw) = true) (hbind : ∀ d ∈ l, BindOk d) (hkw : ∀ d ∈ l, ∀ ks pi, (d.name, ks, pi) ∈ kw → BindOkK d ks pi) {n W : Nat} {d : DefT} (hd : l.find? (fun d => decide (d.name = ("law" : Str))) = some d) (hps : d.fn.ps = [("script" : Str)])
    (hlaw : ∀ ns : List Int, ns.length ≤ 63 → ∃ fr st', cfN (tabOf l (gcs gc) W) n "law" [.lst (ns.map .int)] [] = some (.bl true, fr, st')) {fa : Addr} (hfa : mg "law" = some (.ref fa)) :
    ∃ (fd : FuncData) (sp : Sp), (∀ (s : Shared) (u : Value), BindsTo s fd ⟨[u], []⟩ [("script", u)]) ∧ (∀ (H : Hp) (a : Addr) (ns : List Int), ns.length ≤ 63 → Only H → SqL K H a (ns.map V.int) → sp [.ref a] H (fun v _ => v = .bl true) fun _ _ _ => False) ∧
      ∀ base : Heap, K.In base → base.Ns mainGlobals mg → FnOk P w K mg base C8.CX0 n fa fd ["script"] sp := by
  have hdef : ∀ d ∈ l, ∃ fa fd, FunD K d.name d.name d.args d.body d.scope [] [] fa fd ∧ mg d.name = some (.ref fa) ∧ Binds K fd d.fn.ps [] ∧ ∀ ks pi, (d.name, ks, pi) ∈ kw → KB0 K fd d.fn.ps ks pi := by
    intro d hd
    obtain ⟨i, hi⟩ := List.mem_iff_getElem?.mp hd
    have hi2 : (fnOf' l)[i]? = some ⟨(d.name, none), d.name, d.name, d.args, d.body, d.scope, [], []⟩ := by
      unfold fnOf'
      rw [List.getElem?_map, hi]
      rfl
    obtain ⟨fd, F⟩ := c.def_ i hi2
    have hm : He.Fa.glo d.name ∈ faOf l free gc := by
      unfold faOf
      exact List.mem_append_left _ (List.mem_map_of_mem hd)
    exact ⟨_, fd, F, He.glo_ok X G (all_fa c hm), FunD.bindsN F (hbind d hd), fun ks pi hk => kb0_of F (hkw d hd ks pi hk)⟩
  have hfree : ∀ x, free.contains x = true → mg x = none := by
    intro x hx
    have hm : He.Fa.free x ∈ faOf l free gc := by
      unfold faOf
      exact List.mem_append_right _ (List.mem_append_left _ (List.mem_map_of_mem (by simpa using hx)))
    exact He.free_ok X G (all_fa c hm)
  have hgb : ∀ x b, gb.lookup x = some b → mg x = some (.builtin b) := by
    intro x b hx
    have := List.all_eq_true.mp eb _ (lookup_mem hx)
    exact PySem.W.mg_of X G (He.eqO_ok this)
  have hgcs : ∀ x d, gcs gc x = some d → ∃ u v, mg x = some u ∧ RelV v u ∧ ∀ F μ H, RelD ⟨P, w, K, mg⟩ F μ H d v := by
    intro x d hx
    have hm := lookup_mem hx
    by_cases hk : (x, d) ∈ tuOf gc
    · have ht := List.all_eq_true.mp et _ hk
      simp only at ht
      cases q : PySem.W.nsIn K mainGlobals x with
      | none => rw [q] at ht; cases ht
      | some o =>
        cases o with
        | none => rw [q] at ht; cases ht
        | some u =>
          rw [q] at ht
          obtain ⟨v, h1, h2⟩ := dB_ok ⟨P, w, K, mg⟩ (d := d) (u := u) ht
          exact ⟨u, v, PySem.W.mg_of X G q, h1, h2⟩
    cases d <;> first | exact absurd (List.mem_filter.mpr ⟨hm, rfl⟩) hk | skip
    · rename_i i
      have hf : He.Fa.int x i ∈ faOf l free gc := by
        unfold faOf
        exact List.mem_append_right _ (List.mem_append_right _ (List.mem_filterMap.mpr ⟨(x, .int i), hm, rfl⟩))
      obtain ⟨t, e⟩ := He.int_ok X G (all_fa c hf)
      exact ⟨_, .int i, e, ⟨t, rfl⟩, fun _ _ _ => relInt⟩
    · rename_i i
      have hf : He.Fa.str x i ∈ faOf l free gc := by
        unfold faOf
        exact List.mem_append_right _ (List.mem_append_right _ (List.mem_filterMap.mpr ⟨(x, .str i), hm, rfl⟩))
      obtain ⟨t, e⟩ := He.str_ok X G (all_fa c hf)
      exact ⟨_, .str i, e, ⟨t, rfl⟩, fun _ _ _ => relStr⟩
  have hmem := List.mem_of_find?_eq_some hd
  have hname : d.name = ("law" : Str) := by simpa using List.find?_some hd
  obtain ⟨fa', fd, F, h1, h2, _⟩ := hdef d hmem
  rw [hname, hfa] at h1
  cases h1
  have hf : (tabOf l (gcs gc) W).fns "law" = some d.fn := by
    show (l.find? fun d => decide (d.name = ("law" : Str))).map (·.fn) = _
    rw [hd]
    rfl
  refine ⟨fd, spF ⟨P, w, K, mg⟩ (cfN (tabOf l (gcs gc) W) n) "law" 1, fun s u => ?_, fun H a ns hl hO hS => ?_, fun base hb hn => ?_⟩
  · have := FunD.bindsA (ps := d.fn.ps) F (hbind d hmem) s [u] (by rw [hps]; rfl)
    rw [hps] at this
    exact this
  · obtain ⟨fr, st', e⟩ := hlaw ns hl
    refine ⟨fun _ => False, fun b => H b ≠ none, [], [], [.lst (ns.map .int)], .bl true, fr, st', ⟨rfl, fun i d h => by simp at h, fun i d h => by simp at h, fun i j d e a h => by simp at h, fun i d h => by simp at h, rfl, List.nodup_nil, fun a h => by simp at h, fun a h => h, fun a h => h.elim⟩, ?_, rfl, e, fun F' μ' H' v x r hv => ?_⟩
    · refine .one ?_
      simp only [RelD]
      refine ⟨a, _, rfl, ?_, relDs_intMap ns⟩
      rcases hS with hS | hS
      · refine .inl ⟨?_, hS⟩
        rcases hS with hS | ⟨o, hS⟩ <;> rw [hS] <;> simp
      · exact .inr hS
    · rcases hv with ⟨_, hv⟩ | ⟨hv, _⟩
      · simpa only [RelD] using hv
      · simp [isCont] at hv
  · obtain ⟨fa2, fd2, lk2, m1, _, _, hF⟩ := fns_ok (P := P) (w := w) (base := base) (W := W) hfree hgb hgcs (fun d' hd' => hdef d' hd') hchk n "law" d.fn hf
    rw [hfa] at m1
    cases m1
    obtain ⟨oc, od, osl, e1⟩ := lk2
    obtain ⟨oc', od', osl', e2⟩ := lkOf F
    rw [e1] at e2
    cases e2
    rw [hps] at hF
    exact hF.1
end
end Rv

set_option Elab.async false
set_option linter.all false
set_option maxRecDepth 100000
set_option maxHeartbeats 4000000
/-! The evaluator once more, a plain def for each construct: what the kernel runs. -/
namespace Rv
open PySem
abbrev CF := Str → List D → St → Option (D × Bool × St)
abbrev RE := Ss → St → Option (D × Bool × Ss × St)
abbrev RL := Ss → St → Option (List D × Ss × St)
abbrev RI := Ss → St → Option (Bool × Ss × St)
abbrev RT := D → Ss → St → Option (Ss × St)
abbrev RTs := List D → Ss → St → Option (Ss × St)
abbrev RF := Ss → St → Option (List Sl × Ss × St)
abbrev RS := Ss → St → Option (Fl × Ss × St)
def isOm : E → Bool
  | .omit => true
  | _ => false
def bndK (o : Bool) (y : D) : Option (Option Int) := if o then some none else match y with
  | .int i => some (some i)
  | _ => none
theorem bndK_eq (e : E) (y : D) : bndE e y = bndK (isOm e) y := by
  cases e <;> cases y <;> rfl
def xk_lit  (d : D)  : RE := fun ρ st => some (d, false, ρ, st)
@[simp] theorem xk_lit_ap  (d : D)  (ρ : Ss) (st : St) : xk_lit d ρ st = some (d, false, ρ, st) := rfl
theorem xk_lit_eq (Γ : Tab) (cf : CF) (d : D) : evE Γ cf (.lit d) = xk_lit d := rfl
theorem yk_lit {Γ : Tab} {cf : CF} {d : D}   : evE Γ cf (.lit d) = xk_lit d := by
  exact xk_lit_eq Γ cf d
def xk_gc (Γ : Tab) (x : Str)  : RE := fun ρ st => match Γ.gcs x with
    | some d => some (d, false, ρ, st)
    | none => none
@[simp] theorem xk_gc_ap (Γ : Tab) (x : Str)  (ρ : Ss) (st : St) : xk_gc Γ x ρ st = match Γ.gcs x with
    | some d => some (d, false, ρ, st)
    | none => none := rfl
theorem xk_gc_eq (Γ : Tab) (cf : CF) (x : Str) : evE Γ cf (.gc x) = xk_gc Γ x := rfl
theorem yk_gc {Γ : Tab} {cf : CF} {x : Str}   : evE Γ cf (.gc x) = xk_gc Γ x := by
  exact xk_gc_eq Γ cf x
def xk_var  (i : Nat)  : RE := fun ρ st => match ρ[i]? with
    | some (.val d) => some (d, false, ρ, st)
    | some (.own d) => some (d, false, ρ.set i (.val d), st)
    | _ => none
@[simp] theorem xk_var_ap  (i : Nat)  (ρ : Ss) (st : St) : xk_var i ρ st = match ρ[i]? with
    | some (.val d) => some (d, false, ρ, st)
    | some (.own d) => some (d, false, ρ.set i (.val d), st)
    | _ => none := rfl
theorem xk_var_eq (Γ : Tab) (cf : CF) (i : Nat) : evE Γ cf (.var i) = xk_var i := rfl
theorem yk_var {Γ : Tab} {cf : CF} {i : Nat}   : evE Γ cf (.var i) = xk_var i := by
  exact xk_var_eq Γ cf i
def xk_mv  (i : Nat)  : RE := fun ρ st => match ρ[i]? with
    | some (.val d) => some (d, false, ρ, st)
    | some (.own d) => some (d, true, ρ.set i .un, st)
    | _ => none
@[simp] theorem xk_mv_ap  (i : Nat)  (ρ : Ss) (st : St) : xk_mv i ρ st = match ρ[i]? with
    | some (.val d) => some (d, false, ρ, st)
    | some (.own d) => some (d, true, ρ.set i .un, st)
    | _ => none := rfl
theorem xk_mv_eq (Γ : Tab) (cf : CF) (i : Nat) : evE Γ cf (.mv i) = xk_mv i := rfl
theorem yk_mv {Γ : Tab} {cf : CF} {i : Nat}   : evE Γ cf (.mv i) = xk_mv i := by
  exact xk_mv_eq Γ cf i
def xk_bin  (o : Bop) (a : RE) (b : RE)  : RE := fun ρ st => match a ρ st with
    | some (x, _, ρ, st) => match b ρ st with
      | some (y, _, ρ, st) => match binD o x y with
        | some (z, f) => some (z, f, ρ, st)
        | none => none
      | none => none
    | none => none
@[simp] theorem xk_bin_ap  (o : Bop) (a : RE) (b : RE)  (ρ : Ss) (st : St) : xk_bin o a b ρ st = match a ρ st with
    | some (x, _, ρ, st) => match b ρ st with
      | some (y, _, ρ, st) => match binD o x y with
        | some (z, f) => some (z, f, ρ, st)
        | none => none
      | none => none
    | none => none := rfl
theorem xk_bin_eq (Γ : Tab) (cf : CF) (o : Bop) (a : E) (b : E) : evE Γ cf (.bin o a b) = xk_bin o (evE Γ cf a) (evE Γ cf b) := rfl
theorem yk_bin {Γ : Tab} {cf : CF} {o : Bop} {a : E} {b : E} {X1 : RE} {X2 : RE} (h1 : evE Γ cf a = X1) (h2 : evE Γ cf b = X2) : evE Γ cf (.bin o a b) = xk_bin o X1 X2 := by
  subst h1 h2
  exact xk_bin_eq Γ cf o a b
def xk_neg  (a : RE)  : RE := fun ρ st => match a ρ st with
    | some (.int i, _, ρ, st) => some (.int (-i), false, ρ, st)
    | _ => none
@[simp] theorem xk_neg_ap  (a : RE)  (ρ : Ss) (st : St) : xk_neg a ρ st = match a ρ st with
    | some (.int i, _, ρ, st) => some (.int (-i), false, ρ, st)
    | _ => none := rfl
theorem xk_neg_eq (Γ : Tab) (cf : CF) (a : E) : evE Γ cf (.neg a) = xk_neg (evE Γ cf a) := rfl
theorem yk_neg {Γ : Tab} {cf : CF} {a : E} {X0 : RE} (h0 : evE Γ cf a = X0) : evE Γ cf (.neg a) = xk_neg X0 := by
  subst h0
  exact xk_neg_eq Γ cf a
def xk_inv  (a : RE)  : RE := fun ρ st => match a ρ st with
    | some (.int i, _, ρ, st) => some (.int (Builtin.bitNot i), false, ρ, st)
    | _ => none
@[simp] theorem xk_inv_ap  (a : RE)  (ρ : Ss) (st : St) : xk_inv a ρ st = match a ρ st with
    | some (.int i, _, ρ, st) => some (.int (Builtin.bitNot i), false, ρ, st)
    | _ => none := rfl
theorem xk_inv_eq (Γ : Tab) (cf : CF) (a : E) : evE Γ cf (.inv a) = xk_inv (evE Γ cf a) := rfl
theorem yk_inv {Γ : Tab} {cf : CF} {a : E} {X0 : RE} (h0 : evE Γ cf a = X0) : evE Γ cf (.inv a) = xk_inv X0 := by
  subst h0
  exact xk_inv_eq Γ cf a
def xk_bnot  (a : RE)  : RE := fun ρ st => match a ρ st with
    | some (.bl b, _, ρ, st) => some (.bl (!b), false, ρ, st)
    | _ => none
@[simp] theorem xk_bnot_ap  (a : RE)  (ρ : Ss) (st : St) : xk_bnot a ρ st = match a ρ st with
    | some (.bl b, _, ρ, st) => some (.bl (!b), false, ρ, st)
    | _ => none := rfl
theorem xk_bnot_eq (Γ : Tab) (cf : CF) (a : E) : evE Γ cf (.bnot a) = xk_bnot (evE Γ cf a) := rfl
theorem yk_bnot {Γ : Tab} {cf : CF} {a : E} {X0 : RE} (h0 : evE Γ cf a = X0) : evE Γ cf (.bnot a) = xk_bnot X0 := by
  subst h0
  exact xk_bnot_eq Γ cf a
def xk_bop  (k : Bool) (es : RE)  : RE := fun ρ st => es ρ st
@[simp] theorem xk_bop_ap  (k : Bool) (es : RE)  (ρ : Ss) (st : St) : xk_bop k es ρ st = es ρ st := rfl
theorem xk_bop_eq (Γ : Tab) (cf : CF) (k : Bool) (es : List E) : evE Γ cf (.bop k es) = xk_bop k (evBop Γ cf k es) := rfl
theorem yk_bop {Γ : Tab} {cf : CF} {k : Bool} {es : List E} {X1 : RE} (h1 : evBop Γ cf k es = X1) : evE Γ cf (.bop k es) = xk_bop k X1 := by
  subst h1
  exact xk_bop_eq Γ cf k es
def xk_cmp  (o : Cop) (a : RE) (b : RE)  : RE := fun ρ st => match a ρ st with
    | some (x, _, ρ, st) => match b ρ st with
      | some (y, _, ρ, st) => match cmpD o x y with
        | some z => some (.bl z, false, ρ, st)
        | none => none
      | none => none
    | none => none
@[simp] theorem xk_cmp_ap  (o : Cop) (a : RE) (b : RE)  (ρ : Ss) (st : St) : xk_cmp o a b ρ st = match a ρ st with
    | some (x, _, ρ, st) => match b ρ st with
      | some (y, _, ρ, st) => match cmpD o x y with
        | some z => some (.bl z, false, ρ, st)
        | none => none
      | none => none
    | none => none := rfl
theorem xk_cmp_eq (Γ : Tab) (cf : CF) (o : Cop) (a : E) (b : E) : evE Γ cf (.cmp o a b) = xk_cmp o (evE Γ cf a) (evE Γ cf b) := rfl
theorem yk_cmp {Γ : Tab} {cf : CF} {o : Cop} {a : E} {b : E} {X1 : RE} {X2 : RE} (h1 : evE Γ cf a = X1) (h2 : evE Γ cf b = X2) : evE Γ cf (.cmp o a b) = xk_cmp o X1 X2 := by
  subst h1 h2
  exact xk_cmp_eq Γ cf o a b
def xk_cmp2  (o : Cop) (o' : Cop) (a : RE) (b : RE) (c : RE)  : RE := fun ρ st => match a ρ st with
    | some (x, _, ρ, st) => match b ρ st with
      | some (y, _, ρ, st) => match cmpD o x y with
        | some true => match c ρ st with
          | some (z, _, ρ, st) => match cmpD o' y z with
            | some w => some (.bl w, false, ρ, st)
            | none => none
          | none => none
        | some false => some (.bl false, false, ρ, st)
        | none => none
      | none => none
    | none => none
@[simp] theorem xk_cmp2_ap  (o : Cop) (o' : Cop) (a : RE) (b : RE) (c : RE)  (ρ : Ss) (st : St) : xk_cmp2 o o' a b c ρ st = match a ρ st with
    | some (x, _, ρ, st) => match b ρ st with
      | some (y, _, ρ, st) => match cmpD o x y with
        | some true => match c ρ st with
          | some (z, _, ρ, st) => match cmpD o' y z with
            | some w => some (.bl w, false, ρ, st)
            | none => none
          | none => none
        | some false => some (.bl false, false, ρ, st)
        | none => none
      | none => none
    | none => none := rfl
theorem xk_cmp2_eq (Γ : Tab) (cf : CF) (o : Cop) (o' : Cop) (a : E) (b : E) (c : E) : evE Γ cf (.cmp2 o o' a b c) = xk_cmp2 o o' (evE Γ cf a) (evE Γ cf b) (evE Γ cf c) := rfl
theorem yk_cmp2 {Γ : Tab} {cf : CF} {o : Cop} {o' : Cop} {a : E} {b : E} {c : E} {X2 : RE} {X3 : RE} {X4 : RE} (h2 : evE Γ cf a = X2) (h3 : evE Γ cf b = X3) (h4 : evE Γ cf c = X4) : evE Γ cf (.cmp2 o o' a b c) = xk_cmp2 o o' X2 X3 X4 := by
  subst h2 h3 h4
  exact xk_cmp2_eq Γ cf o o' a b c
def xk_cmpO  (o : Cop) (i : Nat) (b : RE)  : RE := fun ρ st => match slotD ρ st i with
    | none => none
    | some _ => match b ρ st with
      | some (y, _, ρ, st) => match slotD ρ st i with
        | some x => match cmpD o x y with
          | some z => some (.bl z, false, ρ, st)
          | none => none
        | none => none
      | none => none
@[simp] theorem xk_cmpO_ap  (o : Cop) (i : Nat) (b : RE)  (ρ : Ss) (st : St) : xk_cmpO o i b ρ st = match slotD ρ st i with
    | none => none
    | some _ => match b ρ st with
      | some (y, _, ρ, st) => match slotD ρ st i with
        | some x => match cmpD o x y with
          | some z => some (.bl z, false, ρ, st)
          | none => none
        | none => none
      | none => none := rfl
theorem xk_cmpO_eq (Γ : Tab) (cf : CF) (o : Cop) (i : Nat) (b : E) : evE Γ cf (.cmpO o i b) = xk_cmpO o i (evE Γ cf b) := rfl
theorem yk_cmpO {Γ : Tab} {cf : CF} {o : Cop} {i : Nat} {b : E} {X2 : RE} (h2 : evE Γ cf b = X2) : evE Γ cf (.cmpO o i b) = xk_cmpO o i X2 := by
  subst h2
  exact xk_cmpO_eq Γ cf o i b
def xk_inO  (neg : Bool) (a : RE) (i : Nat)  : RE := fun ρ st => match a ρ st with
    | some (x, _, ρ, st) => match slotD ρ st i with
      | some c => match inD x c with
        | some z => some (.bl (if neg then !z else z), false, ρ, st)
        | none => none
      | none => none
    | none => none
@[simp] theorem xk_inO_ap  (neg : Bool) (a : RE) (i : Nat)  (ρ : Ss) (st : St) : xk_inO neg a i ρ st = match a ρ st with
    | some (x, _, ρ, st) => match slotD ρ st i with
      | some c => match inD x c with
        | some z => some (.bl (if neg then !z else z), false, ρ, st)
        | none => none
      | none => none
    | none => none := rfl
theorem xk_inO_eq (Γ : Tab) (cf : CF) (neg : Bool) (a : E) (i : Nat) : evE Γ cf (.inO neg a i) = xk_inO neg (evE Γ cf a) i := rfl
theorem yk_inO {Γ : Tab} {cf : CF} {neg : Bool} {a : E} {i : Nat} {X1 : RE} (h1 : evE Γ cf a = X1) : evE Γ cf (.inO neg a i) = xk_inO neg X1 i := by
  subst h1
  exact xk_inO_eq Γ cf neg a i
def xk_ife  (c : RE) (a : RE) (b : RE)  : RE := fun ρ st => match c ρ st with
    | some (.bl true, _, ρ, st) => a ρ st
    | some (.bl false, _, ρ, st) => b ρ st
    | _ => none
theorem xk_ife_eq (Γ : Tab) (cf : CF) (c : E) (a : E) (b : E) : evE Γ cf (.ife c a b) = xk_ife (evE Γ cf c) (evE Γ cf a) (evE Γ cf b) := rfl
theorem yk_ife {Γ : Tab} {cf : CF} {c : E} {a : E} {b : E} {X0 : RE} {X1 : RE} {X2 : RE} (h0 : evE Γ cf c = X0) (h1 : evE Γ cf a = X1) (h2 : evE Γ cf b = X2) : evE Γ cf (.ife c a b) = xk_ife X0 X1 X2 := by
  subst h0 h1 h2
  exact xk_ife_eq Γ cf c a b
def xk_tup  (es : RL)  : RE := fun ρ st => match es ρ st with
    | some (ds, ρ, st) => if ds.length ≤ lim then some (.tup ds, false, ρ, st) else none
    | none => none
@[simp] theorem xk_tup_ap  (es : RL)  (ρ : Ss) (st : St) : xk_tup es ρ st = match es ρ st with
    | some (ds, ρ, st) => if ds.length ≤ lim then some (.tup ds, false, ρ, st) else none
    | none => none := rfl
theorem xk_tup_eq (Γ : Tab) (cf : CF) (es : List E) : evE Γ cf (.tup es) = xk_tup (evL Γ cf es) := rfl
theorem yk_tup {Γ : Tab} {cf : CF} {es : List E} {X0 : RL} (h0 : evL Γ cf es = X0) : evE Γ cf (.tup es) = xk_tup X0 := by
  subst h0
  exact xk_tup_eq Γ cf es
def xk_lst  (es : RL)  : RE := fun ρ st => match es ρ st with
    | some (ds, ρ, st) => if ds.length ≤ lim then some (.lst ds, true, ρ, st) else none
    | none => none
@[simp] theorem xk_lst_ap  (es : RL)  (ρ : Ss) (st : St) : xk_lst es ρ st = match es ρ st with
    | some (ds, ρ, st) => if ds.length ≤ lim then some (.lst ds, true, ρ, st) else none
    | none => none := rfl
theorem xk_lst_eq (Γ : Tab) (cf : CF) (es : List E) : evE Γ cf (.lst es) = xk_lst (evL Γ cf es) := rfl
theorem yk_lst {Γ : Tab} {cf : CF} {es : List E} {X0 : RL} (h0 : evL Γ cf es = X0) : evE Γ cf (.lst es) = xk_lst X0 := by
  subst h0
  exact xk_lst_eq Γ cf es
def xk_newH  (es : RL)  : RE := fun ρ st => match es ρ st with
    | some (ds, ρ, st) => if ds.length ≤ lim then some (.ref st.length, false, ρ, st ++ [.lst ds]) else none
    | none => none
@[simp] theorem xk_newH_ap  (es : RL)  (ρ : Ss) (st : St) : xk_newH es ρ st = match es ρ st with
    | some (ds, ρ, st) => if ds.length ≤ lim then some (.ref st.length, false, ρ, st ++ [.lst ds]) else none
    | none => none := rfl
theorem xk_newH_eq (Γ : Tab) (cf : CF) (es : List E) : evE Γ cf (.newH es) = xk_newH (evL Γ cf es) := rfl
theorem yk_newH {Γ : Tab} {cf : CF} {es : List E} {X0 : RL} (h0 : evL Γ cf es = X0) : evE Γ cf (.newH es) = xk_newH X0 := by
  subst h0
  exact xk_newH_eq Γ cf es
def xk_star  (u0 : RE)  : RE := fun ρ st => none
@[simp] theorem xk_star_ap  (u0 : RE)  (ρ : Ss) (st : St) : xk_star u0 ρ st = none := rfl
theorem xk_star_eq (Γ : Tab) (cf : CF) (u0 : E) : evE Γ cf (.star u0) = xk_star (evE Γ cf u0) := rfl
theorem yk_star {Γ : Tab} {cf : CF} {u0 : E} {X0 : RE} (h0 : evE Γ cf u0 = X0) : evE Γ cf (.star u0) = xk_star X0 := by
  subst h0
  exact xk_star_eq Γ cf u0
def xk_dic  (kvs : RL) (n_kvs : Nat) : RE := fun ρ st => match kvs ρ st with
    | some (ds, ρ, st) => match mkDic ds [] [] with
      | some (ks, vs) => if n_kvs ≤ 30 then some (.dic ks vs, true, ρ, st) else none
      | none => none
    | none => none
@[simp] theorem xk_dic_ap  (kvs : RL) (n_kvs : Nat) (ρ : Ss) (st : St) : xk_dic kvs n_kvs ρ st = match kvs ρ st with
    | some (ds, ρ, st) => match mkDic ds [] [] with
      | some (ks, vs) => if n_kvs ≤ 30 then some (.dic ks vs, true, ρ, st) else none
      | none => none
    | none => none := rfl
theorem xk_dic_eq (Γ : Tab) (cf : CF) (kvs : List E) : evE Γ cf (.dic kvs) = xk_dic (evL Γ cf kvs) kvs.length := rfl
theorem yk_dic {Γ : Tab} {cf : CF} {kvs : List E} {X0 : RL} {n_kvs : Nat} (h0 : evL Γ cf kvs = X0) (g_n_kvs : kvs.length = n_kvs) : evE Γ cf (.dic kvs) = xk_dic X0 n_kvs := by
  subst h0 g_n_kvs
  exact xk_dic_eq Γ cf kvs
def xk_idx  (a : RE) (k : RE)  : RE := fun ρ st => match a ρ st with
    | some (x, _, ρ, st) => match k ρ st with
      | some (y, _, ρ, st) => match idxD x y with
        | some z => some (z, false, ρ, st)
        | none => none
      | none => none
    | none => none
@[simp] theorem xk_idx_ap  (a : RE) (k : RE)  (ρ : Ss) (st : St) : xk_idx a k ρ st = match a ρ st with
    | some (x, _, ρ, st) => match k ρ st with
      | some (y, _, ρ, st) => match idxD x y with
        | some z => some (z, false, ρ, st)
        | none => none
      | none => none
    | none => none := rfl
theorem xk_idx_eq (Γ : Tab) (cf : CF) (a : E) (k : E) : evE Γ cf (.idx a k) = xk_idx (evE Γ cf a) (evE Γ cf k) := rfl
theorem yk_idx {Γ : Tab} {cf : CF} {a : E} {k : E} {X0 : RE} {X1 : RE} (h0 : evE Γ cf a = X0) (h1 : evE Γ cf k = X1) : evE Γ cf (.idx a k) = xk_idx X0 X1 := by
  subst h0 h1
  exact xk_idx_eq Γ cf a k
def xk_idxO  (i : Nat) (k : RE)  : RE := fun ρ st => match slotD ρ st i with
    | none => none
    | some _ => match k ρ st with
      | some (y, _, ρ, st) => match slotD ρ st i with
        | some x => match idxD x y with
          | some z => some (z, false, ρ, st)
          | none => none
        | none => none
      | none => none
@[simp] theorem xk_idxO_ap  (i : Nat) (k : RE)  (ρ : Ss) (st : St) : xk_idxO i k ρ st = match slotD ρ st i with
    | none => none
    | some _ => match k ρ st with
      | some (y, _, ρ, st) => match slotD ρ st i with
        | some x => match idxD x y with
          | some z => some (z, false, ρ, st)
          | none => none
        | none => none
      | none => none := rfl
theorem xk_idxO_eq (Γ : Tab) (cf : CF) (i : Nat) (k : E) : evE Γ cf (.idxO i k) = xk_idxO i (evE Γ cf k) := rfl
theorem yk_idxO {Γ : Tab} {cf : CF} {i : Nat} {k : E} {X1 : RE} (h1 : evE Γ cf k = X1) : evE Γ cf (.idxO i k) = xk_idxO i X1 := by
  subst h1
  exact xk_idxO_eq Γ cf i k
def xk_omit    : RE := fun ρ st => some (.non, false, ρ, st)
@[simp] theorem xk_omit_ap    (ρ : Ss) (st : St) : xk_omit  ρ st = some (.non, false, ρ, st) := rfl
theorem xk_omit_eq (Γ : Tab) (cf : CF)  : evE Γ cf (.omit) = xk_omit := rfl
theorem yk_omit {Γ : Tab} {cf : CF}    : evE Γ cf (.omit) = xk_omit := by
  exact xk_omit_eq Γ cf 
def xk_slc  (a : RE) (lo : RE) (hi : RE) (o_lo : Bool) (o_hi : Bool) : RE := fun ρ st => match a ρ st with
    | some (x, _, ρ, st) => match lo ρ st with
      | some (y, _, ρ, st) => match hi ρ st with
        | some (z, _, ρ, st) => match slcD x (bndK o_lo y) (bndK o_hi z) with
          | some (r, f) => some (r, f, ρ, st)
          | none => none
        | none => none
      | none => none
    | none => none
@[simp] theorem xk_slc_ap  (a : RE) (lo : RE) (hi : RE) (o_lo : Bool) (o_hi : Bool) (ρ : Ss) (st : St) : xk_slc a lo hi o_lo o_hi ρ st = match a ρ st with
    | some (x, _, ρ, st) => match lo ρ st with
      | some (y, _, ρ, st) => match hi ρ st with
        | some (z, _, ρ, st) => match slcD x (bndK o_lo y) (bndK o_hi z) with
          | some (r, f) => some (r, f, ρ, st)
          | none => none
        | none => none
      | none => none
    | none => none := rfl
theorem xk_slc_eq (Γ : Tab) (cf : CF) (a : E) (lo : E) (hi : E) : evE Γ cf (.slc a lo hi) = xk_slc (evE Γ cf a) (evE Γ cf lo) (evE Γ cf hi) (isOm lo) (isOm hi) := by
  funext ρ st
  simp only [evE, xk_slc, bndK_eq] <;> rfl
theorem yk_slc {Γ : Tab} {cf : CF} {a : E} {lo : E} {hi : E} {X0 : RE} {X1 : RE} {X2 : RE} {o_lo : Bool} {o_hi : Bool} (h0 : evE Γ cf a = X0) (h1 : evE Γ cf lo = X1) (h2 : evE Γ cf hi = X2) (g_o_lo : (isOm lo) = o_lo) (g_o_hi : (isOm hi) = o_hi) : evE Γ cf (.slc a lo hi) = xk_slc X0 X1 X2 o_lo o_hi := by
  subst h0 h1 h2 g_o_lo g_o_hi
  exact xk_slc_eq Γ cf a lo hi
def xk_slcO  (i : Nat) (lo : RE) (hi : RE) (o_lo : Bool) (o_hi : Bool) : RE := fun ρ st => match slotD ρ st i with
    | none => none
    | some _ => match lo ρ st with
      | some (y, _, ρ, st) => match hi ρ st with
        | some (z, _, ρ, st) => match slotD ρ st i with
          | some x => match slcD x (bndK o_lo y) (bndK o_hi z) with
            | some (r, f) => some (r, f, ρ, st)
            | none => none
          | none => none
        | none => none
      | none => none
@[simp] theorem xk_slcO_ap  (i : Nat) (lo : RE) (hi : RE) (o_lo : Bool) (o_hi : Bool) (ρ : Ss) (st : St) : xk_slcO i lo hi o_lo o_hi ρ st = match slotD ρ st i with
    | none => none
    | some _ => match lo ρ st with
      | some (y, _, ρ, st) => match hi ρ st with
        | some (z, _, ρ, st) => match slotD ρ st i with
          | some x => match slcD x (bndK o_lo y) (bndK o_hi z) with
            | some (r, f) => some (r, f, ρ, st)
            | none => none
          | none => none
        | none => none
      | none => none := rfl
theorem xk_slcO_eq (Γ : Tab) (cf : CF) (i : Nat) (lo : E) (hi : E) : evE Γ cf (.slcO i lo hi) = xk_slcO i (evE Γ cf lo) (evE Γ cf hi) (isOm lo) (isOm hi) := by
  funext ρ st
  simp only [evE, xk_slcO, bndK_eq] <;> rfl
theorem yk_slcO {Γ : Tab} {cf : CF} {i : Nat} {lo : E} {hi : E} {X1 : RE} {X2 : RE} {o_lo : Bool} {o_hi : Bool} (h1 : evE Γ cf lo = X1) (h2 : evE Γ cf hi = X2) (g_o_lo : (isOm lo) = o_lo) (g_o_hi : (isOm hi) = o_hi) : evE Γ cf (.slcO i lo hi) = xk_slcO i X1 X2 o_lo o_hi := by
  subst h1 h2 g_o_lo g_o_hi
  exact xk_slcO_eq Γ cf i lo hi
def xk_rev  (a : RE)  : RE := fun ρ st => match a ρ st with
    | some (x, _, ρ, st) => match revD x with
      | some (r, f) => some (r, f, ρ, st)
      | none => none
    | none => none
@[simp] theorem xk_rev_ap  (a : RE)  (ρ : Ss) (st : St) : xk_rev a ρ st = match a ρ st with
    | some (x, _, ρ, st) => match revD x with
      | some (r, f) => some (r, f, ρ, st)
      | none => none
    | none => none := rfl
theorem xk_rev_eq (Γ : Tab) (cf : CF) (a : E) : evE Γ cf (.rev a) = xk_rev (evE Γ cf a) := rfl
theorem yk_rev {Γ : Tab} {cf : CF} {a : E} {X0 : RE} (h0 : evE Γ cf a = X0) : evE Γ cf (.rev a) = xk_rev X0 := by
  subst h0
  exact xk_rev_eq Γ cf a
def xk_call (cf : CF) (f : Str) (args : RL)  : RE := fun ρ st => match args ρ st with
    | some (ds, ρ, st) => match cf f ds st with
      | some (d, fr, st) => some (d, fr, ρ, st)
      | none => none
    | none => none
@[simp] theorem xk_call_ap (cf : CF) (f : Str) (args : RL)  (ρ : Ss) (st : St) : xk_call cf f args ρ st = match args ρ st with
    | some (ds, ρ, st) => match cf f ds st with
      | some (d, fr, st) => some (d, fr, ρ, st)
      | none => none
    | none => none := rfl
theorem xk_call_eq (Γ : Tab) (cf : CF) (f : Str) (args : List E) : evE Γ cf (.call f args) = xk_call cf f (evL Γ cf args) := rfl
theorem yk_call {Γ : Tab} {cf : CF} {f : Str} {args : List E} {X1 : RL} (h1 : evL Γ cf args = X1) : evE Γ cf (.call f args) = xk_call cf f X1 := by
  subst h1
  exact xk_call_eq Γ cf f args
def xk_callK (cf : CF) (f : Str) (pm : List Nat) (args : RL)  : RE := fun ρ st => match args ρ st with
    | some (ds, ρ, st) => match cf f (pickV .non pm ds) st with
      | some (d, fr, st) => some (d, fr, ρ, st)
      | none => none
    | none => none
@[simp] theorem xk_callK_ap (cf : CF) (f : Str) (pm : List Nat) (args : RL)  (ρ : Ss) (st : St) : xk_callK cf f pm args ρ st = match args ρ st with
    | some (ds, ρ, st) => match cf f (pickV .non pm ds) st with
      | some (d, fr, st) => some (d, fr, ρ, st)
      | none => none
    | none => none := rfl
theorem xk_callK_eq (Γ : Tab) (cf : CF) (f : Str) (pm : List Nat) (args : List E) : evE Γ cf (.callK f pm args) = xk_callK cf f pm (evL Γ cf args) := rfl
theorem yk_callK {Γ : Tab} {cf : CF} {f : Str} {pm : List Nat} {args : List E} {X2 : RL} (h2 : evL Γ cf args = X2) : evE Γ cf (.callK f pm args) = xk_callK cf f pm X2 := by
  subst h2
  exact xk_callK_eq Γ cf f pm args
def xk_callv (cf : CF) (i : Nat) (args : RL)  : RE := fun ρ st => match ρ[i]? with
    | some (.val (.fn f)) => match args ρ st with
      | some (ds, ρ, st) => match cf f ds st with
        | some (d, fr, st) => some (d, fr, ρ, st)
        | none => none
      | none => none
    | _ => none
@[simp] theorem xk_callv_ap (cf : CF) (i : Nat) (args : RL)  (ρ : Ss) (st : St) : xk_callv cf i args ρ st = match ρ[i]? with
    | some (.val (.fn f)) => match args ρ st with
      | some (ds, ρ, st) => match cf f ds st with
        | some (d, fr, st) => some (d, fr, ρ, st)
        | none => none
      | none => none
    | _ => none := rfl
theorem xk_callv_eq (Γ : Tab) (cf : CF) (i : Nat) (args : List E) : evE Γ cf (.callv i args) = xk_callv cf i (evL Γ cf args) := rfl
theorem yk_callv {Γ : Tab} {cf : CF} {i : Nat} {args : List E} {X1 : RL} (h1 : evL Γ cf args = X1) : evE Γ cf (.callv i args) = xk_callv cf i X1 := by
  subst h1
  exact xk_callv_eq Γ cf i args
def xk_blt  (b : Blt) (args : RL)  : RE := fun ρ st => match args ρ st with
    | some (ds, ρ, st) => match bltD b ds with
      | some (d, fr) => some (d, fr, ρ, st)
      | none => none
    | none => none
@[simp] theorem xk_blt_ap  (b : Blt) (args : RL)  (ρ : Ss) (st : St) : xk_blt b args ρ st = match args ρ st with
    | some (ds, ρ, st) => match bltD b ds with
      | some (d, fr) => some (d, fr, ρ, st)
      | none => none
    | none => none := rfl
theorem xk_blt_eq (Γ : Tab) (cf : CF) (b : Blt) (args : List E) : evE Γ cf (.blt b args) = xk_blt b (evL Γ cf args) := rfl
theorem yk_blt {Γ : Tab} {cf : CF} {b : Blt} {args : List E} {X1 : RL} (h1 : evL Γ cf args = X1) : evE Γ cf (.blt b args) = xk_blt b X1 := by
  subst h1
  exact xk_blt_eq Γ cf b args
def xk_lenO  (i : Nat)  : RE := fun ρ st => match slotD ρ st i with
    | some d => match lenD d with
      | some n => some (.int n, false, ρ, st)
      | none => none
    | none => none
@[simp] theorem xk_lenO_ap  (i : Nat)  (ρ : Ss) (st : St) : xk_lenO i ρ st = match slotD ρ st i with
    | some d => match lenD d with
      | some n => some (.int n, false, ρ, st)
      | none => none
    | none => none := rfl
theorem xk_lenO_eq (Γ : Tab) (cf : CF) (i : Nat) : evE Γ cf (.lenO i) = xk_lenO i := rfl
theorem yk_lenO {Γ : Tab} {cf : CF} {i : Nat}   : evE Γ cf (.lenO i) = xk_lenO i := by
  exact xk_lenO_eq Γ cf i
def xk_mth  (m : Mth) (a : RE) (args : RL)  : RE := fun ρ st => match a ρ st with
    | some (x, _, ρ, st) => match args ρ st with
      | some (ds, ρ, st) => match mthD m x ds with
        | some (d, fr) => some (d, fr, ρ, st)
        | none => none
      | none => none
    | none => none
@[simp] theorem xk_mth_ap  (m : Mth) (a : RE) (args : RL)  (ρ : Ss) (st : St) : xk_mth m a args ρ st = match a ρ st with
    | some (x, _, ρ, st) => match args ρ st with
      | some (ds, ρ, st) => match mthD m x ds with
        | some (d, fr) => some (d, fr, ρ, st)
        | none => none
      | none => none
    | none => none := rfl
theorem xk_mth_eq (Γ : Tab) (cf : CF) (m : Mth) (a : E) (args : List E) : evE Γ cf (.mth m a args) = xk_mth m (evE Γ cf a) (evL Γ cf args) := rfl
theorem yk_mth {Γ : Tab} {cf : CF} {m : Mth} {a : E} {args : List E} {X1 : RE} {X2 : RL} (h1 : evE Γ cf a = X1) (h2 : evL Γ cf args = X2) : evE Γ cf (.mth m a args) = xk_mth m X1 X2 := by
  subst h1 h2
  exact xk_mth_eq Γ cf m a args
def xk_mthO  (m : Mth) (i : Nat) (args : RL)  : RE := fun ρ st => match slotD ρ st i with
    | none => none
    | some _ => match args ρ st with
      | some (ds, ρ, st) => match slotD ρ st i with
        | some x => match mthD m x ds with
          | some (d, fr) => some (d, fr, ρ, st)
          | none => none
        | none => none
      | none => none
@[simp] theorem xk_mthO_ap  (m : Mth) (i : Nat) (args : RL)  (ρ : Ss) (st : St) : xk_mthO m i args ρ st = match slotD ρ st i with
    | none => none
    | some _ => match args ρ st with
      | some (ds, ρ, st) => match slotD ρ st i with
        | some x => match mthD m x ds with
          | some (d, fr) => some (d, fr, ρ, st)
          | none => none
        | none => none
      | none => none := rfl
theorem xk_mthO_eq (Γ : Tab) (cf : CF) (m : Mth) (i : Nat) (args : List E) : evE Γ cf (.mthO m i args) = xk_mthO m i (evL Γ cf args) := rfl
theorem yk_mthO {Γ : Tab} {cf : CF} {m : Mth} {i : Nat} {args : List E} {X2 : RL} (h2 : evL Γ cf args = X2) : evE Γ cf (.mthO m i args) = xk_mthO m i X2 := by
  subst h2
  exact xk_mthO_eq Γ cf m i args
def xk_popO  (i : Nat) (args : RL)  : RE := fun ρ st => match slotD ρ st i with
    | none => none
    | some _ => match args ρ st with
      | some (ds, ρ, st) => match ownD ρ st i with
        | some c => match popD c ds with
          | some (d, c) => match setOwn ρ st i c with
            | some (ρ, st) => some (d, false, ρ, st)
            | none => none
          | none => none
        | none => none
      | none => none
@[simp] theorem xk_popO_ap  (i : Nat) (args : RL)  (ρ : Ss) (st : St) : xk_popO i args ρ st = match slotD ρ st i with
    | none => none
    | some _ => match args ρ st with
      | some (ds, ρ, st) => match ownD ρ st i with
        | some c => match popD c ds with
          | some (d, c) => match setOwn ρ st i c with
            | some (ρ, st) => some (d, false, ρ, st)
            | none => none
          | none => none
        | none => none
      | none => none := rfl
theorem xk_popO_eq (Γ : Tab) (cf : CF) (i : Nat) (args : List E) : evE Γ cf (.popO i args) = xk_popO i (evL Γ cf args) := rfl
theorem yk_popO {Γ : Tab} {cf : CF} {i : Nat} {args : List E} {X1 : RL} (h1 : evL Γ cf args = X1) : evE Γ cf (.popO i args) = xk_popO i X1 := by
  subst h1
  exact xk_popO_eq Γ cf i args
def xk_lenset  (es : RL) (n_es : Nat) : RE := fun ρ st => match es ρ st with
    | some (ds, ρ, st) => match intsOf ds with
      | some l => if n_es ≤ 30 then some (.int (dedupI l).length, false, ρ, st) else none
      | none => none
    | none => none
@[simp] theorem xk_lenset_ap  (es : RL) (n_es : Nat) (ρ : Ss) (st : St) : xk_lenset es n_es ρ st = match es ρ st with
    | some (ds, ρ, st) => match intsOf ds with
      | some l => if n_es ≤ 30 then some (.int (dedupI l).length, false, ρ, st) else none
      | none => none
    | none => none := rfl
theorem xk_lenset_eq (Γ : Tab) (cf : CF) (es : List E) : evE Γ cf (.lenset es) = xk_lenset (evL Γ cf es) es.length := rfl
theorem yk_lenset {Γ : Tab} {cf : CF} {es : List E} {X0 : RL} {n_es : Nat} (h0 : evL Γ cf es = X0) (g_n_es : es.length = n_es) : evE Γ cf (.lenset es) = xk_lenset X0 n_es := by
  subst h0 g_n_es
  exact xk_lenset_eq Γ cf es
def xk_isi  (t : Ty) (a : RE)  : RE := fun ρ st => match a ρ st with
    | some (x, _, ρ, st) => match isTy t x with
      | some b => some (.bl b, false, ρ, st)
      | none => none
    | none => none
@[simp] theorem xk_isi_ap  (t : Ty) (a : RE)  (ρ : Ss) (st : St) : xk_isi t a ρ st = match a ρ st with
    | some (x, _, ρ, st) => match isTy t x with
      | some b => some (.bl b, false, ρ, st)
      | none => none
    | none => none := rfl
theorem xk_isi_eq (Γ : Tab) (cf : CF) (t : Ty) (a : E) : evE Γ cf (.isi t a) = xk_isi t (evE Γ cf a) := rfl
theorem yk_isi {Γ : Tab} {cf : CF} {t : Ty} {a : E} {X1 : RE} (h1 : evE Γ cf a = X1) : evE Γ cf (.isi t a) = xk_isi t X1 := by
  subst h1
  exact xk_isi_eq Γ cf t a
def xk_srtSet  (a : RE)  : RE := fun ρ st => match a ρ st with
    | some (x, _, ρ, st) => match sortSetD x with
      | some (d, f) => some (d, f, ρ, st)
      | none => none
    | none => none
@[simp] theorem xk_srtSet_ap  (a : RE)  (ρ : Ss) (st : St) : xk_srtSet a ρ st = match a ρ st with
    | some (x, _, ρ, st) => match sortSetD x with
      | some (d, f) => some (d, f, ρ, st)
      | none => none
    | none => none := rfl
theorem xk_srtSet_eq (Γ : Tab) (cf : CF) (a : E) : evE Γ cf (.srtSet a) = xk_srtSet (evE Γ cf a) := rfl
theorem yk_srtSet {Γ : Tab} {cf : CF} {a : E} {X0 : RE} (h0 : evE Γ cf a = X0) : evE Γ cf (.srtSet a) = xk_srtSet X0 := by
  subst h0
  exact xk_srtSet_eq Γ cf a
def xk_lenSet  (a : RE)  : RE := fun ρ st => match a ρ st with
    | some (x, _, ρ, st) => match lenSetD x with
      | some (d, f) => some (d, f, ρ, st)
      | none => none
    | none => none
@[simp] theorem xk_lenSet_ap  (a : RE)  (ρ : Ss) (st : St) : xk_lenSet a ρ st = match a ρ st with
    | some (x, _, ρ, st) => match lenSetD x with
      | some (d, f) => some (d, f, ρ, st)
      | none => none
    | none => none := rfl
theorem xk_lenSet_eq (Γ : Tab) (cf : CF) (a : E) : evE Γ cf (.lenSet a) = xk_lenSet (evE Γ cf a) := rfl
theorem yk_lenSet {Γ : Tab} {cf : CF} {a : E} {X0 : RE} (h0 : evE Γ cf a = X0) : evE Γ cf (.lenSet a) = xk_lenSet X0 := by
  subst h0
  exact xk_lenSet_eq Γ cf a
def xk_comp  (tg : RT) (it : RE) (ifs : RI) (elt : RE) (vars : List Nat)  : RE := fun ρ st => match it ρ st with
    | some (x, _, ρ1, st) => match itemsD x with
      | some ds => match gath (fun d ρ st => match tg d (wipeS ρ vars) st with
          | some (ρ, st) => match ifs ρ st with
            | some (true, ρ, st) => match elt ρ st with
              | some (y, _, ρ, st) => some ([y], ρ, st)
              | none => none
            | some (false, ρ, st) => some ([], ρ, st)
            | none => none
          | none => none) ds ρ1 st with
        | some (ys, ρ2, st) => if ys.length ≤ lim then some (.lst ys, true, restS ρ1 ρ2 vars, st) else none
        | none => none
      | none => none
    | none => none
theorem xk_comp_ap  (tg : RT) (it : RE) (ifs : RI) (elt : RE) (vars : List Nat)  (ρ : Ss) (st : St) : xk_comp tg it ifs elt vars ρ st = match it ρ st with
    | some (x, _, ρ1, st) => match itemsD x with
      | some ds => match gath (fun d ρ st => match tg d (wipeS ρ vars) st with
          | some (ρ, st) => match ifs ρ st with
            | some (true, ρ, st) => match elt ρ st with
              | some (y, _, ρ, st) => some ([y], ρ, st)
              | none => none
            | some (false, ρ, st) => some ([], ρ, st)
            | none => none
          | none => none) ds ρ1 st with
        | some (ys, ρ2, st) => if ys.length ≤ lim then some (.lst ys, true, restS ρ1 ρ2 vars, st) else none
        | none => none
      | none => none
    | none => none := rfl
theorem xk_comp_eq (Γ : Tab) (cf : CF) (tg : E) (it : E) (ifs : List E) (elt : E) (vars : List Nat) : evE Γ cf (.comp tg it ifs elt vars) = xk_comp (evT Γ cf tg) (evE Γ cf it) (evIfs Γ cf ifs) (evE Γ cf elt) vars := rfl
theorem yk_comp {Γ : Tab} {cf : CF} {tg : E} {it : E} {ifs : List E} {elt : E} {vars : List Nat} {X0 : RT} {X1 : RE} {X2 : RI} {X3 : RE} (h0 : evT Γ cf tg = X0) (h1 : evE Γ cf it = X1) (h2 : evIfs Γ cf ifs = X2) (h3 : evE Γ cf elt = X3) : evE Γ cf (.comp tg it ifs elt vars) = xk_comp X0 X1 X2 X3 vars := by
  subst h0 h1 h2 h3
  exact xk_comp_eq Γ cf tg it ifs elt vars
def xk_comp2  (tg : RT) (it : RE) (ifs : RI) (tg' : RT) (it' : RE) (ifs' : RI) (elt : RE) (vars : List Nat) (vars' : List Nat)  : RE := fun ρ st => match it ρ st with
    | some (x, _, ρ1, st) => match itemsD x with
      | some ds => match gath (fun d ρ st => match tg d (wipeS ρ vars) st with
          | some (ρ, st) => match ifs ρ st with
            | some (true, ρ, st) => match it' ρ st with
              | some (x', _, ρ, st) => match itemsD x' with
                | some ds' => gath (fun d' ρ st => match tg' d' (wipeS ρ vars') st with
                    | some (ρ, st) => match ifs' ρ st with
                      | some (true, ρ, st) => match elt ρ st with
                        | some (y, _, ρ, st) => some ([y], ρ, st)
                        | none => none
                      | some (false, ρ, st) => some ([], ρ, st)
                      | none => none
                    | none => none) ds' ρ st
                | none => none
              | none => none
            | some (false, ρ, st) => some ([], ρ, st)
            | none => none
          | none => none) ds ρ1 st with
        | some (ys, ρ2, st) => if ys.length ≤ lim then some (.lst ys, true, restS ρ1 ρ2 vars, st) else none
        | none => none
      | none => none
    | none => none
theorem xk_comp2_ap  (tg : RT) (it : RE) (ifs : RI) (tg' : RT) (it' : RE) (ifs' : RI) (elt : RE) (vars : List Nat) (vars' : List Nat)  (ρ : Ss) (st : St) : xk_comp2 tg it ifs tg' it' ifs' elt vars vars' ρ st = match it ρ st with
    | some (x, _, ρ1, st) => match itemsD x with
      | some ds => match gath (fun d ρ st => match tg d (wipeS ρ vars) st with
          | some (ρ, st) => match ifs ρ st with
            | some (true, ρ, st) => match it' ρ st with
              | some (x', _, ρ, st) => match itemsD x' with
                | some ds' => gath (fun d' ρ st => match tg' d' (wipeS ρ vars') st with
                    | some (ρ, st) => match ifs' ρ st with
                      | some (true, ρ, st) => match elt ρ st with
                        | some (y, _, ρ, st) => some ([y], ρ, st)
                        | none => none
                      | some (false, ρ, st) => some ([], ρ, st)
                      | none => none
                    | none => none) ds' ρ st
                | none => none
              | none => none
            | some (false, ρ, st) => some ([], ρ, st)
            | none => none
          | none => none) ds ρ1 st with
        | some (ys, ρ2, st) => if ys.length ≤ lim then some (.lst ys, true, restS ρ1 ρ2 vars, st) else none
        | none => none
      | none => none
    | none => none := rfl
theorem xk_comp2_eq (Γ : Tab) (cf : CF) (tg : E) (it : E) (ifs : List E) (tg' : E) (it' : E) (ifs' : List E) (elt : E) (vars : List Nat) (vars' : List Nat) : evE Γ cf (.comp2 tg it ifs tg' it' ifs' elt vars vars') = xk_comp2 (evT Γ cf tg) (evE Γ cf it) (evIfs Γ cf ifs) (evT Γ cf tg') (evE Γ cf it') (evIfs Γ cf ifs') (evE Γ cf elt) vars vars' := rfl
theorem yk_comp2 {Γ : Tab} {cf : CF} {tg : E} {it : E} {ifs : List E} {tg' : E} {it' : E} {ifs' : List E} {elt : E} {vars : List Nat} {vars' : List Nat} {X0 : RT} {X1 : RE} {X2 : RI} {X3 : RT} {X4 : RE} {X5 : RI} {X6 : RE} (h0 : evT Γ cf tg = X0) (h1 : evE Γ cf it = X1) (h2 : evIfs Γ cf ifs = X2) (h3 : evT Γ cf tg' = X3) (h4 : evE Γ cf it' = X4) (h5 : evIfs Γ cf ifs' = X5) (h6 : evE Γ cf elt = X6) : evE Γ cf (.comp2 tg it ifs tg' it' ifs' elt vars vars') = xk_comp2 X0 X1 X2 X3 X4 X5 X6 vars vars' := by
  subst h0 h1 h2 h3 h4 h5 h6
  exact xk_comp2_eq Γ cf tg it ifs tg' it' ifs' elt vars vars'
def xk_rng  (args : RL)  : RE := fun ρ st => match args ρ st with
    | some ([.int n], ρ, st) => if n ≤ lim ∧ -lim ≤ n then some (.lst ((List.range n.toNat).map fun (k : Nat) => D.int (k : Int)), true, ρ, st) else none
    | some ([.int m, .int n], ρ, st) => if -lim ≤ m ∧ m ≤ lim ∧ n - m ≤ lim ∧ n ≤ lim ∧ -lim ≤ n then some (.lst ((List.range (n - m).toNat).map fun (k : Nat) => D.int (m + (k : Int))), true, ρ, st) else none
    | _ => none
@[simp] theorem xk_rng_ap  (args : RL)  (ρ : Ss) (st : St) : xk_rng args ρ st = match args ρ st with
    | some ([.int n], ρ, st) => if n ≤ lim ∧ -lim ≤ n then some (.lst ((List.range n.toNat).map fun (k : Nat) => D.int (k : Int)), true, ρ, st) else none
    | some ([.int m, .int n], ρ, st) => if -lim ≤ m ∧ m ≤ lim ∧ n - m ≤ lim ∧ n ≤ lim ∧ -lim ≤ n then some (.lst ((List.range (n - m).toNat).map fun (k : Nat) => D.int (m + (k : Int))), true, ρ, st) else none
    | _ => none := rfl
theorem xk_rng_eq (Γ : Tab) (cf : CF) (args : List E) : evE Γ cf (.rng args) = xk_rng (evL Γ cf args) := rfl
theorem yk_rng {Γ : Tab} {cf : CF} {args : List E} {X0 : RL} (h0 : evL Γ cf args = X0) : evE Γ cf (.rng args) = xk_rng X0 := by
  subst h0
  exact xk_rng_eq Γ cf args
def xk_zip  (a : RE) (b : RE)  : RE := fun ρ st => match a ρ st with
    | some (x, _, ρ, st) => match b ρ st with
      | some (y, _, ρ, st) => match seqD x, seqD y with
        | some xs, some ys => some (.lst ((xs.zip ys).map fun p => .tup [p.1, p.2]), true, ρ, st)
        | _, _ => none
      | none => none
    | none => none
@[simp] theorem xk_zip_ap  (a : RE) (b : RE)  (ρ : Ss) (st : St) : xk_zip a b ρ st = match a ρ st with
    | some (x, _, ρ, st) => match b ρ st with
      | some (y, _, ρ, st) => match seqD x, seqD y with
        | some xs, some ys => some (.lst ((xs.zip ys).map fun p => .tup [p.1, p.2]), true, ρ, st)
        | _, _ => none
      | none => none
    | none => none := rfl
theorem xk_zip_eq (Γ : Tab) (cf : CF) (a : E) (b : E) : evE Γ cf (.zip a b) = xk_zip (evE Γ cf a) (evE Γ cf b) := rfl
theorem yk_zip {Γ : Tab} {cf : CF} {a : E} {b : E} {X0 : RE} {X1 : RE} (h0 : evE Γ cf a = X0) (h1 : evE Γ cf b = X1) : evE Γ cf (.zip a b) = xk_zip X0 X1 := by
  subst h0 h1
  exact xk_zip_eq Γ cf a b
def xk_enu  (a : RE)  : RE := fun ρ st => match a ρ st with
    | some (x, _, ρ, st) => match seqD x with
      | some xs => some (.lst (xs.zipIdx.map fun p => .tup [.int p.2, p.1]), true, ρ, st)
      | none => none
    | none => none
@[simp] theorem xk_enu_ap  (a : RE)  (ρ : Ss) (st : St) : xk_enu a ρ st = match a ρ st with
    | some (x, _, ρ, st) => match seqD x with
      | some xs => some (.lst (xs.zipIdx.map fun p => .tup [.int p.2, p.1]), true, ρ, st)
      | none => none
    | none => none := rfl
theorem xk_enu_eq (Γ : Tab) (cf : CF) (a : E) : evE Γ cf (.enu a) = xk_enu (evE Γ cf a) := rfl
theorem yk_enu {Γ : Tab} {cf : CF} {a : E} {X0 : RE} (h0 : evE Γ cf a = X0) : evE Γ cf (.enu a) = xk_enu X0 := by
  subst h0
  exact xk_enu_eq Γ cf a
def xk_comb  (a : RE) (k : RE)  : RE := fun ρ st => match a ρ st with
    | some (x, _, ρ, st) => match k ρ st with
      | some (.int n, _, ρ, st) => match itemsD x with
        | some xs => if 0 ≤ n then some (.lst ((combs n.toNat xs).map .tup), true, ρ, st) else none
        | none => none
      | _ => none
    | none => none
@[simp] theorem xk_comb_ap  (a : RE) (k : RE)  (ρ : Ss) (st : St) : xk_comb a k ρ st = match a ρ st with
    | some (x, _, ρ, st) => match k ρ st with
      | some (.int n, _, ρ, st) => match itemsD x with
        | some xs => if 0 ≤ n then some (.lst ((combs n.toNat xs).map .tup), true, ρ, st) else none
        | none => none
      | _ => none
    | none => none := rfl
theorem xk_comb_eq (Γ : Tab) (cf : CF) (a : E) (k : E) : evE Γ cf (.comb a k) = xk_comb (evE Γ cf a) (evE Γ cf k) := rfl
theorem yk_comb {Γ : Tab} {cf : CF} {a : E} {k : E} {X0 : RE} {X1 : RE} (h0 : evE Γ cf a = X0) (h1 : evE Γ cf k = X1) : evE Γ cf (.comb a k) = xk_comb X0 X1 := by
  subst h0 h1
  exact xk_comb_eq Γ cf a k
def xk_items  (a : RE)  : RE := fun ρ st => match a ρ st with
    | some (.dic ks vs, _, ρ, st) => some (.lst ((ks.zip vs).map fun p => .tup [p.1, p.2]), true, ρ, st)
    | _ => none
@[simp] theorem xk_items_ap  (a : RE)  (ρ : Ss) (st : St) : xk_items a ρ st = match a ρ st with
    | some (.dic ks vs, _, ρ, st) => some (.lst ((ks.zip vs).map fun p => .tup [p.1, p.2]), true, ρ, st)
    | _ => none := rfl
theorem xk_items_eq (Γ : Tab) (cf : CF) (a : E) : evE Γ cf (.items a) = xk_items (evE Γ cf a) := rfl
theorem yk_items {Γ : Tab} {cf : CF} {a : E} {X0 : RE} (h0 : evE Γ cf a = X0) : evE Γ cf (.items a) = xk_items X0 := by
  subst h0
  exact xk_items_eq Γ cf a
def xk_itemsO  (i : Nat)  : RE := fun ρ st => match slotD ρ st i with
    | some (.dic ks vs) => some (.lst ((ks.zip vs).map fun p => .tup [p.1, p.2]), true, ρ, st)
    | _ => none
@[simp] theorem xk_itemsO_ap  (i : Nat)  (ρ : Ss) (st : St) : xk_itemsO i ρ st = match slotD ρ st i with
    | some (.dic ks vs) => some (.lst ((ks.zip vs).map fun p => .tup [p.1, p.2]), true, ρ, st)
    | _ => none := rfl
theorem xk_itemsO_eq (Γ : Tab) (cf : CF) (i : Nat) : evE Γ cf (.itemsO i) = xk_itemsO i := rfl
theorem yk_itemsO {Γ : Tab} {cf : CF} {i : Nat}   : evE Γ cf (.itemsO i) = xk_itemsO i := by
  exact xk_itemsO_eq Γ cf i
def xk_it  (a : RE)  : RE := fun ρ st => a ρ st
@[simp] theorem xk_it_ap  (a : RE)  (ρ : Ss) (st : St) : xk_it a ρ st = a ρ st := rfl
theorem xk_it_eq (Γ : Tab) (cf : CF) (a : E) : evE Γ cf (.it a) = xk_it (evE Γ cf a) := rfl
theorem yk_it {Γ : Tab} {cf : CF} {a : E} {X0 : RE} (h0 : evE Γ cf a = X0) : evE Γ cf (.it a) = xk_it X0 := by
  subst h0
  exact xk_it_eq Γ cf a
def xk_lof  (s : RE)  : RE := fun ρ st => match s ρ st with
    | some (.lst ds, _, ρ, st) => some (.lst ds, true, ρ, st)
    | _ => none
@[simp] theorem xk_lof_ap  (s : RE)  (ρ : Ss) (st : St) : xk_lof s ρ st = match s ρ st with
    | some (.lst ds, _, ρ, st) => some (.lst ds, true, ρ, st)
    | _ => none := rfl
theorem xk_lof_eq (Γ : Tab) (cf : CF) (s : E) : evE Γ cf (.lof s) = xk_lof (evE Γ cf s) := rfl
theorem yk_lof {Γ : Tab} {cf : CF} {s : E} {X0 : RE} (h0 : evE Γ cf s = X0) : evE Γ cf (.lof s) = xk_lof X0 := by
  subst h0
  exact xk_lof_eq Γ cf s
def xk_tof  (s : RE)  : RE := fun ρ st => match s ρ st with
    | some (.lst ds, _, ρ, st) => some (.tup ds, false, ρ, st)
    | _ => none
@[simp] theorem xk_tof_ap  (s : RE)  (ρ : Ss) (st : St) : xk_tof s ρ st = match s ρ st with
    | some (.lst ds, _, ρ, st) => some (.tup ds, false, ρ, st)
    | _ => none := rfl
theorem xk_tof_eq (Γ : Tab) (cf : CF) (s : E) : evE Γ cf (.tof s) = xk_tof (evE Γ cf s) := rfl
theorem yk_tof {Γ : Tab} {cf : CF} {s : E} {X0 : RE} (h0 : evE Γ cf s = X0) : evE Γ cf (.tof s) = xk_tof X0 := by
  subst h0
  exact xk_tof_eq Γ cf s
def xl_nil : RL := fun ρ st => some ([], ρ, st)
theorem xl_nil_eq (Γ : Tab) (cf : CF) : evL Γ cf [] = xl_nil := rfl
def xl_star (e : RE) (es : RL) : RL := fun ρ st => match e ρ st with
    | some (x, _, ρ, st) => match seqD x with
      | some ds => match es ρ st with
        | some (r, ρ, st) => some (ds ++ r, ρ, st)
        | none => none
      | none => none
    | none => none
theorem xl_star_eq (Γ : Tab) (cf : CF) (e : E) (es : List E) : evL Γ cf (.star e :: es) = xl_star (evE Γ cf e) (evL Γ cf es) := rfl
def xl_cons (e : RE) (es : RL) : RL := fun ρ st => match e ρ st with
    | some (d, _, ρ, st) => match es ρ st with
      | some (ds, ρ, st) => some (d :: ds, ρ, st)
      | none => none
    | none => none
def isStar : E → Bool
  | .star _ => true
  | _ => false
theorem xl_cons_eq (Γ : Tab) (cf : CF) (e : E) (es : List E) (h : isStar e = false) : evL Γ cf (e :: es) = xl_cons (evE Γ cf e) (evL Γ cf es) := by
  cases e <;> first | rfl | (simp [isStar] at h)
def xb_one (e : RE) : RE := e
theorem xb_one_eq (Γ : Tab) (cf : CF) (k : Bool) (e : E) : evBop Γ cf k [e] = xb_one (evE Γ cf e) := rfl
def xb_cons (k : Bool) (e : RE) (es : RE) : RE := fun ρ st => match e ρ st with
    | some (.bl b, _, ρ, st) => if b == k then es ρ st else some (.bl b, false, ρ, st)
    | _ => none
theorem xb_cons_eq (Γ : Tab) (cf : CF) (k : Bool) (e e' : E) (es : List E) : evBop Γ cf k (e :: e' :: es) = xb_cons k (evE Γ cf e) (evBop Γ cf k (e' :: es)) := rfl
def xi_nil : RI := fun ρ st => some (true, ρ, st)
theorem xi_nil_eq (Γ : Tab) (cf : CF) : evIfs Γ cf [] = xi_nil := rfl
def xi_cons (e : RE) (es : RI) : RI := fun ρ st => match e ρ st with
    | some (.bl true, _, ρ, st) => es ρ st
    | some (.bl false, _, ρ, st) => some (false, ρ, st)
    | _ => none
theorem xi_cons_eq (Γ : Tab) (cf : CF) (e : E) (es : List E) : evIfs Γ cf (e :: es) = xi_cons (evE Γ cf e) (evIfs Γ cf es) := rfl
def xt_var (i : Nat) : RT := fun d ρ st => some (ρ.set i (.val d), st)
theorem xt_var_eq (Γ : Tab) (cf : CF) (i : Nat) : evT Γ cf (.var i) = xt_var i := rfl
def xt_tup (ts : RTs) : RT := fun d ρ st => match d with
    | .tup ds => ts ds ρ st
    | _ => none
theorem xt_tup_eq (Γ : Tab) (cf : CF) (ts : List E) : evT Γ cf (.tup ts) = xt_tup (evTs Γ cf ts) := rfl
def xt_idxO (i : Nat) (k : RE) : RT := fun d ρ st => match slotD ρ st i with
    | none => none
    | some _ => match k ρ st with
      | some (x, _, ρ, st) => match ownD ρ st i with
        | some c => match putD c x d with
          | some c => setOwn ρ st i c
          | none => none
        | none => none
      | none => none
theorem xt_idxO_eq (Γ : Tab) (cf : CF) (i : Nat) (k : E) : evT Γ cf (.idxO i k) = xt_idxO i (evE Γ cf k) := rfl
def xts_nil : RTs := fun ds ρ st => match ds with
  | [] => some (ρ, st)
  | _ => none
theorem xts_nil_eq (Γ : Tab) (cf : CF) : evTs Γ cf [] = xts_nil := by
  funext ds ρ st
  cases ds <;> rfl
def xts_cons (t : RT) (ts : RTs) : RTs := fun ds ρ st => match ds with
  | d :: ds => match t d ρ st with
    | some (ρ, st) => ts ds ρ st
    | none => none
  | _ => none
theorem xts_cons_eq (Γ : Tab) (cf : CF) (t : E) (ts : List E) : evTs Γ cf (t :: ts) = xts_cons (evT Γ cf t) (evTs Γ cf ts) := by
  funext ds ρ st
  cases ds <;> rfl
def xf_nil : RF := fun ρ st => some ([], ρ, st)
theorem xf_nil_eq (Γ : Tab) (cf : CF) : evF Γ cf [] = xf_nil := rfl
def xf_cons (e : RE) (es : RF) : RF := fun ρ st => match e ρ st with
    | some (d, f, ρ, st) => match es ρ st with
      | some (ds, ρ, st) => some (slOf d f :: ds, ρ, st)
      | none => none
    | none => none
theorem xf_cons_eq (Γ : Tab) (cf : CF) (e : E) (es : List E) : evF Γ cf (e :: es) = xf_cons (evE Γ cf e) (evF Γ cf es) := rfl
def xs_set  (i : Nat) (e : RE)  : RS := fun ρ st => match e ρ st with
    | some (d, f, ρ, st) => some (.nx, ρ.set i (slOf d f), st)
    | none => none
@[simp] theorem xs_set_ap  (i : Nat) (e : RE)  (ρ : Ss) (st : St) : xs_set i e ρ st = match e ρ st with
    | some (d, f, ρ, st) => some (.nx, ρ.set i (slOf d f), st)
    | none => none := rfl
theorem xs_set_eq (Γ : Tab) (cf : CF) (i : Nat) (e : E) : evS Γ cf (.set i e) = xs_set i (evE Γ cf e) := rfl
theorem ys_set {Γ : Tab} {cf : CF} {i : Nat} {e : E} {X1 : RE} (h1 : evE Γ cf e = X1) : evS Γ cf (.set i e) = xs_set i X1 := by
  subst h1
  exact xs_set_eq Γ cf i e
def xs_tset  (tg : RT) (e : RE)  : RS := fun ρ st => match e ρ st with
    | some (d, _, ρ, st) => match tg d ρ st with
      | some (ρ, st) => some (.nx, ρ, st)
      | none => none
    | none => none
@[simp] theorem xs_tset_ap  (tg : RT) (e : RE)  (ρ : Ss) (st : St) : xs_tset tg e ρ st = match e ρ st with
    | some (d, _, ρ, st) => match tg d ρ st with
      | some (ρ, st) => some (.nx, ρ, st)
      | none => none
    | none => none := rfl
theorem xs_tset_eq (Γ : Tab) (cf : CF) (tg : E) (e : E) : evS Γ cf (.tset tg e) = xs_tset (evT Γ cf tg) (evE Γ cf e) := rfl
theorem ys_tset {Γ : Tab} {cf : CF} {tg : E} {e : E} {X0 : RT} {X1 : RE} (h0 : evT Γ cf tg = X0) (h1 : evE Γ cf e = X1) : evS Γ cf (.tset tg e) = xs_tset X0 X1 := by
  subst h0 h1
  exact xs_tset_eq Γ cf tg e
def xs_par  (is : List Nat) (es : RF)  : RS := fun ρ st => match es ρ st with
    | some (ss, ρ, st) => if ss.length = is.length then some (.nx, setAll ρ is ss, st) else none
    | none => none
@[simp] theorem xs_par_ap  (is : List Nat) (es : RF)  (ρ : Ss) (st : St) : xs_par is es ρ st = match es ρ st with
    | some (ss, ρ, st) => if ss.length = is.length then some (.nx, setAll ρ is ss, st) else none
    | none => none := rfl
theorem xs_par_eq (Γ : Tab) (cf : CF) (is : List Nat) (es : List E) : evS Γ cf (.par is es) = xs_par is (evF Γ cf es) := rfl
theorem ys_par {Γ : Tab} {cf : CF} {is : List Nat} {es : List E} {X1 : RF} (h1 : evF Γ cf es = X1) : evS Γ cf (.par is es) = xs_par is X1 := by
  subst h1
  exact xs_par_eq Γ cf is es
def xs_setIx  (i : Nat) (k : RE) (v : RE)  : RS := fun ρ st => match v ρ st with
    | some (x, _, ρ, st) => match k ρ st with
      | some (y, _, ρ, st) => match ownD ρ st i with
        | some c => match putD c y x with
          | some c => match setOwn ρ st i c with
            | some (ρ, st) => some (.nx, ρ, st)
            | none => none
          | none => none
        | none => none
      | none => none
    | none => none
@[simp] theorem xs_setIx_ap  (i : Nat) (k : RE) (v : RE)  (ρ : Ss) (st : St) : xs_setIx i k v ρ st = match v ρ st with
    | some (x, _, ρ, st) => match k ρ st with
      | some (y, _, ρ, st) => match ownD ρ st i with
        | some c => match putD c y x with
          | some c => match setOwn ρ st i c with
            | some (ρ, st) => some (.nx, ρ, st)
            | none => none
          | none => none
        | none => none
      | none => none
    | none => none := rfl
theorem xs_setIx_eq (Γ : Tab) (cf : CF) (i : Nat) (k : E) (v : E) : evS Γ cf (.setIx i k v) = xs_setIx i (evE Γ cf k) (evE Γ cf v) := rfl
theorem ys_setIx {Γ : Tab} {cf : CF} {i : Nat} {k : E} {v : E} {X1 : RE} {X2 : RE} (h1 : evE Γ cf k = X1) (h2 : evE Γ cf v = X2) : evS Γ cf (.setIx i k v) = xs_setIx i X1 X2 := by
  subst h1 h2
  exact xs_setIx_eq Γ cf i k v
def xs_app  (i : Nat) (e : RE)  : RS := fun ρ st => match ownD ρ st i with
    | some (.lst _) => match e ρ st with
      | some (x, _, ρ, st) => match ownD ρ st i with
        | some (.lst ds) => if ds.length < lim then (match setOwn ρ st i (.lst (ds ++ [x])) with
          | some (ρ, st) => some (.nx, ρ, st)
          | none => none) else none
        | _ => none
      | none => none
    | _ => none
theorem xs_app_eq (Γ : Tab) (cf : CF) (i : Nat) (e : E) : evS Γ cf (.app i e) = xs_app i (evE Γ cf e) := rfl
theorem ys_app {Γ : Tab} {cf : CF} {i : Nat} {e : E} {X1 : RE} (h1 : evE Γ cf e = X1) : evS Γ cf (.app i e) = xs_app i X1 := by
  subst h1
  exact xs_app_eq Γ cf i e
def xs_ext  (u0 : Nat) (u1 : RE)  : RS := fun ρ st => none
@[simp] theorem xs_ext_ap  (u0 : Nat) (u1 : RE)  (ρ : Ss) (st : St) : xs_ext u0 u1 ρ st = none := rfl
theorem xs_ext_eq (Γ : Tab) (cf : CF) (u0 : Nat) (u1 : E) : evS Γ cf (.ext u0 u1) = xs_ext u0 (evE Γ cf u1) := rfl
theorem ys_ext {Γ : Tab} {cf : CF} {u0 : Nat} {u1 : E} {X1 : RE} (h1 : evE Γ cf u1 = X1) : evS Γ cf (.ext u0 u1) = xs_ext u0 X1 := by
  subst h1
  exact xs_ext_eq Γ cf u0 u1
def xs_upd  (u0 : Nat) (u1 : RE)  : RS := fun ρ st => none
@[simp] theorem xs_upd_ap  (u0 : Nat) (u1 : RE)  (ρ : Ss) (st : St) : xs_upd u0 u1 ρ st = none := rfl
theorem xs_upd_eq (Γ : Tab) (cf : CF) (u0 : Nat) (u1 : E) : evS Γ cf (.upd u0 u1) = xs_upd u0 (evE Γ cf u1) := rfl
theorem ys_upd {Γ : Tab} {cf : CF} {u0 : Nat} {u1 : E} {X1 : RE} (h1 : evE Γ cf u1 = X1) : evS Γ cf (.upd u0 u1) = xs_upd u0 X1 := by
  subst h1
  exact xs_upd_eq Γ cf u0 u1
def xs_expr  (e : RE)  : RS := fun ρ st => match e ρ st with
    | some (_, _, ρ, st) => some (.nx, ρ, st)
    | none => none
@[simp] theorem xs_expr_ap  (e : RE)  (ρ : Ss) (st : St) : xs_expr e ρ st = match e ρ st with
    | some (_, _, ρ, st) => some (.nx, ρ, st)
    | none => none := rfl
theorem xs_expr_eq (Γ : Tab) (cf : CF) (e : E) : evS Γ cf (.expr e) = xs_expr (evE Γ cf e) := rfl
theorem ys_expr {Γ : Tab} {cf : CF} {e : E} {X0 : RE} (h0 : evE Γ cf e = X0) : evS Γ cf (.expr e) = xs_expr X0 := by
  subst h0
  exact xs_expr_eq Γ cf e
def xs_ret  (e : RE)  : RS := fun ρ st => match e ρ st with
    | some (d, f, ρ, st) => some (.rt d f, ρ, st)
    | none => none
@[simp] theorem xs_ret_ap  (e : RE)  (ρ : Ss) (st : St) : xs_ret e ρ st = match e ρ st with
    | some (d, f, ρ, st) => some (.rt d f, ρ, st)
    | none => none := rfl
theorem xs_ret_eq (Γ : Tab) (cf : CF) (e : E) : evS Γ cf (.ret e) = xs_ret (evE Γ cf e) := rfl
theorem ys_ret {Γ : Tab} {cf : CF} {e : E} {X0 : RE} (h0 : evE Γ cf e = X0) : evS Γ cf (.ret e) = xs_ret X0 := by
  subst h0
  exact xs_ret_eq Γ cf e
def xs_retN    : RS := fun ρ st => some (.rt .non false, ρ, st)
@[simp] theorem xs_retN_ap    (ρ : Ss) (st : St) : xs_retN  ρ st = some (.rt .non false, ρ, st) := rfl
theorem xs_retN_eq (Γ : Tab) (cf : CF)  : evS Γ cf (.retN) = xs_retN := rfl
theorem ys_retN {Γ : Tab} {cf : CF}    : evS Γ cf (.retN) = xs_retN := by
  exact xs_retN_eq Γ cf 
def xs_ife  (c : RE) (a : RS) (b : RS)  : RS := fun ρ st => match c ρ st with
    | some (.bl true, _, ρ, st) => a ρ st
    | some (.bl false, _, ρ, st) => b ρ st
    | _ => none
theorem xs_ife_eq (Γ : Tab) (cf : CF) (c : E) (a : List S) (b : List S) : evS Γ cf (.ife c a b) = xs_ife (evE Γ cf c) (evB Γ cf a) (evB Γ cf b) := rfl
theorem ys_ife {Γ : Tab} {cf : CF} {c : E} {a : List S} {b : List S} {X0 : RE} {X1 : RS} {X2 : RS} (h0 : evE Γ cf c = X0) (h1 : evB Γ cf a = X1) (h2 : evB Γ cf b = X2) : evS Γ cf (.ife c a b) = xs_ife X0 X1 X2 := by
  subst h0 h1 h2
  exact xs_ife_eq Γ cf c a b
def xs_for_  (tg : RT) (it : RE) (body : RS)  : RS := fun ρ st => match it ρ st with
    | some (x, _, ρ, st) => match itemsD x with
      | some ds => turns (fun d ρ st => match tg d ρ st with
        | some (ρ, st) => body ρ st
        | none => none) ds ρ st
      | none => none
    | none => none
theorem xs_for__ap  (tg : RT) (it : RE) (body : RS)  (ρ : Ss) (st : St) : xs_for_ tg it body ρ st = match it ρ st with
    | some (x, _, ρ, st) => match itemsD x with
      | some ds => turns (fun d ρ st => match tg d ρ st with
        | some (ρ, st) => body ρ st
        | none => none) ds ρ st
      | none => none
    | none => none := rfl
theorem xs_for__eq (Γ : Tab) (cf : CF) (tg : E) (it : E) (body : List S) : evS Γ cf (.for_ tg it body) = xs_for_ (evT Γ cf tg) (evE Γ cf it) (evB Γ cf body) := rfl
theorem ys_for_ {Γ : Tab} {cf : CF} {tg : E} {it : E} {body : List S} {X0 : RT} {X1 : RE} {X2 : RS} (h0 : evT Γ cf tg = X0) (h1 : evE Γ cf it = X1) (h2 : evB Γ cf body = X2) : evS Γ cf (.for_ tg it body) = xs_for_ X0 X1 X2 := by
  subst h0 h1 h2
  exact xs_for__eq Γ cf tg it body
def xs_while_ (Γ : Tab) (c : RE) (body : RS)  : RS := fun ρ st => whileL (fun ρ st => match c ρ st with
      | some (.bl b, _, ρ, st) => some (b, ρ, st)
      | _ => none) (fun ρ st => body ρ st) Γ.W ρ st
theorem xs_while__ap (Γ : Tab) (c : RE) (body : RS)  (ρ : Ss) (st : St) : xs_while_ Γ c body ρ st = whileL (fun ρ st => match c ρ st with
      | some (.bl b, _, ρ, st) => some (b, ρ, st)
      | _ => none) (fun ρ st => body ρ st) Γ.W ρ st := rfl
theorem xs_while__eq (Γ : Tab) (cf : CF) (c : E) (body : List S) : evS Γ cf (.while_ c body) = xs_while_ Γ (evE Γ cf c) (evB Γ cf body) := rfl
theorem ys_while_ {Γ : Tab} {cf : CF} {c : E} {body : List S} {X0 : RE} {X1 : RS} (h0 : evE Γ cf c = X0) (h1 : evB Γ cf body = X1) : evS Γ cf (.while_ c body) = xs_while_ Γ X0 X1 := by
  subst h0 h1
  exact xs_while__eq Γ cf c body
def xs_never    : RS := fun ρ st => none
@[simp] theorem xs_never_ap    (ρ : Ss) (st : St) : xs_never  ρ st = none := rfl
theorem xs_never_eq (Γ : Tab) (cf : CF)  : evS Γ cf (.never) = xs_never := rfl
theorem ys_never {Γ : Tab} {cf : CF}    : evS Γ cf (.never) = xs_never := by
  exact xs_never_eq Γ cf 
def xs_pass    : RS := fun ρ st => some (.nx, ρ, st)
@[simp] theorem xs_pass_ap    (ρ : Ss) (st : St) : xs_pass  ρ st = some (.nx, ρ, st) := rfl
theorem xs_pass_eq (Γ : Tab) (cf : CF)  : evS Γ cf (.pass) = xs_pass := rfl
theorem ys_pass {Γ : Tab} {cf : CF}    : evS Γ cf (.pass) = xs_pass := by
  exact xs_pass_eq Γ cf 
def xs_brk    : RS := fun ρ st => some (.bk, ρ, st)
@[simp] theorem xs_brk_ap    (ρ : Ss) (st : St) : xs_brk  ρ st = some (.bk, ρ, st) := rfl
theorem xs_brk_eq (Γ : Tab) (cf : CF)  : evS Γ cf (.brk) = xs_brk := rfl
theorem ys_brk {Γ : Tab} {cf : CF}    : evS Γ cf (.brk) = xs_brk := by
  exact xs_brk_eq Γ cf 
theorem yl_nil {Γ : Tab} {cf : CF} : evL Γ cf [] = xl_nil := rfl
theorem yl_star {Γ : Tab} {cf : CF} {e : E} {es : List E} {X : RE} {Y : RL} (h : evE Γ cf e = X) (g : evL Γ cf es = Y) : evL Γ cf (.star e :: es) = xl_star X Y := by
  subst h g
  rfl
theorem yl_cons {Γ : Tab} {cf : CF} {e : E} {es : List E} {X : RE} {Y : RL} (i : isStar e = false) (h : evE Γ cf e = X) (g : evL Γ cf es = Y) : evL Γ cf (e :: es) = xl_cons X Y := by
  subst h g
  exact xl_cons_eq Γ cf e es i
theorem yb_one {Γ : Tab} {cf : CF} {k : Bool} {e : E} {X : RE} (h : evE Γ cf e = X) : evBop Γ cf k [e] = xb_one X := by
  subst h
  rfl
theorem yb_cons {Γ : Tab} {cf : CF} {k : Bool} {e e' : E} {es : List E} {X Y : RE} (h : evE Γ cf e = X) (g : evBop Γ cf k (e' :: es) = Y) : evBop Γ cf k (e :: e' :: es) = xb_cons k X Y := by
  subst h g
  rfl
theorem yi_nil {Γ : Tab} {cf : CF} : evIfs Γ cf [] = xi_nil := rfl
theorem yi_cons {Γ : Tab} {cf : CF} {e : E} {es : List E} {X : RE} {Y : RI} (h : evE Γ cf e = X) (g : evIfs Γ cf es = Y) : evIfs Γ cf (e :: es) = xi_cons X Y := by
  subst h g
  rfl
theorem yt_var {Γ : Tab} {cf : CF} {i : Nat} : evT Γ cf (.var i) = xt_var i := rfl
theorem yt_tup {Γ : Tab} {cf : CF} {ts : List E} {X : RTs} (h : evTs Γ cf ts = X) : evT Γ cf (.tup ts) = xt_tup X := by
  subst h
  rfl
theorem yt_idxO {Γ : Tab} {cf : CF} {i : Nat} {k : E} {X : RE} (h : evE Γ cf k = X) : evT Γ cf (.idxO i k) = xt_idxO i X := by
  subst h
  rfl
theorem yts_nil {Γ : Tab} {cf : CF} : evTs Γ cf [] = xts_nil := xts_nil_eq Γ cf
theorem yts_cons {Γ : Tab} {cf : CF} {t : E} {ts : List E} {X : RT} {Y : RTs} (h : evT Γ cf t = X) (g : evTs Γ cf ts = Y) : evTs Γ cf (t :: ts) = xts_cons X Y := by
  subst h g
  exact xts_cons_eq Γ cf t ts
theorem yf_nil {Γ : Tab} {cf : CF} : evF Γ cf [] = xf_nil := rfl
theorem yf_cons {Γ : Tab} {cf : CF} {e : E} {es : List E} {X : RE} {Y : RF} (h : evE Γ cf e = X) (g : evF Γ cf es = Y) : evF Γ cf (e :: es) = xf_cons X Y := by
  subst h g
  rfl
def xq_nil : RS := fun ρ st => some (.nx, ρ, st)
theorem xq_nil_eq (Γ : Tab) (cf : CF) : evB Γ cf [] = xq_nil := rfl
def xq_cons (s : RS) (ss : RS) : RS := fun ρ st => match s ρ st with
    | some (.nx, ρ, st) => ss ρ st
    | some (.rt d f, ρ, st) => some (.rt d f, ρ, st)
    | some (.bk, ρ, st) => some (.bk, ρ, st)
    | none => none
theorem xq_cons_eq (Γ : Tab) (cf : CF) (s : S) (ss : List S) : evB Γ cf (s :: ss) = xq_cons (evS Γ cf s) (evB Γ cf ss) := rfl
theorem yq_nil {Γ : Tab} {cf : CF} : evB Γ cf [] = xq_nil := rfl
theorem yq_cons {Γ : Tab} {cf : CF} {s : S} {ss : List S} {X Y : RS} (h : evS Γ cf s = X) (g : evB Γ cf ss = Y) : evB Γ cf (s :: ss) = xq_cons X Y := by
  subst h g
  rfl
@[simp] theorem xl_nil_ap (ρ : Ss) (st : St) : xl_nil ρ st = some ([], ρ, st) := rfl
@[simp] theorem xl_star_ap (e : RE) (es : RL) (ρ : Ss) (st : St) : xl_star e es ρ st = match e ρ st with
    | some (x, _, ρ, st) => match seqD x with
      | some ds => match es ρ st with
        | some (r, ρ, st) => some (ds ++ r, ρ, st)
        | none => none
      | none => none
    | none => none := rfl
@[simp] theorem xl_cons_ap (e : RE) (es : RL) (ρ : Ss) (st : St) : xl_cons e es ρ st = match e ρ st with
    | some (d, _, ρ, st) => match es ρ st with
      | some (ds, ρ, st) => some (d :: ds, ρ, st)
      | none => none
    | none => none := rfl
@[simp] theorem xb_one_ap (e : RE) (ρ : Ss) (st : St) : xb_one e ρ st = e ρ st := rfl
@[simp] theorem xb_cons_ap (k : Bool) (e es : RE) (ρ : Ss) (st : St) : xb_cons k e es ρ st = match e ρ st with
    | some (.bl b, _, ρ, st) => bif b == k then es ρ st else some (.bl b, false, ρ, st)
    | _ => none := by
  unfold xb_cons
  split
  · cases b' : (_ == k : Bool) <;> simp_all
  · rfl
@[simp] theorem xi_nil_ap (ρ : Ss) (st : St) : xi_nil ρ st = some (true, ρ, st) := rfl
@[simp] theorem xi_cons_ap (e : RE) (es : RI) (ρ : Ss) (st : St) : xi_cons e es ρ st = match e ρ st with
    | some (.bl b, _, ρ, st) => bif b then es ρ st else some (false, ρ, st)
    | _ => none := by
  unfold xi_cons
  rcases e ρ st with _ | ⟨d, f, ρ', st'⟩
  · rfl
  · cases d <;> first | rfl | (rename_i x; cases x <;> rfl)
@[simp] theorem xk_ife_ap (c a b : RE) (ρ : Ss) (st : St) : xk_ife c a b ρ st = match c ρ st with
    | some (.bl x, _, ρ, st) => bif x then a ρ st else b ρ st
    | _ => none := by
  unfold xk_ife
  rcases c ρ st with _ | ⟨d, f, ρ', st'⟩
  · rfl
  · cases d <;> first | rfl | (rename_i x; cases x <;> rfl)
@[simp] theorem xs_ife_ap (c : RE) (a b : RS) (ρ : Ss) (st : St) : xs_ife c a b ρ st = match c ρ st with
    | some (.bl x, _, ρ, st) => bif x then a ρ st else b ρ st
    | _ => none := by
  unfold xs_ife
  rcases c ρ st with _ | ⟨d, f, ρ', st'⟩
  · rfl
  · cases d <;> first | rfl | (rename_i x; cases x <;> rfl)
@[simp] theorem xt_var_ap (i : Nat) (d : D) (ρ : Ss) (st : St) : xt_var i d ρ st = some (ρ.set i (.val d), st) := rfl
@[simp] theorem xt_tup_ap (ts : RTs) (ds : List D) (ρ : Ss) (st : St) : xt_tup ts (.tup ds) ρ st = ts ds ρ st := rfl
@[simp] theorem xt_idxO_ap (i : Nat) (k : RE) (d : D) (ρ : Ss) (st : St) : xt_idxO i k d ρ st = match slotD ρ st i with
    | none => none
    | some _ => match k ρ st with
      | some (x, _, ρ, st) => match ownD ρ st i with
        | some c => match putD c x d with
          | some c => setOwn ρ st i c
          | none => none
        | none => none
      | none => none := rfl
@[simp] theorem xts_nil_ap (ρ : Ss) (st : St) : xts_nil [] ρ st = some (ρ, st) := rfl
@[simp] theorem xts_cons_ap (t : RT) (ts : RTs) (d : D) (ds : List D) (ρ : Ss) (st : St) : xts_cons t ts (d :: ds) ρ st = match t d ρ st with
    | some (ρ, st) => ts ds ρ st
    | none => none := rfl
@[simp] theorem xf_nil_ap (ρ : Ss) (st : St) : xf_nil ρ st = some ([], ρ, st) := rfl
@[simp] theorem xf_cons_ap (e : RE) (es : RF) (ρ : Ss) (st : St) : xf_cons e es ρ st = match e ρ st with
    | some (d, f, ρ, st) => match es ρ st with
      | some (ds, ρ, st) => some (slOf d f :: ds, ρ, st)
      | none => none
    | none => none := rfl
@[simp] theorem xq_nil_ap (ρ : Ss) (st : St) : xq_nil ρ st = some (.nx, ρ, st) := rfl
@[simp] theorem xq_cons_ap (s ss : RS) (ρ : Ss) (st : St) : xq_cons s ss ρ st = match s ρ st with
    | some (.nx, ρ, st) => ss ρ st
    | some (.rt d f, ρ, st) => some (.rt d f, ρ, st)
    | some (.bk, ρ, st) => some (.bk, ρ, st)
    | none => none := rfl
@[simp] theorem xs_app_ap (i : Nat) (e : RE) (ρ : Ss) (st : St) : xs_app i e ρ st = match ownD ρ st i with
    | some c => match lstD c with
      | some _ => match e ρ st with
        | some (x, _, ρ, st) => match ownD ρ st i with
          | some c => match lstD c with
            | some ds => if ds.length < lim then (match setOwn ρ st i (.lst (ds ++ [x])) with
              | some (ρ, st) => some (.nx, ρ, st)
              | none => none) else none
            | none => none
          | none => none
        | none => none
      | none => none
    | none => none := by
  unfold xs_app
  rcases ownD ρ st i with _ | c
  · rfl
  · cases c <;> first | rfl | skip
    simp only [lstD]
    rcases e ρ st with _ | ⟨x, f, ρ', st'⟩
    · rfl
    · simp only
      rcases ownD ρ' st' i with _ | c
      · rfl
      · cases c <;> rfl
/-- one turn of a comprehension -/
def compS (tg : RT) (ifs : RI) (elt : RE) (vars : List Nat) : D → Ss → St → Option (List D × Ss × St) := fun d ρ st => match tg d (wipeS ρ vars) st with
  | some (ρ, st) => match ifs ρ st with
    | some (b, ρ, st) => bif b then (match elt ρ st with
      | some (y, _, ρ, st) => some ([y], ρ, st)
      | none => none) else some ([], ρ, st)
    | none => none
  | none => none
theorem compS_eq (tg : RT) (ifs : RI) (elt : RE) (vars : List Nat) : (fun d ρ st => match tg d (wipeS ρ vars) st with
          | some (ρ, st) => match ifs ρ st with
            | some (true, ρ, st) => match elt ρ st with
              | some (y, _, ρ, st) => some ([y], ρ, st)
              | none => none
            | some (false, ρ, st) => some ([], ρ, st)
            | none => none
          | none => none) = compS tg ifs elt vars := by
  funext d ρ st
  unfold compS
  rcases tg d (wipeS ρ vars) st with _ | ⟨ρ1, st1⟩
  · rfl
  · rcases h : ifs ρ1 st1 with _ | ⟨b, ρ2, st2⟩
    · simp only [h]
    · cases b <;> simp only [h] <;> rfl
def compEnd (ρ1 : Ss) (vars : List Nat) : Option (List D × Ss × St) → Option (D × Bool × Ss × St)
  | some (ys, ρ2, st) => if ys.length ≤ lim then some (.lst ys, true, restS ρ1 ρ2 vars, st) else none
  | none => none
theorem comp_run {tg : RT} {it : RE} {ifs : RI} {elt : RE} {vars : List Nat} {ρ ρ1 : Ss} {st st1 : St} {x : D} {fl : Bool} {ds : List D} (h : it ρ st = some (x, fl, ρ1, st1)) (hx : itemsD x = some ds) :
    xk_comp tg it ifs elt vars ρ st = compEnd ρ1 vars (gath (compS tg ifs elt vars) ds ρ1 st1) := by
  rw [xk_comp_ap, h]
  simp only [hx, compS_eq]
  rcases gath (compS tg ifs elt vars) ds ρ1 st1 with _ | ⟨ys, ρ2, st2⟩ <;> rfl
/-- one turn of a comprehension's outer part -/
def compS2 (tg : RT) (ifs : RI) (it' : RE) (step : D → Ss → St → Option (List D × Ss × St)) (vars : List Nat) : D → Ss → St → Option (List D × Ss × St) := fun d ρ st => match tg d (wipeS ρ vars) st with
  | some (ρ, st) => match ifs ρ st with
    | some (b, ρ, st) => bif b then (match it' ρ st with
      | some (x', _, ρ, st) => match itemsD x' with
        | some ds' => gath step ds' ρ st
        | none => none
      | none => none) else some ([], ρ, st)
    | none => none
  | none => none
theorem comp2_run {tg tg' : RT} {it it' : RE} {ifs ifs' : RI} {elt : RE} {vars vars' : List Nat} {ρ ρ1 : Ss} {st st1 : St} {x : D} {fl : Bool} {ds : List D} (h : it ρ st = some (x, fl, ρ1, st1)) (hx : itemsD x = some ds) :
    xk_comp2 tg it ifs tg' it' ifs' elt vars vars' ρ st = compEnd ρ1 vars (gath (compS2 tg ifs it' (compS tg' ifs' elt vars') vars) ds ρ1 st1) := by
  rw [xk_comp2_ap, h]
  simp only [hx, compS_eq]
  have : (fun d ρ st => match tg d (wipeS ρ vars) st with
          | some (ρ, st) => match ifs ρ st with
            | some (true, ρ, st) => match it' ρ st with
              | some (x', _, ρ, st) => match itemsD x' with
                | some ds' => gath (compS tg' ifs' elt vars') ds' ρ st
                | none => none
              | none => none
            | some (false, ρ, st) => some ([], ρ, st)
            | none => none
          | none => none) = compS2 tg ifs it' (compS tg' ifs' elt vars') vars := by
    funext d ρ st
    unfold compS2
    rcases tg d (wipeS ρ vars) st with _ | ⟨ρ1, st1⟩
    · rfl
    · rcases h : ifs ρ1 st1 with _ | ⟨b, ρ2, st2⟩
      · simp only [h]
      · cases b <;> simp only [h] <;> rfl
  rw [this]
  rcases gath (compS2 tg ifs it' (compS tg' ifs' elt vars') vars) ds ρ1 st1 with _ | ⟨ys, ρ2, st2⟩ <;> rfl
/-- one turn of a loop -/
def forS (tg : RT) (body : RS) : D → Ss → St → Option (Fl × Ss × St) := fun d ρ st => match tg d ρ st with
  | some (ρ, st) => body ρ st
  | none => none
theorem for_run {tg : RT} {it : RE} {body : RS} {ρ ρ1 : Ss} {st st1 : St} {x : D} {fl : Bool} {ds : List D} (h : it ρ st = some (x, fl, ρ1, st1)) (hx : itemsD x = some ds) :
    xs_for_ tg it body ρ st = turns (forS tg body) ds ρ1 st1 := by
  rw [xs_for__ap, h]
  simp only [hx]
  rfl
/-- what a def hands back -/
def retOf : Option (Fl × Ss × St) → Option (D × Bool × St)
  | some (.rt d fr, _, st) => some (d, fr, st)
  | some (.nx, _, st) => some (.non, false, st)
  | _ => none
@[simp] theorem retOf_rt (d : D) (fr : Bool) (ρ : Ss) (st : St) : retOf (some (.rt d fr, ρ, st)) = some (d, fr, st) := rfl
@[simp] theorem retOf_nx (ρ : Ss) (st : St) : retOf (some (.nx, ρ, st)) = some (.non, false, st) := rfl
theorem cfN_run {Γ : Tab} {n : Nat} {f : Str} {fn : Fn} {args : List D} {st : St} {m : RS} (h : Γ.fns f = some fn) (hm : evB Γ (cfN Γ n) fn.body = m) (hl : args.length = fn.ps.length) :
    cfN Γ (n + 1) f args st = retOf (m (args.map .val ++ List.replicate (fn.ns - fn.ps.length) .un) st) := by
  rw [← hm]
  simp only [cfN, h]
  rw [if_pos hl]
  rfl
end Rv

set_option Elab.async false
set_option linter.all false
set_option maxRecDepth 100000
set_option maxHeartbeats 4000000
/-! Plain values: rows of ints. Walks as maps, filters, folds. -/
namespace Rv
open PySem L2
abbrev leI (a b : Int) : Bool := decide (a ≤ b)
abbrev leT (a b : List Int) : Bool := !ltL b a
abbrev sortI (l : List Int) : List Int := isort leI l
abbrev sortT (l : List (List Int)) : List (List Int) := isort leT l
@[simp] theorem intsOf_map (l : List Int) : intsOf (l.map D.int) = some l := by
  induction l with
  | nil => rfl
  | cons a r ih => simp [intsOf, ih]
@[simp] theorem blsOf_map {α : Type} (l : List α) (f : α → Bool) : blsOf (l.map fun x => D.bl (f x)) = some (l.map f) := by
  induction l with
  | nil => rfl
  | cons a r ih => simp [blsOf, ih]
@[simp] theorem tupsI_map (l : List (List Int)) : tupsI (l.map tupZ) = some l := by
  induction l with
  | nil => rfl
  | cons a r ih => simp [tupsI, tupZ, tupI, ih]
theorem intsOf_tups {k : List Int} {l : List (List Int)} : intsOf ((k :: l).map tupZ) = none := by simp [tupZ, intsOf]
theorem sortD_ints (l : List Int) : sortD (l.map D.int) = some ((sortI l).map D.int) := by simp [sortD]
theorem sortD_tups (l : List (List Int)) (h : l.all (fun k => !k.isEmpty) = true) : sortD (l.map tupZ) = some ((sortT l).map tupZ) := by
  cases l with
  | nil => rfl
  | cons k r =>
    unfold sortD
    rw [intsOf_tups, tupsI_map]
    simp only
    rw [if_pos h]
theorem mem_insG {α : Type} {le : α → α → Bool} {a x : α} : ∀ {l : List α}, x ∈ insG le a l ↔ x = a ∨ x ∈ l
  | [] => by simp [insG]
  | b :: r => by
    simp only [insG]
    split
    · simp
    · simp [mem_insG (l := r)]
      constructor
      · rintro (h | h | h) <;> simp [h]
      · rintro (h | h | h) <;> simp [h]
theorem mem_isort {α : Type} {le : α → α → Bool} {x : α} : ∀ {l : List α}, x ∈ isort le l ↔ x ∈ l
  | [] => by simp [isort]
  | b :: r => by simp [isort, mem_insG, mem_isort (l := r)]
theorem len_insG {α : Type} {le : α → α → Bool} {a : α} : ∀ {l : List α}, (insG le a l).length = l.length + 1
  | [] => rfl
  | b :: r => by
    simp only [insG]
    split
    · rfl
    · simp [len_insG (l := r)]
theorem len_isort {α : Type} {le : α → α → Bool} : ∀ {l : List α}, (isort le l).length = l.length
  | [] => rfl
  | b :: r => by simp [isort, len_insG, len_isort (l := r)]
theorem cMul_l {i j : Int} (h : -1000000 ≤ i) (h' : i ≤ 1000000) : cMul i j = true := by
  unfold cMul
  have h1 : -(2 ^ 64 : Int) < i := by
    have : (2 ^ 64 : Int) = 18446744073709551616 := by decide
    omega
  have h2 : i < (2 ^ 64 : Int) := by
    have : (2 ^ 64 : Int) = 18446744073709551616 := by decide
    omega
  rw [decide_eq_true h1, decide_eq_true h2]
  rfl
/-! rows of ints -/
@[simp] theorem itemsD_tupZ (l : List Int) : itemsD (tupZ l) = some (l.map D.int) := rfl
@[simp] theorem seqD_tupZ (l : List Int) : seqD (tupZ l) = some (l.map D.int) := rfl
@[simp] theorem itemsD_lst (l : List D) : itemsD (.lst l) = some l := rfl
@[simp] theorem seqD_lst (l : List D) : seqD (.lst l) = some l := rfl
@[simp] theorem itemsD_tup (l : List D) : itemsD (.tup l) = some l := rfl
@[simp] theorem seqD_tup (l : List D) : seqD (.tup l) = some l := rfl
@[simp] theorem lenD_tupZ (l : List Int) : lenD (tupZ l) = some (l.length : Int) := by simp [tupZ, lenD]
@[simp] theorem lenD_lst (l : List D) : lenD (.lst l) = some (l.length : Int) := rfl
@[simp] theorem lenD_tup (l : List D) : lenD (.tup l) = some (l.length : Int) := rfl
@[simp] theorem isTy_tupZ (t : Ty) (l : List Int) : isTy t (tupZ l) = some (match t with | .tuple => true | _ => false) := by cases t <;> rfl
@[simp] theorem isTy_int (t : Ty) (i : Int) : isTy t (.int i) = some (match t with | .int => true | _ => false) := by cases t <;> rfl
@[simp] theorem isTy_bl (t : Ty) (i : Bool) : isTy t (.bl i) = some (match t with | .int => true | .bool => true | _ => false) := by cases t <;> rfl
@[simp] theorem isTy_str (t : Ty) (i : Str) : isTy t (.str i) = some (match t with | .str => true | _ => false) := by cases t <;> rfl
@[simp] theorem isTy_lst (t : Ty) (i : List D) : isTy t (.lst i) = some (match t with | .list => true | _ => false) := by cases t <;> rfl
@[simp] theorem isTy_tup (t : Ty) (i : List D) : isTy t (.tup i) = some (match t with | .tuple => true | _ => false) := by cases t <;> rfl
@[simp] theorem isTy_non (t : Ty) : isTy t .non = some false := by cases t <;> rfl
theorem eqDs_ints : ∀ k l : List Int, eqDs (k.map D.int) (l.map D.int) = decide (k = l)
  | [], [] => rfl
  | [], _ :: _ => rfl
  | _ :: _, [] => rfl
  | a :: k, b :: l => by
    simp only [List.map_cons, eqDs, eqD, eqDs_ints k l, List.cons.injEq, Bool.decide_and]
    rfl
@[simp] theorem eqD_tupZ (k l : List Int) : eqD (tupZ k) (tupZ l) = decide (k = l) := by
  simp only [tupZ, eqD, eqDs_ints]
@[simp] theorem eqD_int (i j : Int) : eqD (.int i) (.int j) = decide (i = j) := rfl
@[simp] theorem eqD_bl (i j : Bool) : eqD (.bl i) (.bl j) = (i == j) := rfl
@[simp] theorem eqD_str (i j : Str) : eqD (.str i) (.str j) = (i == j) := rfl
@[simp] theorem eqD_non : eqD .non .non = true := rfl
theorem okD_ints (n : Nat) (l : List Int) : (l.map D.int).all (okD n) = true := by
  simp only [List.all_map, List.all_eq_true]
  intro x _
  cases n <;> rfl
@[simp] theorem okD_tupZ (n : Nat) (l : List Int) : okD (n + 1) (tupZ l) = true := by
  simp only [tupZ, okD, okD_ints]
@[simp] theorem okD_tupZ40 (l : List Int) : okD 40 (tupZ l) = true := okD_tupZ 39 l
@[simp] theorem okD_int (n : Nat) (i : Int) : okD n (.int i) = true := by cases n <;> rfl
@[simp] theorem okD_bl (n : Nat) (i : Bool) : okD n (.bl i) = true := by cases n <;> rfl
@[simp] theorem okD_str (n : Nat) (i : Str) : okD n (.str i) = true := by cases n <;> rfl
@[simp] theorem okD_non (n : Nat) : okD n .non = true := by cases n <;> rfl
@[simp] theorem okD_tup40 (l : List D) : okD 40 (.tup l) = l.all (okD 39) := rfl
@[simp] theorem okD_lst40 (l : List D) : okD 40 (.lst l) = l.all (okD 39) := rfl
@[simp] theorem okD_tups (n : Nat) (l : List (List Int)) : (l.map tupZ).all (okD (n + 1)) = true := by
  simp only [List.all_map, List.all_eq_true]
  intro x _
  exact okD_tupZ n x
@[simp] theorem okD_tups40 (l : List (List Int)) : (l.map tupZ).all (okD 40) = true := okD_tups 39 l
@[simp] theorem okD_tups39 (l : List (List Int)) : (l.map tupZ).all (okD 39) = true := okD_tups 38 l
@[simp] theorem okD_ints' (n : Nat) (l : List Int) : (l.map D.int).all (okD n) = true := okD_ints n l
theorem any_tups (k : List Int) (l : List (List Int)) : ((l.map tupZ).any fun z => eqD z (tupZ k)) = l.contains k := by
  induction l with
  | nil => rfl
  | cons a r ih =>
    rw [List.map_cons, List.any_cons, ih, eqD_tupZ, List.contains_cons]
    congr 1
    by_cases h : a = k
    · subst h; simp
    · have : ¬ k = a := fun e => h e.symm
      simp [h, this]
theorem any_ints (k : Int) (l : List Int) : ((l.map D.int).any fun z => eqD z (.int k)) = l.contains k := by
  induction l with
  | nil => rfl
  | cons a r ih =>
    rw [List.map_cons, List.any_cons, ih, eqD_int, List.contains_cons]
    congr 1
    by_cases h : a = k
    · subst h; simp
    · have : ¬ k = a := fun e => h e.symm
      simp [h, this]
theorem inD_tups (k : List Int) (l : List (List Int)) : inD (tupZ k) (.lst (l.map tupZ)) = some (l.contains k) := by
  show (if okD 40 (tupZ k) && (l.map tupZ).all (okD 40) then some ((l.map tupZ).any fun z => eqD z (tupZ k)) else none) = _
  rw [okD_tupZ40, okD_tups40, any_tups]
  rfl
theorem inD_int_lst (k : Int) (l : List Int) : inD (.int k) (.lst (l.map D.int)) = some (l.contains k) := by
  show (if okD 40 (.int k) && (l.map D.int).all (okD 40) then some ((l.map D.int).any fun z => eqD z (.int k)) else none) = _
  rw [okD_int, okD_ints, any_ints]
  rfl
@[simp] theorem inD_int_tup (k : Int) (l : List Int) : inD (.int k) (tupZ l) = some (l.contains k) := by
  show (if okD 40 (.int k) && (l.map D.int).all (okD 40) then some ((l.map D.int).any fun z => eqD z (.int k)) else none) = _
  rw [okD_int, okD_ints, any_ints]
  rfl
theorem atI_mapX {α β : Type} (f : α → β) (l : List α) (i : Int) : atI (l.map f) i = (atI l i).map f := by
  unfold atI
  rw [List.length_map]
  cases ixN l.length i with
  | none => rfl
  | some j => simp
@[simp] theorem idxD_tupZ (l : List Int) (i : Int) : idxD (tupZ l) (.int i) = (atI l i).map D.int := by
  show atI (l.map D.int) i = _
  rw [atI_mapX]
@[simp] theorem tup2 (a b : Int) : D.tup [.int a, .int b] = tupZ [a, b] := rfl
@[simp] theorem tup3 (a b c : Int) : D.tup [.int a, .int b, .int c] = tupZ [a, b, c] := rfl
@[simp] theorem tup1 (a : Int) : D.tup [.int a] = tupZ [a] := rfl
@[simp] theorem tupM (l : List Int) : D.tup (l.map D.int) = tupZ l := rfl
@[simp] theorem sne_a_b : (("a" : Str) == ("b" : Str)) = false := by decide
@[simp] theorem sne_a_c : (("a" : Str) == ("c" : Str)) = false := by decide
@[simp] theorem sne_b_a : (("b" : Str) == ("a" : Str)) = false := by decide
@[simp] theorem sne_b_c : (("b" : Str) == ("c" : Str)) = false := by decide
@[simp] theorem sne_c_a : (("c" : Str) == ("a" : Str)) = false := by decide
@[simp] theorem sne_c_b : (("c" : Str) == ("b" : Str)) = false := by decide
@[simp] theorem sne_raise_turn : (("raise" : Str) == ("turn" : Str)) = false := by decide
@[simp] theorem sne_raise_unit : (("raise" : Str) == ("unit" : Str)) = false := by decide
@[simp] theorem sne_turn_raise : (("turn" : Str) == ("raise" : Str)) = false := by decide
@[simp] theorem sne_turn_unit : (("turn" : Str) == ("unit" : Str)) = false := by decide
@[simp] theorem sne_unit_raise : (("unit" : Str) == ("raise" : Str)) = false := by decide
@[simp] theorem sne_unit_turn : (("unit" : Str) == ("turn" : Str)) = false := by decide
@[simp] theorem lim_val : lim = 16777216 := rfl
@[simp] theorem filter_tt {α : Type} (l : List α) : l.filter (fun _ => true) = l := by
  induction l with
  | nil => rfl
  | cons a r ih => simp [ih]
/-! lists of ints, of rows, of truths -/
def lstZ (l : List Int) : D := .lst (l.map .int)
def lstT (l : List (List Int)) : D := .lst (l.map tupZ)
def lstB (l : List Bool) : D := .lst (l.map .bl)
@[simp] theorem lst1 (a : Int) : D.lst [.int a] = lstZ [a] := rfl
@[simp] theorem lst2 (a b : Int) : D.lst [.int a, .int b] = lstZ [a, b] := rfl
@[simp] theorem lst3 (a b c : Int) : D.lst [.int a, .int b, .int c] = lstZ [a, b, c] := rfl
@[simp] theorem lstT1 (a : List Int) : D.lst [tupZ a] = lstT [a] := rfl
@[simp] theorem lstT2 (a b : List Int) : D.lst [tupZ a, tupZ b] = lstT [a, b] := rfl
@[simp] theorem lstT3 (a b c : List Int) : D.lst [tupZ a, tupZ b, tupZ c] = lstT [a, b, c] := rfl
@[simp] theorem itemsD_lstZ (l : List Int) : itemsD (lstZ l) = some (l.map D.int) := rfl
@[simp] theorem itemsD_lstT (l : List (List Int)) : itemsD (lstT l) = some (l.map tupZ) := rfl
@[simp] theorem seqD_lstZ (l : List Int) : seqD (lstZ l) = some (l.map D.int) := rfl
@[simp] theorem seqD_lstT (l : List (List Int)) : seqD (lstT l) = some (l.map tupZ) := rfl
@[simp] theorem lenD_lstZ (l : List Int) : lenD (lstZ l) = some (l.length : Int) := by simp [lstZ, lenD]
@[simp] theorem lenD_lstT (l : List (List Int)) : lenD (lstT l) = some (l.length : Int) := by simp [lstT, lenD]
@[simp] theorem isCont_lstZ (l : List Int) : isCont (lstZ l) = true := rfl
@[simp] theorem isCont_lstT (l : List (List Int)) : isCont (lstT l) = true := rfl
@[simp] theorem isCont_lstB (l : List Bool) : isCont (lstB l) = true := rfl
@[simp] theorem isCont_tupZ (l : List Int) : isCont (tupZ l) = false := rfl
@[simp] theorem isCont_int (i : Int) : isCont (.int i) = false := rfl
@[simp] theorem isCont_bl (i : Bool) : isCont (.bl i) = false := rfl
@[simp] theorem isCont_str (i : Str) : isCont (.str i) = false := rfl
@[simp] theorem isCont_non : isCont .non = false := rfl
@[simp] theorem isCont_tup (l : List D) : isCont (.tup l) = false := rfl
@[simp] theorem isCont_lst (l : List D) : isCont (.lst l) = true := rfl
@[simp] theorem idxD_lstZ (l : List Int) (i : Int) : idxD (lstZ l) (.int i) = (atI l i).map D.int := by
  show atI (l.map D.int) i = _
  rw [atI_mapX]
@[simp] theorem idxD_lstT (l : List (List Int)) (i : Int) : idxD (lstT l) (.int i) = (atI l i).map tupZ := by
  show atI (l.map tupZ) i = _
  rw [atI_mapX]
@[simp] theorem inD_lstT (k : List Int) (l : List (List Int)) : inD (tupZ k) (lstT l) = some (l.contains k) := inD_tups k l
@[simp] theorem inD_lstZ (k : Int) (l : List Int) : inD (.int k) (lstZ l) = some (l.contains k) := inD_int_lst k l
@[simp] theorem isTy_lstZ (t : Ty) (l : List Int) : isTy t (lstZ l) = some (match t with | .list => true | _ => false) := by cases t <;> rfl
@[simp] theorem isTy_lstT (t : Ty) (l : List (List Int)) : isTy t (lstT l) = some (match t with | .list => true | _ => false) := by cases t <;> rfl
theorem addZ (a b : List Int) (h : a.length + b.length ≤ 100000) : binD .add (lstZ a) (lstZ b) = some (lstZ (a ++ b), true) := by
  unfold lstZ binD
  simp only [List.length_map]
  rw [if_pos (by unfold lim; omega), List.map_append]
theorem addT (a b : List (List Int)) (h : a.length + b.length ≤ 100000) : binD .add (lstT a) (lstT b) = some (lstT (a ++ b), true) := by
  unfold lstT binD
  simp only [List.length_map]
  rw [if_pos (by unfold lim; omega), List.map_append]
/-! built-in functions -/
@[simp] theorem blt_len (a : D) : bltD .len [a] = (lenD a).map fun n => (.int n, false) := rfl
@[simp] theorem blt_sorted_lst (l : List Int) : bltD .sorted [lstZ l] = some (lstZ (sortI l), true) := by
  show (sortD (l.map D.int)).map _ = _
  rw [sortD_ints]
  rfl
@[simp] theorem blt_sorted_tup (l : List Int) : bltD .sorted [tupZ l] = some (lstZ (sortI l), true) := blt_sorted_lst l
theorem blt_sorted_lstT (l : List (List Int)) (h : l.all (fun k => !k.isEmpty) = true) : bltD .sorted [lstT l] = some (lstT (sortT l), true) := by
  show (sortD (l.map tupZ)).map _ = _
  rw [sortD_tups l h]
  rfl
@[simp] theorem blt_tuple_lst (l : List D) : bltD .tuple [.lst l] = some (.tup l, false) := rfl
@[simp] theorem blt_tuple_tup (l : List D) : bltD .tuple [.tup l] = some (.tup l, false) := rfl
@[simp] theorem blt_tuple_lstZ (l : List Int) : bltD .tuple [lstZ l] = some (tupZ l, false) := rfl
@[simp] theorem blt_tuple_tupZ (l : List Int) : bltD .tuple [tupZ l] = some (tupZ l, false) := rfl
@[simp] theorem blt_tuple_lstT (l : List (List Int)) : bltD .tuple [lstT l] = some (.tup (l.map tupZ), false) := rfl
@[simp] theorem blt_list_lstZ (l : List Int) : bltD .list [lstZ l] = some (lstZ l, true) := rfl
@[simp] theorem blt_list_tupZ (l : List Int) : bltD .list [tupZ l] = some (lstZ l, true) := rfl
@[simp] theorem blt_sum_lstZ (l : List Int) : bltD .sum [lstZ l] = some (.int l.sum, false) := by
  show (intsOf (l.map D.int)).map _ = _
  rw [intsOf_map]
  rfl
theorem blsOf_bl (l : List Bool) : blsOf (l.map D.bl) = some l := by
  induction l with
  | nil => rfl
  | cons a r ih => simp [blsOf, ih]
@[simp] theorem blt_all_lstB (l : List Bool) : bltD .all [lstB l] = some (.bl (l.all id), false) := by
  show (blsOf (l.map D.bl)).map _ = _
  rw [blsOf_bl]
  rfl
@[simp] theorem blt_any_lstB (l : List Bool) : bltD .any [lstB l] = some (.bl (l.any id), false) := by
  show (blsOf (l.map D.bl)).map _ = _
  rw [blsOf_bl]
  rfl
@[simp] theorem blt_abs (i : Int) : bltD .abs [.int i] = some (.int (if i < 0 then -i else i), false) := rfl
@[simp] theorem blt_int (i : Int) : bltD .int [.int i] = some (.int i, false) := rfl
@[simp] theorem blt_int_bl (b : Bool) : bltD .int [.bl b] = some (.int (b2i b), false) := rfl
@[simp] theorem blt_min2 (i j : Int) : bltD .min [.int i, .int j] = some (.int (if j < i then j else i), false) := rfl
@[simp] theorem blt_max2 (i j : Int) : bltD .max [.int i, .int j] = some (.int (if j > i then j else i), false) := rfl
@[simp] theorem blt_gcd (i j : Int) : bltD .gcd [.int i, .int j] = some (.int ((Nat.gcd i.natAbs j.natAbs : Nat) : Int), false) := rfl
@[simp] theorem blt_divmod (i j : Int) : bltD .divmod [.int i, .int j] = if 0 < j ∧ j < 1073741824 then some (tupZ [i / j, i % j], false) else none := rfl
theorem sortSet_lstZ (l : List Int) (h : l.length < 64) : sortSetD (lstZ l) = some (lstZ (setI l), true) := by
  unfold sortSetD lstZ lstD
  simp only [List.length_map, intsOf_map]
  rw [if_pos h]
theorem sortSet_lstT (l : List (List Int)) (d : Nat) (h0 : l ≠ []) (h : l.length < 64) (hd : 1 ≤ d) (hg : ∀ k ∈ l, k.length = d ∧ ∀ m ∈ k, 0 ≤ m ∧ m < 1048576) : sortSetD (lstT l) = some (lstT (setL l), true) := by
  match l, h0, h, hg with
  | k :: r, h0, h, hg =>
    have hk := (hg k (by simp)).1
    unfold sortSetD lstT lstD
    simp only [List.length_map]
    rw [if_pos h, intsOf_tups, tupsI_map]
    simp only
    rw [if_pos (by
      rw [Bool.and_eq_true]
      refine ⟨by simp; omega, ?_⟩
      rw [List.all_eq_true]
      intro q hq
      obtain ⟨h1, h2⟩ := hg q hq
      simp only [goodT, Bool.and_eq_true, decide_eq_true_eq, List.all_eq_true]
      exact ⟨by omega, h2⟩)]
theorem lenSet_lstZ (l : List Int) (h : l.length < 64) : lenSetD (lstZ l) = some (.int (dedupI l).length, false) := by
  unfold lenSetD lstZ lstD
  simp only [List.length_map, intsOf_map]
  rw [if_pos h]
@[simp] theorem binD_addI (i j : Int) : binD .add (.int i) (.int j) = some (.int (i + j), false) := rfl
@[simp] theorem binD_subI (i j : Int) : binD .sub (.int i) (.int j) = some (.int (i - j), false) := rfl
theorem binD_mulI (i j : Int) (h : -1000000 ≤ i ∧ i ≤ 1000000) : binD .mul (.int i) (.int j) = some (.int (i * j), false) := by
  simp only [binD]
  rw [if_pos (cMul_l h.1 h.2)]
theorem binD_modI (i j : Int) (h : 0 < j) : binD .mod (.int i) (.int j) = some (.int (i % j), false) := by
  simp only [binD]
  rw [if_pos h]
@[simp] theorem cmpD_lt (i j : Int) : cmpD .lt (.int i) (.int j) = some (decide (i < j)) := rfl
@[simp] theorem cmpD_le (i j : Int) : cmpD .le (.int i) (.int j) = some (decide (i ≤ j)) := rfl
@[simp] theorem cmpD_gt (i j : Int) : cmpD .gt (.int i) (.int j) = some (decide (j < i)) := rfl
@[simp] theorem cmpD_ge (i j : Int) : cmpD .ge (.int i) (.int j) = some (decide (j ≤ i)) := rfl
@[simp] theorem cmpD_eq (a b : D) : cmpD .eq a b = if okD 40 a && okD 40 b then some (eqD a b) else none := rfl
@[simp] theorem cmpD_ne (a b : D) : cmpD .ne a b = if okD 40 a && okD 40 b then some (!eqD a b) else none := rfl
@[simp] theorem cmpD_in (a b : D) : cmpD .in_ a b = inD a b := rfl
@[simp] theorem cmpD_nin (a b : D) : cmpD .nin a b = (inD a b).map (!·) := rfl
@[simp] theorem idxD_dic (ks vs : List D) (k : D) : idxD (.dic ks vs) k = if okKey k then dLook ks vs k else none := by cases k <;> rfl
@[simp] theorem okKey_str (s : Str) : okKey (.str s) = true := rfl
@[simp] theorem okKey_int (s : Int) : okKey (.int s) = true := rfl
@[simp] theorem cmpD_is (a : D) : cmpD .is_ a .non = some (match a with | .non => true | _ => false) := by cases a <;> rfl
@[simp] theorem cmpD_isn (a : D) : cmpD .isn a .non = some (match a with | .non => false | _ => true) := by cases a <;> rfl
@[simp] theorem slOf_t (d : D) : slOf d true = bif isCont d then .own d else .val d := by
  unfold slOf
  cases isCont d <;> rfl
@[simp] theorem slOf_f (d : D) : slOf d false = .val d := rfl
@[simp] theorem setAll_nil (ρ : Ss) (ss : List Sl) : setAll ρ [] ss = ρ := by cases ss <;> rfl
@[simp] theorem setAll_cons (ρ : Ss) (i : Nat) (is : List Nat) (s : Sl) (ss : List Sl) : setAll ρ (i :: is) (s :: ss) = setAll (ρ.set i s) is ss := rfl
@[simp] theorem lstD_lst (l : List D) : lstD (.lst l) = some l := rfl
@[simp] theorem lstD_lstZ (l : List Int) : lstD (lstZ l) = some (l.map D.int) := rfl
@[simp] theorem lstD_lstT (l : List (List Int)) : lstD (lstT l) = some (l.map tupZ) := rfl
@[simp] theorem snocZ (l : List Int) (i : Int) : D.lst (l.map D.int ++ [D.int i]) = lstZ (l ++ [i]) := by simp [lstZ]
@[simp] theorem snocT (l : List (List Int)) (i : List Int) : D.lst (l.map tupZ ++ [tupZ i]) = lstT (l ++ [i]) := by simp [lstT]
@[simp] theorem intsOf_nil : intsOf [] = some [] := rfl
@[simp] theorem intsOf_cons (i : Int) (l : List D) : intsOf (.int i :: l) = (intsOf l).map (i :: ·) := rfl
@[simp] theorem mth_indexZ (l : List Int) (i : Int) : mthD .index (lstZ l) [.int i] = (l.findIdx? (fun z => z == i)).map fun n => (.int n, false) := by
  unfold lstZ mthD
  simp only [intsOf_map]
  cases l.findIdx? (fun z => z == i) <;> rfl
@[simp] theorem mth_countZ (l : List Int) (i : Int) : mthD .count (lstZ l) [.int i] = some (.int (l.count i), false) := by
  unfold lstZ mthD
  simp only [intsOf_map]
/-- a part of a row -/
def cutX {α : Type} (l : List α) (lo hi : Option Int) : List α := (l.drop (HT.sIx l.length 0 lo)).take (HT.sIx l.length l.length hi - HT.sIx l.length 0 lo)
theorem cutL_map {α : Type} (f : α → D) (l : List α) (lo hi : Option Int) : cutL (l.map f) lo hi = (cutX l lo hi).map f := by
  unfold cutL cutX
  simp [List.map_take, List.map_drop]
@[simp] theorem slcD_tupZ (l : List Int) (lo hi : Option Int) : slcD (tupZ l) (some lo) (some hi) = some (tupZ (cutX l lo hi), false) := by
  show some (D.tup (cutL (l.map D.int) lo hi), false) = _
  rw [cutL_map]
  rfl
@[simp] theorem slcD_lstZ (l : List Int) (lo hi : Option Int) : slcD (lstZ l) (some lo) (some hi) = some (lstZ (cutX l lo hi), true) := by
  show some (D.lst (cutL (l.map D.int) lo hi), true) = _
  rw [cutL_map]
  rfl
@[simp] theorem slcD_lst (l : List D) (lo hi : Option Int) : slcD (.lst l) (some lo) (some hi) = some (.lst (cutX l lo hi), true) := rfl
@[simp] theorem cutX_map {α β : Type} (f : α → β) (l : List α) (lo hi : Option Int) : cutX (l.map f) lo hi = (cutX l lo hi).map f := by
  unfold cutX
  simp [List.map_take, List.map_drop]
theorem cutX_from {α : Type} (l : List α) (k : Nat) : cutX l (some (k : Int)) none = l.drop k := by
  unfold cutX
  rw [HT.sIx_nat, HT.sIx_none]
  by_cases h : k ≤ l.length
  · rw [Nat.min_eq_left h]
    rw [List.take_of_length_le (by simp)]
  · rw [Nat.min_eq_right (by omega)]
    simp
    omega
@[simp] theorem cutX_1 {α : Type} (l : List α) : cutX l (some 1) none = l.tail := by
  rw [← List.drop_one]
  exact cutX_from l 1
theorem cutX_to {α : Type} (l : List α) (k : Nat) : cutX l none (some (k : Int)) = l.take k := by
  unfold cutX
  rw [HT.sIx_nat, HT.sIx_none]
  by_cases h : k ≤ l.length
  · rw [Nat.min_eq_left h]
    simp
  · rw [Nat.min_eq_right (by omega)]
    simp
    rw [List.take_of_length_le (by omega)]
@[simp] theorem bndK_true (y : D) : bndK true y = some none := rfl
@[simp] theorem bndK_int (i : Int) : bndK false (.int i) = some (some i) := rfl
theorem zipD {α β : Type} (f : α → D) (g : β → D) (l : List α) (k : List β) : ((l.map f).zip (k.map g)).map (fun p => D.tup [p.1, p.2]) = (l.zip k).map fun p => D.tup [f p.1, g p.2] := by
  rw [List.zip_map, List.map_map]
  rfl
@[simp] theorem zipDt {α β : Type} (f : α → D) (g : β → D) (l : List α) (k : List β) : ((l.map f).zip (k.map g).tail).map (fun p => D.tup [p.1, p.2]) = (l.zip k.tail).map fun p => D.tup [f p.1, g p.2] := by
  rw [← List.map_tail, zipD]
@[simp] theorem xt_tupZ (ts : RTs) (l : List Int) (ρ : Ss) (st : St) : xt_tup ts (tupZ l) ρ st = ts (l.map D.int) ρ st := rfl
/-- the ints from one to another one, from 0 on -/
def rngI (m n : Int) : List Int := (List.range (n - m).toNat).map fun (k : Nat) => m + (k : Int)
def rng0 (n : Int) : List Int := (List.range n.toNat).map fun (k : Nat) => (k : Int)
theorem rngI_D (m n : Int) : ((List.range (n - m).toNat).map fun (k : Nat) => D.int (m + (k : Int))) = (rngI m n).map D.int := by
  unfold rngI
  rw [List.map_map]
  rfl
theorem rng0_D (n : Int) : ((List.range n.toNat).map fun (k : Nat) => D.int (k : Int)) = (rng0 n).map D.int := by
  unfold rng0
  rw [List.map_map]
  rfl
theorem mem_rngI {m n x : Int} : x ∈ rngI m n ↔ m ≤ x ∧ x < n := by
  unfold rngI
  simp only [List.mem_map, List.mem_range]
  constructor
  · rintro ⟨k, h, rfl⟩
    omega
  · intro h
    exact ⟨(x - m).toNat, by omega, by omega⟩
theorem mem_rng0 {n x : Int} : x ∈ rng0 n ↔ 0 ≤ x ∧ x < n := by
  unfold rng0
  simp only [List.mem_map, List.mem_range]
  constructor
  · rintro ⟨k, h, rfl⟩
    omega
  · intro h
    exact ⟨x.toNat, by omega, by omega⟩
@[simp] theorem len_rng0 (n : Int) : (rng0 n).length = n.toNat := by simp [rng0]
@[simp] theorem len_rngI (m n : Int) : (rngI m n).length = (n - m).toNat := by simp [rngI]
theorem rng1_ap {a : RE} {ρ ρ' : Ss} {st st' : St} {n : Int} {f : Bool} (h : a ρ st = some (.int n, f, ρ', st')) (h1 : -1000 ≤ n) (h2 : n ≤ 1000) : xk_rng (xl_cons a xl_nil) ρ st = some (lstZ (rng0 n), true, ρ', st') := by
  rw [xk_rng_ap]
  simp only [xl_cons_ap, xl_nil_ap, h]
  rw [if_pos (by unfold lim; omega), rng0_D]
  rfl
theorem rng2_ap {a b : RE} {ρ ρ' ρ2 : Ss} {st st' st2 : St} {m n : Int} {f g : Bool} (h : a ρ st = some (.int m, f, ρ', st')) (h' : b ρ' st' = some (.int n, g, ρ2, st2)) (h1 : -1000 ≤ n) (h2 : n ≤ 1000) (h3 : -1000 ≤ m) (h4 : m ≤ 1000) :
    xk_rng (xl_cons a (xl_cons b xl_nil)) ρ st = some (lstZ (rngI m n), true, ρ2, st2) := by
  rw [xk_rng_ap]
  simp only [xl_cons_ap, xl_nil_ap, h, h']
  rw [if_pos (by unfold lim; omega), rngI_D]
  rfl
@[simp] theorem sum_const {α : Type} (c : Nat) (l : List α) : (l.map fun _ => c).sum = c * l.length := by
  induction l with
  | nil => rfl
  | cons a r ih => simp [ih, Nat.mul_add]; omega
/-- rows item by item -/
theorem all_same {α : Type} [DecidableEq α] (k l : List α) (h : k.length = l.length) : ((rng0 l.length).all fun i => decide (atI k i = atI l i)) = decide (k = l) := by
  have e : ∀ (k : List α) (j : Nat), j < k.length → atI k (j : Int) = k[j]? := by
    intro k j hj
    unfold atI ixN
    rw [if_pos (by omega), if_pos (by omega)]
    simp
  rw [Bool.eq_iff_iff]
  simp only [List.all_eq_true, decide_eq_true_eq]
  constructor
  · intro q
    refine List.ext_getElem? fun j => ?_
    by_cases hj : j < l.length
    · have := q j (mem_rng0.mpr ⟨by omega, by omega⟩)
      rw [e k j (by omega), e l j hj] at this
      exact this
    · rw [List.getElem?_eq_none (by omega), List.getElem?_eq_none (by omega)]
  · rintro rfl _ _
    rfl
theorem atI_some {α : Type} (l : List α) (i : Int) (h : 0 ≤ i ∧ i < l.length) : ∃ v, atI l i = some v ∧ l[i.toNat]? = some v := by
  have hi : i.toNat < l.length := by omega
  refine ⟨l[i.toNat], ?_, by simp [hi]⟩
  unfold atI ixN
  rw [if_pos h.1, if_pos h.2]
  simp [hi]
theorem rngI_cons {m n : Int} (h : m < n) : rngI m n = m :: rngI (m + 1) n := by
  unfold rngI
  have e : (n - m).toNat = (n - (m + 1)).toNat + 1 := by omega
  rw [e, List.range_succ_eq_map]
  simp only [List.map_cons, List.map_map]
  congr 1
  · simp
  · apply List.map_congr_left
    intro k _
    simp only [Function.comp_apply]
    omega
theorem rngI_nil {m n : Int} (h : n ≤ m) : rngI m n = [] := by
  unfold rngI
  rw [show (n - m).toNat = 0 by omega]
  rfl
/-- a statement that goes on -/
theorem q_nx {s ss : RS} {ρ ρ' : Ss} {st st' : St} (h : s ρ st = some (.nx, ρ', st')) : xq_cons s ss ρ st = ss ρ' st' := by
  rw [xq_cons_ap, h]
/-! walks -/
section
variable {α : Type} {st : St}
theorem gath_ok {step : D → Ss → St → Option (List D × Ss × St)} {emb : α → D} {ins : α → Ss} {g : α → List D} {ρ1 : Ss} : ∀ (xs : List α),
    (∀ d ∈ xs, step (emb d) ρ1 st = some (g d, ins d, st)) → (∀ d ∈ xs, ∀ e ∈ xs, step (emb d) (ins e) st = some (g d, ins d, st)) →
    ∃ ρ2, gath step (xs.map emb) ρ1 st = some (xs.flatMap g, ρ2, st) ∧ (ρ2 = ρ1 ∨ ∃ e ∈ xs, ρ2 = ins e)
  | [], _, _ => ⟨ρ1, rfl, .inl rfl⟩
  | d :: xs, h0, h1 => by
    obtain ⟨ρ2, e1, e2⟩ := gath_ok (ρ1 := ins d) xs (fun e he => h1 e (by simp [he]) d (by simp)) (fun a ha b hb => h1 a (by simp [ha]) b (by simp [hb]))
    refine ⟨ρ2, ?_, ?_⟩
    · simp only [List.map_cons, gath, h0 d (by simp), e1]
      simp
    · rcases e2 with e2 | ⟨e, he, e2⟩
      · exact .inr ⟨d, by simp, e2⟩
      · exact .inr ⟨e, by simp [he], e2⟩
theorem flat_filter (xs : List α) (p : α → Bool) (g : α → D) : (xs.flatMap fun x => if p x then [g x] else []) = (xs.filter p).map g := by
  induction xs with
  | nil => rfl
  | cons a r ih =>
    rw [List.flatMap_cons, ih, List.filter_cons]
    split <;> simp
/-- a comprehension -/
theorem comp_ok {tg : RT} {it : RE} {ifs : RI} {elt : RE} {vars : List Nat} {ρ ρ1 R : Ss} {x : D} {fl : Bool} {fe : Bool} (xs : List α) (emb : α → D) (ins : α → Ss) (p : α → Bool) (g : α → D)
    (hit : it ρ st = some (x, fl, ρ1, st)) (hx : itemsD x = some (xs.map emb))
    (h0 : ∀ d ∈ xs, tg (emb d) (wipeS ρ1 vars) st = some (ins d, st)) (h1 : ∀ d ∈ xs, ∀ e ∈ xs, tg (emb d) (wipeS (ins e) vars) st = some (ins d, st))
    (hi : ∀ d ∈ xs, ifs (ins d) st = some (p d, ins d, st)) (he : ∀ d ∈ xs, p d = true → elt (ins d) st = some (g d, fe, ins d, st))
    (hr0 : restS ρ1 ρ1 vars = R) (hr : ∀ e ∈ xs, restS ρ1 (ins e) vars = R) (hl : xs.length ≤ lim) :
    xk_comp tg it ifs elt vars ρ st = some (.lst ((xs.filter p).map g), true, R, st) := by
  rw [comp_run hit hx]
  obtain ⟨ρ2, e1, e2⟩ := gath_ok (st := st) (step := compS tg ifs elt vars) (emb := emb) (ins := ins) (g := fun x => if p x then [g x] else []) (ρ1 := ρ1) xs (fun d hd => by
      simp only [compS, h0 d hd, hi d hd]
      cases hp : p d
      · simp
      · simp [he d hd hp]) (fun d hd e hq => by
      simp only [compS, h1 d hd e hq, hi d hd]
      cases hp : p d
      · simp
      · simp [he d hd hp])
  rw [e1, flat_filter]
  unfold compEnd
  simp only
  rw [if_pos (by rw [List.length_map]; exact Nat.le_trans (List.length_filter_le p xs) hl)]
  rcases e2 with rfl | ⟨e, q, rfl⟩
  · rw [hr0]
  · rw [hr e q]
theorem set_set {α : Type} (l : List α) (i : Nat) (a b : α) : (l.set i a).set i b = l.set i b := by
  induction l generalizing i with
  | nil => rfl
  | cons x r ih => cases i <;> simp [ih]
theorem set_self {α : Type} (l : List α) (i : Nat) (a : α) (h : l[i]? = some a) : l.set i a = l := by
  induction l generalizing i with
  | nil => rfl
  | cons x r ih =>
    cases i with
    | zero => simp at h; simp [h]
    | succ i => simp at h; simp [ih i h]
/-- a comprehension over one name -/
theorem comp_one {it : RE} {ifs : RI} {elt : RE} {v : Nat} {ρ : Ss} (ρ1 : Ss) {fl fe : Bool} {x : D} (xs : List α) (emb : α → D) (p : α → Bool) (g : α → D)
    (hit : it ρ st = some (x, fl, ρ1, st)) (hx : itemsD x = some (xs.map emb)) (hv : ρ1[v]? = some .un)
    (hi : ∀ d ∈ xs, ifs (ρ1.set v (.val (emb d))) st = some (p d, ρ1.set v (.val (emb d)), st)) (he : ∀ d ∈ xs, p d = true → elt (ρ1.set v (.val (emb d))) st = some (g d, fe, ρ1.set v (.val (emb d)), st)) (hl : xs.length ≤ 1000) :
    xk_comp (xt_var v) it ifs elt [v] ρ st = some (.lst ((xs.filter p).map g), true, ρ1, st) := by
  refine comp_ok (ins := fun d => ρ1.set v (.val (emb d))) xs emb p g hit hx ?_ ?_ hi he ?_ ?_ (by unfold lim; omega)
  · intro d _
    simp only [xt_var_ap, wipeS, set_set]
  · intro d _ e _
    simp only [xt_var_ap, wipeS, set_set]
  · simp only [restS, hv]
    exact set_self _ _ _ hv
  · intro e _
    simp only [restS, hv, set_set]
    exact set_self _ _ _ hv
theorem comp_Z {it : RE} {ifs : RI} {elt : RE} {v : Nat} {ρ : Ss} (ρ1 : Ss) {fl fe : Bool} {x : D} (xs : List α) (emb : α → D) (p : α → Bool) (g : α → Int)
    (hit : it ρ st = some (x, fl, ρ1, st)) (hx : itemsD x = some (xs.map emb)) (hv : ρ1[v]? = some .un)
    (hi : ∀ d ∈ xs, ifs (ρ1.set v (.val (emb d))) st = some (p d, ρ1.set v (.val (emb d)), st)) (he : ∀ d ∈ xs, p d = true → elt (ρ1.set v (.val (emb d))) st = some (.int (g d), fe, ρ1.set v (.val (emb d)), st)) (hl : xs.length ≤ 1000) :
    xk_comp (xt_var v) it ifs elt [v] ρ st = some (lstZ ((xs.filter p).map g), true, ρ1, st) := by
  rw [comp_one ρ1 xs emb p (fun d => .int (g d)) hit hx hv hi he hl]
  simp [lstZ]
theorem comp_T {it : RE} {ifs : RI} {elt : RE} {v : Nat} {ρ : Ss} (ρ1 : Ss) {fl fe : Bool} {x : D} (xs : List α) (emb : α → D) (p : α → Bool) (g : α → List Int)
    (hit : it ρ st = some (x, fl, ρ1, st)) (hx : itemsD x = some (xs.map emb)) (hv : ρ1[v]? = some .un)
    (hi : ∀ d ∈ xs, ifs (ρ1.set v (.val (emb d))) st = some (p d, ρ1.set v (.val (emb d)), st)) (he : ∀ d ∈ xs, p d = true → elt (ρ1.set v (.val (emb d))) st = some (tupZ (g d), fe, ρ1.set v (.val (emb d)), st)) (hl : xs.length ≤ 1000) :
    xk_comp (xt_var v) it ifs elt [v] ρ st = some (lstT ((xs.filter p).map g), true, ρ1, st) := by
  rw [comp_one ρ1 xs emb p (fun d => tupZ (g d)) hit hx hv hi he hl]
  simp [lstT]
theorem comp_B {it : RE} {ifs : RI} {elt : RE} {v : Nat} {ρ : Ss} (ρ1 : Ss) {fl fe : Bool} {x : D} (xs : List α) (emb : α → D) (p : α → Bool) (g : α → Bool)
    (hit : it ρ st = some (x, fl, ρ1, st)) (hx : itemsD x = some (xs.map emb)) (hv : ρ1[v]? = some .un)
    (hi : ∀ d ∈ xs, ifs (ρ1.set v (.val (emb d))) st = some (p d, ρ1.set v (.val (emb d)), st)) (he : ∀ d ∈ xs, p d = true → elt (ρ1.set v (.val (emb d))) st = some (.bl (g d), fe, ρ1.set v (.val (emb d)), st)) (hl : xs.length ≤ 1000) :
    xk_comp (xt_var v) it ifs elt [v] ρ st = some (lstB ((xs.filter p).map g), true, ρ1, st) := by
  rw [comp_one ρ1 xs emb p (fun d => .bl (g d)) hit hx hv hi he hl]
  simp [lstB]
theorem gath_cls {step : D → Ss → St → Option (List D × Ss × St)} {emb : α → D} {g : α → List D} (C : Ss → Prop) : ∀ (xs : List α),
    (∀ d ∈ xs, ∀ ρ, C ρ → ∃ ρ', step (emb d) ρ st = some (g d, ρ', st) ∧ C ρ') → ∀ ρ, C ρ → ∃ ρ', gath step (xs.map emb) ρ st = some (xs.flatMap g, ρ', st) ∧ C ρ'
  | [], _, ρ, c => ⟨ρ, rfl, c⟩
  | d :: xs, h, ρ, c => by
    obtain ⟨ρ', e, c'⟩ := h d (by simp) ρ c
    obtain ⟨ρ2, e2, c2⟩ := gath_cls C xs (fun a ha => h a (by simp [ha])) ρ' c'
    exact ⟨ρ2, by simp only [List.map_cons, gath, e, e2, List.flatMap_cons], c2⟩
theorem set_comm' {β : Type} (l : List β) {i j : Nat} (h : i ≠ j) (a b : β) : (l.set i a).set j b = (l.set j b).set i a := by
  induction l generalizing i j with
  | nil => rfl
  | cons x r ih =>
    cases i <;> cases j <;> simp_all
/-- a comprehension whose turns change the store -/
theorem gath_st {step : D → Ss → St → Option (List D × Ss × St)} {emb : α → D} {g : α → List D} (C : Ss → Prop) (J : St → Prop) : ∀ (xs : List α),
    (∀ d ∈ xs, ∀ ρ st, C ρ → J st → ∃ ρ' st', step (emb d) ρ st = some (g d, ρ', st') ∧ C ρ' ∧ J st') → ∀ ρ st, C ρ → J st → ∃ ρ' st', gath step (xs.map emb) ρ st = some (xs.flatMap g, ρ', st') ∧ C ρ' ∧ J st'
  | [], _, ρ, st, c, j => ⟨ρ, st, rfl, c, j⟩
  | d :: xs, h, ρ, st, c, j => by
    obtain ⟨ρ', st', e, c', j'⟩ := h d (by simp) ρ st c j
    obtain ⟨ρ2, st2, e2, c2, j2⟩ := gath_st C J xs (fun a ha => h a (by simp [ha])) ρ' st' c' j'
    exact ⟨ρ2, st2, by simp only [List.map_cons, gath, e, e2, List.flatMap_cons], c2, j2⟩
theorem comp_st {it : RE} {elt : RE} {v : Nat} {ρ : Ss} {st : St} (ρ1 : Ss) {fl : Bool} {x : D} (xs : List α) (emb : α → D) (g : α → D) (J : St → Prop)
    (hit : it ρ st = some (x, fl, ρ1, st)) (hx : itemsD x = some (xs.map emb)) (hv : ρ1[v]? = some .un) (hj : J st)
    (he : ∀ d ∈ xs, ∀ st, J st → ∃ fe st', elt (ρ1.set v (.val (emb d))) st = some (g d, fe, ρ1.set v (.val (emb d)), st') ∧ J st') (hl : xs.length ≤ 1000) :
    ∃ st', xk_comp (xt_var v) it xi_nil elt [v] ρ st = some (.lst (xs.map g), true, ρ1, st') ∧ J st' := by
  rw [comp_run hit hx]
  obtain ⟨ρ2, st2, e2, ⟨s, c2⟩, j2⟩ := gath_st (step := compS (xt_var v) xi_nil elt [v]) (emb := emb) (g := fun d => [g d]) (fun ρ => ∃ s, ρ = ρ1.set v s) J xs (fun d hd ρ st ⟨s, c⟩ j => by
    subst c
    obtain ⟨fe, st', e, j'⟩ := he d hd st j
    refine ⟨ρ1.set v (.val (emb d)), st', ?_, ⟨_, rfl⟩, j'⟩
    simp only [compS, xt_var_ap, xi_nil_ap, wipeS, set_set, e, cond_true]) ρ1 st ⟨.un, (set_self ρ1 v _ hv).symm⟩ hj
  have fm : xs.flatMap (fun y => [g y]) = xs.map g := by
    clear hx he hl e2
    induction xs with
    | nil => rfl
    | cons a r ih => simp [List.flatMap_cons, ih]
  rw [fm] at e2
  refine ⟨st2, ?_, j2⟩
  rw [e2]
  unfold compEnd
  simp only [List.length_map]
  rw [if_pos (by unfold lim; omega), c2]
  simp only [restS, hv, set_set]
  rw [set_self ρ1 v _ hv]
/-- a comprehension over two names -/
theorem comp_two {β : Type} {it it' : RE} {elt : RE} {v v' : Nat} {ρ : Ss} (ρ1 : Ss) {fl fe : Bool} {x : D} (xs : List α) (emb : α → D) (ys : α → List β) (emb' : β → D) (g : α → β → D)
    (hit : it ρ st = some (x, fl, ρ1, st)) (hx : itemsD x = some (xs.map emb)) (hv : ρ1[v]? = some .un) (hv' : ρ1[v']? = some .un) (hne : v ≠ v')
    (hin : ∀ d ∈ xs, ∃ x' fl', it' (ρ1.set v (.val (emb d))) st = some (x', fl', ρ1.set v (.val (emb d)), st) ∧ itemsD x' = some ((ys d).map emb'))
    (he : ∀ d ∈ xs, ∀ y ∈ ys d, elt ((ρ1.set v (.val (emb d))).set v' (.val (emb' y))) st = some (g d y, fe, (ρ1.set v (.val (emb d))).set v' (.val (emb' y)), st))
    (hl : (xs.flatMap fun d => (ys d).map (g d)).length ≤ lim) :
    xk_comp2 (xt_var v) it xi_nil (xt_var v') it' xi_nil elt [v, v'] [v'] ρ st = some (.lst (xs.flatMap fun d => (ys d).map (g d)), true, ρ1, st) := by
  rw [comp2_run hit hx]
  have key : ∀ d ∈ xs, ∀ ρ', (∃ s s', ρ' = (ρ1.set v s).set v' s') → ∃ ρ2, compS2 (xt_var v) xi_nil it' (compS (xt_var v') xi_nil elt [v']) [v, v'] (emb d) ρ' st = some ((ys d).map (g d), ρ2, st) ∧ ∃ s s', ρ2 = (ρ1.set v s).set v' s' := by
    intro d hd ρ' ⟨s, s', e⟩
    subst e
    have e1 : ((wipeS ((ρ1.set v s).set v' s') [v, v']).set v (.val (emb d))) = ρ1.set v (.val (emb d)) := by
      simp only [wipeS, set_set]
      rw [set_comm' _ hne.symm, set_set, set_comm' ρ1 hne, set_self ρ1 v' _ hv']
    obtain ⟨x', fl', h1, h2⟩ := hin d hd
    simp only [compS2, xt_var_ap, xi_nil_ap, e1, h1, h2, cond_true]
    obtain ⟨ρ2, e2, c2⟩ := gath_cls (st := st) (step := compS (xt_var v') xi_nil elt [v']) (emb := emb') (g := fun y => [g d y]) (fun ρ => ∃ s', ρ = (ρ1.set v (.val (emb d))).set v' s') (ys d) (fun y hy ρ ⟨s', e⟩ => by
        subst e
        simp only [compS, xt_var_ap, xi_nil_ap, wipeS, set_set, he d hd y hy, cond_true]
        exact ⟨_, rfl, _, rfl⟩) (ρ1.set v (.val (emb d))) ⟨.un, by
          rw [set_comm' ρ1 hne, set_self ρ1 v' _ hv']⟩
    have fm : (ys d).flatMap (fun y => [g d y]) = (ys d).map (g d) := by
      generalize ys d = l
      induction l with
      | nil => rfl
      | cons a r ih => simp [List.flatMap_cons, ih]
    rw [fm] at e2
    obtain ⟨s', e⟩ := c2
    exact ⟨ρ2, e2, _, s', e⟩
  obtain ⟨ρ2, e2, s, s', e3⟩ := gath_cls (st := st) (emb := emb) (fun ρ => ∃ s s', ρ = (ρ1.set v s).set v' s') xs key ρ1 ⟨.un, .un, by rw [set_self ρ1 v _ hv, set_self ρ1 v' _ hv']⟩
  rw [e2]
  unfold compEnd
  simp only
  rw [if_pos hl]
  have : restS ρ1 ρ2 [v, v'] = ρ1 := by
    subst e3
    simp only [restS, hv, hv', set_set]
    rw [set_comm' _ hne.symm, set_set, set_comm' ρ1 hne, set_self ρ1 v' _ hv', set_self ρ1 v _ hv]
  rw [this]
/-- a loop without an end of its own -/
theorem turns_ok {σ : Type} {step : D → Ss → St → Option (Fl × Ss × St)} {emb : α → D} {enc : σ → Ss} {upd : σ → α → σ} (I : σ → Prop) : ∀ (xs : List α) (s : σ), I s →
    (∀ d ∈ xs, ∀ s, I s → step (emb d) (enc s) st = some (.nx, enc (upd s d), st) ∧ I (upd s d)) →
    turns step (xs.map emb) (enc s) st = some (.nx, enc (xs.foldl upd s), st) ∧ I (xs.foldl upd s)
  | [], s, i, _ => ⟨rfl, i⟩
  | d :: xs, s, i, h => by
    obtain ⟨h1, h2⟩ := h d (by simp) s i
    simp only [List.map_cons, turns, h1, List.foldl_cons]
    exact turns_ok I xs (upd s d) h2 fun e he => h e (by simp [he])
@[simp] theorem forS_ap (tg : RT) (body : RS) (d : D) (ρ : Ss) (st : St) : forS tg body d ρ st = match tg d ρ st with
  | some (ρ, st) => body ρ st
  | none => none := rfl
theorem for_fold {σ : Type} {tg : RT} {it : RE} {body : RS} {ρ : Ss} {x : D} {fl : Bool} (xs : List α) (emb : α → D) (enc : σ → Ss) (upd : σ → α → σ) (I : σ → Prop) (s0 : σ)
    (hit : it ρ st = some (x, fl, enc s0, st)) (hx : itemsD x = some (xs.map emb)) (h0 : I s0)
    (hs : ∀ d ∈ xs, ∀ s, I s → forS tg body (emb d) (enc s) st = some (.nx, enc (upd s d), st) ∧ I (upd s d)) :
    xs_for_ tg it body ρ st = some (.nx, enc (xs.foldl upd s0), st) := by
  rw [for_run hit hx]
  exact (turns_ok I xs s0 h0 hs).1
theorem turns_okR {σ : Type} {step : D → Ss → St → Option (Fl × Ss × St)} {emb : α → D} {enc : σ → Ss} {upd : σ → α → σ} (I : List α → σ → Prop) : ∀ (xs : List α) (s : σ), I xs s →
    (∀ d rest s, I (d :: rest) s → step (emb d) (enc s) st = some (.nx, enc (upd s d), st) ∧ I rest (upd s d)) →
    turns step (xs.map emb) (enc s) st = some (.nx, enc (xs.foldl upd s), st) ∧ I [] (xs.foldl upd s)
  | [], s, i, _ => ⟨rfl, i⟩
  | d :: xs, s, i, h => by
    obtain ⟨h1, h2⟩ := h d xs s i
    simp only [List.map_cons, turns, h1, List.foldl_cons]
    exact turns_okR I xs (upd s d) h2 h
theorem for_foldR {σ : Type} {tg : RT} {it : RE} {body : RS} {ρ : Ss} {x : D} {fl : Bool} (xs : List α) (emb : α → D) (enc : σ → Ss) (upd : σ → α → σ) (I : List α → σ → Prop) (s0 : σ)
    (hit : it ρ st = some (x, fl, enc s0, st)) (hx : itemsD x = some (xs.map emb)) (h0 : I xs s0)
    (hs : ∀ d rest s, I (d :: rest) s → forS tg body (emb d) (enc s) st = some (.nx, enc (upd s d), st) ∧ I rest (upd s d)) :
    xs_for_ tg it body ρ st = some (.nx, enc (xs.foldl upd s0), st) := by
  rw [for_run hit hx]
  exact (turns_okR I xs s0 h0 hs).1
/-- a loop by what holds of the slots and the store, and of what is left -/
theorem turns_rest {step : D → Ss → St → Option (Fl × Ss × St)} {emb : α → D} (I : List α → Ss → St → Prop) : ∀ (xs : List α) (ρ : Ss) (st : St), I xs ρ st →
    (∀ d rest ρ st, I (d :: rest) ρ st → ∃ ρ' st', step (emb d) ρ st = some (.nx, ρ', st') ∧ I rest ρ' st') →
    ∃ ρ' st', turns step (xs.map emb) ρ st = some (.nx, ρ', st') ∧ I [] ρ' st'
  | [], ρ, st, i, _ => ⟨ρ, st, rfl, i⟩
  | d :: xs, ρ, st, i, h => by
    obtain ⟨ρ', st', h1, h2⟩ := h d xs ρ st i
    simp only [List.map_cons, turns, h1]
    exact turns_rest I xs ρ' st' h2 h
/-- a loop whose turns change the store, too -/
theorem turns_inv {step : D → Ss → St → Option (Fl × Ss × St)} {emb : α → D} (I : Ss → St → Prop) : ∀ (xs : List α) (ρ : Ss) (st : St), I ρ st →
    (∀ d ∈ xs, ∀ ρ st, I ρ st → ∃ ρ' st', step (emb d) ρ st = some (.nx, ρ', st') ∧ I ρ' st') →
    ∃ ρ' st', turns step (xs.map emb) ρ st = some (.nx, ρ', st') ∧ I ρ' st'
  | [], ρ, st, i, _ => ⟨ρ, st, rfl, i⟩
  | d :: xs, ρ, st, i, h => by
    obtain ⟨ρ', st', h1, h2⟩ := h d (by simp) ρ st i
    simp only [List.map_cons, turns, h1]
    exact turns_inv I xs ρ' st' h2 fun e he => h e (by simp [he])
end
theorem for_then {α : Type} {st st1 : St} {tg : RT} {it : RE} {body rest : RS} {ρ ρ1 : Ss} {x : D} {fl : Bool} (Q : Option (Fl × Ss × St) → Prop) (xs : List α) (emb : α → D) (I : Ss → St → Prop)
    (hit : it ρ st = some (x, fl, ρ1, st1)) (hx : itemsD x = some (xs.map emb)) (h0 : I ρ1 st1)
    (hs : ∀ d ∈ xs, ∀ ρ st, I ρ st → ∃ ρ' st', forS tg body (emb d) ρ st = some (.nx, ρ', st') ∧ I ρ' st') (hq : ∀ ρ' st', I ρ' st' → Q (rest ρ' st')) :
    Q (xq_cons (xs_for_ tg it body) rest ρ st) := by
  obtain ⟨ρ', st', e, i⟩ := turns_inv I xs ρ1 st1 h0 hs
  rw [q_nx ((for_run hit hx).trans e)]
  exact hq ρ' st' i
section
variable {c : Prop} [Decidable c] {a b : Bool} {f : Bool} {ρ : Ss} {st : St}
@[simp] theorem ite_bl : (if c then some (D.bl b, f, ρ, st) else some (D.bl false, f, ρ, st)) = some (D.bl (decide c && b), f, ρ, st) := by
  by_cases h : c <;> simp [h]
@[simp] theorem ite_bl' : (if c then some (D.bl b, f, ρ, st) else some (D.bl (decide c), f, ρ, st)) = some (D.bl (decide c && b), f, ρ, st) := by
  by_cases h : c <;> simp [h]
@[simp] theorem ite_bl2 : (if c then some (D.bl true, f, ρ, st) else some (D.bl b, f, ρ, st)) = some (D.bl (decide c || b), f, ρ, st) := by
  by_cases h : c <;> simp [h]
@[simp] theorem ite_bl2' : (if c then some (D.bl (decide c), f, ρ, st) else some (D.bl b, f, ρ, st)) = some (D.bl (decide c || b), f, ρ, st) := by
  by_cases h : c <;> simp [h]
@[simp] theorem cond_tf : (bif a then some (true, ρ, st) else some (false, ρ, st)) = some (a, ρ, st) := by cases a <;> rfl
@[simp] theorem ite_tf : (if c then some (true, ρ, st) else some (false, ρ, st)) = some (decide c, ρ, st) := by by_cases h : c <;> simp [h]
@[simp] theorem cond_bl : (bif a then some (D.bl b, f, ρ, st) else some (D.bl a, f, ρ, st)) = some (D.bl (a && b), f, ρ, st) := by cases a <;> rfl
@[simp] theorem cond_bl' : (bif a then some (D.bl b, f, ρ, st) else some (D.bl false, f, ρ, st)) = some (D.bl (a && b), f, ρ, st) := by cases a <;> rfl
@[simp] theorem cond_bl2 : (bif a then some (D.bl a, f, ρ, st) else some (D.bl b, f, ρ, st)) = some (D.bl (a || b), f, ρ, st) := by cases a <;> rfl
@[simp] theorem cond_bl2' : (bif a then some (D.bl true, f, ρ, st) else some (D.bl b, f, ρ, st)) = some (D.bl (a || b), f, ρ, st) := by cases a <;> rfl
end
end Rv

set_option Elab.async false
set_option linter.all false
set_option maxRecDepth 100000
set_option maxHeartbeats 0
namespace Rv
open PySem PySem.Spec PyProof.Rows L2
def topS (i : Nat) : Stmt := PySem.Challenge.pw_ringtones_k78_whole_rounds_of_threes.main.body.getD i (.Pass ⟨0, 0, 0, 0⟩)
def f_is_whole : Fn := ⟨["value"], 1, [.ret (.bop true [.isi .int (.var 0), .bnot (.isi .bool (.var 0))])]⟩
def d_is_whole : DefT := ⟨"is_whole", f_is_whole, ["value"], C8.fnArgs (topS 1), C8.fnBody (topS 1), C8.fnScope (topS 1)⟩
def f_is_between : Fn := ⟨["value", "low", "high"], 3, [.ret (.bop true [.call "is_whole" [.var 0], .cmp2 .le .le (.var 1) (.var 0) (.var 2)])]⟩
def d_is_between : DefT := ⟨"is_between", f_is_between, ["value", "low", "high"], C8.fnArgs (topS 2), C8.fnBody (topS 2), C8.fnScope (topS 2)⟩
def f_is_text_of : Fn := ⟨["value", "signs"], 3, [.ret (.bop true [.isi .str (.var 0), .blt .all [.comp (.var 2) (.it (.var 0)) [] (.cmp .in_ (.var 2) (.var 1)) [2]]])]⟩
def d_is_text_of : DefT := ⟨"is_text_of", f_is_text_of, ["value", "signs", "sign"], C8.fnArgs (topS 3), C8.fnBody (topS 3), C8.fnScope (topS 3)⟩
def f_is_ascending : Fn := ⟨["row"], 3, [.ret (.blt .all [.comp (.tup [.var 1, .var 2]) (.zip (.var 0) (.slc (.var 0) (.lit (.int 1)) (.omit))) [] (.cmp .lt (.var 1) (.var 2)) [1, 2]])]⟩
def d_is_ascending : DefT := ⟨"is_ascending", f_is_ascending, ["row", "one", "two"], C8.fnArgs (topS 4), C8.fnBody (topS 4), C8.fnScope (topS 4)⟩
def f_is_ring : Fn := ⟨["value"], 1, [.ret (.call "is_between" [.var 0, .gc "FEWEST", .gc "MOST"])]⟩
def d_is_ring : DefT := ⟨"is_ring", f_is_ring, ["value"], C8.fnArgs (topS 8), C8.fnBody (topS 8), C8.fnScope (topS 8)⟩
def f_is_tone : Fn := ⟨["ring", "value"], 2, [.ret (.call "is_between" [.var 1, .lit (.int 0), .bin .sub (.var 0) (.lit (.int 1))])]⟩
def d_is_tone : DefT := ⟨"is_tone", f_is_tone, ["ring", "value"], C8.fnArgs (topS 9), C8.fnBody (topS 9), C8.fnScope (topS 9)⟩
def f_is_chorded : Fn := ⟨["ring", "value"], 3, [.ret (.bop true [.isi .tuple (.var 1), .blt .all [.comp (.var 2) (.it (.var 1)) [] (.call "is_tone" [.var 0, .var 2]) [2]], .call "is_ascending" [.var 1]])]⟩
def d_is_chorded : DefT := ⟨"is_chorded", f_is_chorded, ["ring", "value", "tone"], C8.fnArgs (topS 10), C8.fnBody (topS 10), C8.fnScope (topS 10)⟩
def f_gaps_by : Fn := ⟨["number", "chord"], 5, [.tset (.var 2) (.lst [.star (.slc (.var 1) (.lit (.int 1)) (.omit)), .bin .add (.idx (.var 1) (.lit (.int 0))) (.var 0)]), .ret (.comp (.tup [.var 3, .var 4]) (.zip (.var 1) (.var 2)) [] (.bin .sub (.var 4) (.var 3)) [3, 4])]⟩
def d_gaps_by : DefT := ⟨"gaps_by", f_gaps_by, ["number", "chord", "later", "here", "there"], C8.fnArgs (topS 12), C8.fnBody (topS 12), C8.fnScope (topS 12)⟩
def f_chord_with_gaps : Fn := ⟨["number", "tone", "some"], 6, [.par [3, 4] [.lst [], .var 1], .for_ (.var 5) (.it (.var 2)) [.app 3 (.bin .mod (.var 4) (.var 0)), .tset (.var 4) (.bin .add (.var 4) (.var 5))], .ret (.blt .tuple [.blt .sorted [.var 3]])]⟩
def d_chord_with_gaps : DefT := ⟨"chord_with_gaps", f_chord_with_gaps, ["number", "tone", "some", "found", "here", "gap"], C8.fnArgs (topS 13), C8.fnBody (topS 13), C8.fnScope (topS 13)⟩
def f_are_three_gaps : Fn := ⟨["number", "a", "b"], 3, [.ife (.bop false [.bnot (.call "is_whole" [.var 1]), .bnot (.call "is_whole" [.var 2]), .cmp .lt (.var 1) (.lit (.int 1)), .cmp .lt (.var 2) (.lit (.int 1)), .cmp .ge (.bin .add (.var 1) (.var 2)) (.var 0)]) [.ret (.lit (.bl false))] [], .ret (.cmp .eq (.lenset [.var 1, .var 2, .bin .sub (.bin .sub (.var 0) (.var 1)) (.var 2)]) (.lit (.int 3)))]⟩
def d_are_three_gaps : DefT := ⟨"are_three_gaps", f_are_three_gaps, ["number", "a", "b"], C8.fnArgs (topS 20), C8.fnBody (topS 20), C8.fnScope (topS 20)⟩
def f_threes_by : Fn := ⟨["number", "a", "b"], 7, [.tset (.var 3) (.bin .sub (.bin .sub (.var 0) (.var 1)) (.var 2)), .tset (.var 4) (.lst [.tup [.var 1, .var 2, .var 3], .tup [.var 2, .var 1, .var 3]]), .ret (.blt .sorted [.comp2 (.var 5) (.rng [.var 0]) [] (.var 6) (.it (.var 4)) [] (.call "chord_with_gaps" [.var 0, .var 5, .var 6]) [5, 6] [6]])]⟩
def d_threes_by : DefT := ⟨"threes_by", f_threes_by, ["number", "a", "b", "c", "rows", "tone", "some"], C8.fnArgs (topS 21), C8.fnBody (topS 21), C8.fnScope (topS 21)⟩
def f_is_three : Fn := ⟨["number", "a", "b", "value"], 4, [.ret (.bop true [.call "is_chorded" [.var 0, .var 3], .cmp .in_ (.var 3) (.call "threes_by" [.var 0, .var 1, .var 2])])]⟩
def d_is_three : DefT := ⟨"is_three", f_is_three, ["number", "a", "b", "value"], C8.fnArgs (topS 22), C8.fnBody (topS 22), C8.fnScope (topS 22)⟩
def f_is_flip_word : Fn := ⟨["value"], 1, [.ret (.bop true [.call "is_text_of" [.var 0, .gc "FLIPS"], .cmp .le (.blt .len [.var 0]) (.gc "MOST_FLIPS")])]⟩
def d_is_flip_word : DefT := ⟨"is_flip_word", f_is_flip_word, ["value"], C8.fnArgs (topS 23), C8.fnBody (topS 23), C8.fnScope (topS 23)⟩
def f_gap_told : Fn := ⟨["number", "a", "b", "sign"], 4, [.ret (.idx (.dic [.gc "FIRST", .var 1, .gc "SECOND", .var 2, .gc "THIRD", .bin .sub (.bin .sub (.var 0) (.var 1)) (.var 2)]) (.var 3))]⟩
def d_gap_told : DefT := ⟨"gap_told", f_gap_told, ["number", "a", "b", "sign"], C8.fnArgs (topS 24), C8.fnBody (topS 24), C8.fnScope (topS 24)⟩
def f_flipped_at : Fn := ⟨["number", "chord", "gap"], 7, [.tset (.var 3) (.mth .index (.call "gaps_by" [.var 0, .var 1]) [.var 2]), .par [4, 5, 6] [.idx (.var 1) (.var 3), .idx (.var 1) (.bin .mod (.bin .add (.var 3) (.lit (.int 1))) (.lit (.int 3))), .idx (.var 1) (.bin .mod (.bin .add (.var 3) (.lit (.int 2))) (.lit (.int 3)))], .ret (.blt .tuple [.blt .sorted [.lst [.var 4, .var 5, .bin .mod (.bin .sub (.bin .add (.var 4) (.var 5)) (.var 6)) (.var 0)]]])]⟩
def d_flipped_at : DefT := ⟨"flipped_at", f_flipped_at, ["number", "chord", "gap", "at", "here", "there", "third"], C8.fnArgs (topS 25), C8.fnBody (topS 25), C8.fnScope (topS 25)⟩
def f_led_by : Fn := ⟨["number", "a", "b", "chord", "word"], 7, [.set 5 (.var 3), .for_ (.var 6) (.it (.var 4)) [.set 5 (.call "flipped_at" [.var 0, .var 5, .call "gap_told" [.var 0, .var 1, .var 2, .var 6]])], .ret (.mv 5)]⟩
def d_led_by : DefT := ⟨"led_by", f_led_by, ["number", "a", "b", "chord", "word", "found", "sign"], C8.fnArgs (topS 26), C8.fnBody (topS 26), C8.fnScope (topS 26)⟩
def f_round_by_two : Fn := ⟨["ring", "a", "b", "signs"], 8, [.set 4 (.lst [.idx (.call "threes_by" [.var 0, .var 1, .var 2]) (.lit (.int 0))]), .tset (.var 5) (.comp (.var 6) (.it (.var 3)) [] (.call "gap_told" [.var 0, .var 1, .var 2, .var 6]) [6]), .tset (.var 7) (.call "flipped_at" [.var 0, .idxO 4 (.lit (.int 0)), .idx (.var 5) (.lit (.int 0))]), .while_ (.cmp .ne (.var 7) (.idxO 4 (.lit (.int 0)))) [.app 4 (.var 7), .tset (.var 7) (.call "flipped_at" [.var 0, .var 7, .idx (.var 5) (.bin .sub (.bin .mod (.lenO 4) (.lit (.int 2))) (.lit (.int 1)))])], .ret (.mv 4)]⟩
def d_round_by_two : DefT := ⟨"round_by_two", f_round_by_two, ["ring", "a", "b", "signs", "found", "gaps", "sign", "here"], C8.fnArgs (topS 29), C8.fnBody (topS 29), C8.fnScope (topS 29)⟩
def f_round_of_threes_by : Fn := ⟨["ring", "a", "b"], 5, [.for_ (.var 3) (.it (.gc "SIGN_PAIRS")) [.tset (.var 4) (.call "round_by_two" [.var 0, .var 1, .var 2, .var 3]), .ife (.cmp .eq (.blt .len [.var 4]) (.blt .len [.call "threes_by" [.var 0, .var 1, .var 2]])) [.ret (.blt .tuple [.var 4])] []], .ret (.lit (.non))]⟩
def d_round_of_threes_by : DefT := ⟨"round_of_threes_by", f_round_of_threes_by, ["ring", "a", "b", "signs", "found"], C8.fnArgs (topS 30), C8.fnBody (topS 30), C8.fnScope (topS 30)⟩
def f_check_ring : Fn := ⟨["number"], 1, [.ife (.bnot (.call "is_ring" [.var 0])) [.never] []]⟩
def d_check_ring : DefT := ⟨"check_ring", f_check_ring, ["number"], C8.fnArgs (topS 38), C8.fnBody (topS 38), C8.fnScope (topS 38)⟩
def f_check_threes : Fn := ⟨["number", "a", "b"], 3, [.expr (.call "check_ring" [.var 0]), .ife (.bnot (.call "are_three_gaps" [.var 0, .var 1, .var 2])) [.never] []]⟩
def d_check_threes : DefT := ⟨"check_threes", f_check_threes, ["number", "a", "b"], C8.fnArgs (topS 40), C8.fnBody (topS 40), C8.fnScope (topS 40)⟩
def f_check_three : Fn := ⟨["number", "a", "b", "chord"], 4, [.ife (.bnot (.call "is_three" [.var 0, .var 1, .var 2, .var 3])) [.never] []]⟩
def d_check_three : DefT := ⟨"check_three", f_check_three, ["number", "a", "b", "chord"], C8.fnArgs (topS 41), C8.fnBody (topS 41), C8.fnScope (topS 41)⟩
def f_led : Fn := ⟨["number", "a", "b", "chord", "word"], 5, [.expr (.call "check_threes" [.var 0, .var 1, .var 2]), .expr (.call "check_three" [.var 0, .var 1, .var 2, .var 3]), .ife (.bnot (.call "is_flip_word" [.var 4])) [.never] [], .ret (.call "led_by" [.var 0, .var 1, .var 2, .var 3, .var 4])]⟩
def d_led : DefT := ⟨"led", f_led, ["number", "a", "b", "chord", "word"], C8.fnArgs (topS 42), C8.fnBody (topS 42), C8.fnScope (topS 42)⟩
def f_round_of_threes : Fn := ⟨["number", "a", "b"], 3, [.expr (.call "check_threes" [.var 0, .var 1, .var 2]), .ret (.call "round_of_threes_by" [.var 0, .var 1, .var 2])]⟩
def d_round_of_threes : DefT := ⟨"round_of_threes", f_round_of_threes, ["number", "a", "b"], C8.fnArgs (topS 44), C8.fnBody (topS 44), C8.fnScope (topS 44)⟩
def f__law_pot : Fn := ⟨["script", "turn"], 5, [.tset (.var 2) (.ife (.cmp .lt (.var 1) (.blt .len [.var 0])) (.blt .int [.idx (.var 0) (.var 1)]) (.bin .add (.bin .add (.bin .mul (.lit (.int 7907)) (.var 1)) (.lit (.int 37))) (.bin .mod (.blt .int [.blt .sum [.slc (.var 0) (.omit) (.lit (.int 3))]]) (.lit (.int 1000033))))), .tset (.var 3) (.bin .add (.lit (.int 1001221)) (.bin .mul (.lit (.int 8789)) (.var 1))), .for_ (.var 4) (.it (.bin .add (.slc (.var 0) (.omit) (.lit (.int 7))) (.lst [.var 2]))) [.tset (.var 3) (.bin .mod (.blt .int [.bin .add (.bin .add (.bin .mul (.var 3) (.lit (.int 69621))) (.bin .mod (.blt .int [.var 4]) (.lit (.int 2147483563)))) (.lit (.int 23))]) (.lit (.int 2147483563)))], .ret (.newH [.ife (.bop false [.cmp .lt (.var 2) (.lit (.int 0)), .cmp .ge (.var 2) (.bin .pow (.lit (.int 10)) (.lit (.int 18)))]) (.bin .mod (.blt .int [.blt .abs [.var 2]]) (.bin .pow (.lit (.int 10)) (.lit (.int 64)))) (.lit (.int 0)), .var 3, .lit (.int 0)])]⟩
def d__law_pot : DefT := ⟨"_law_pot", f__law_pot, ["script", "turn", "cell", "stirred", "each"], C8.fnArgs (topS 46), C8.fnBody (topS 46), C8.fnScope (topS 46)⟩
def f__law_draw : Fn := ⟨["pot", "many"], 3, [.ife (.cmp .gt (.idxO 0 (.lit (.int 0))) (.lit (.int 0))) [.tset (.tup [.idxO 0 (.lit (.int 0)), .var 2]) (.blt .divmod [.idxO 0 (.lit (.int 0)), .var 1]), .ret (.mv 2)] [], .tset (.idxO 0 (.lit (.int 2))) (.bin .add (.idxO 0 (.lit (.int 2))) (.lit (.int 1))), .tset (.idxO 0 (.lit (.int 1))) (.bin .mod (.blt .int [.bin .add (.bin .add (.bin .mul (.idxO 0 (.lit (.int 1))) (.bin .add (.bin .mod (.blt .int [.idxO 0 (.lit (.int 1))]) (.lit (.int 10007))) (.lit (.int 20011)))) (.bin .mul (.lit (.int 60013)) (.idxO 0 (.lit (.int 2))))) (.lit (.int 61))]) (.lit (.int 2147483563))), .ret (.bin .mod (.blt .int [.bin .fdiv (.idxO 0 (.lit (.int 1))) (.lit (.int 97))]) (.var 1))]⟩
def d__law_draw : DefT := ⟨"_law_draw", f__law_draw, ["pot", "many", "digit"], C8.fnArgs (topS 47), C8.fnBody (topS 47), C8.fnScope (topS 47)⟩
def f__law_pick : Fn := ⟨["pot", "some"], 2, [.ret (.idx (.var 1) (.call "_law_draw" [.var 0, .blt .len [.var 1]]))]⟩
def d__law_pick : DefT := ⟨"_law_pick", f__law_pick, ["pot", "some"], C8.fnArgs (topS 48), C8.fnBody (topS 48), C8.fnScope (topS 48)⟩
def f__law_same : Fn := ⟨["told", "due"], 3, [.ife (.bop false [.bop true [.isi .tuple (.var 1), .isi .tuple (.var 0)], .bop true [.isi .list (.var 1), .isi .list (.var 0)]]) [.ret (.bop true [.cmp .eq (.blt .len [.var 0]) (.blt .len [.var 1]), .blt .all [.comp (.var 2) (.rng [.blt .len [.var 1]]) [] (.call "_law_same" [.idx (.var 0) (.var 2), .idx (.var 1) (.var 2)]) [2]]])] [], .ife (.bop false [.isi .tuple (.var 1), .isi .list (.var 1), .cmp .ne (.isi .bool (.var 1)) (.isi .bool (.var 0))]) [.ret (.lit (.bl false))] [], .ife (.bop false [.cmp .ne (.isi .int (.var 1)) (.isi .int (.var 0)), .cmp .ne (.isi .str (.var 1)) (.isi .str (.var 0))]) [.ret (.lit (.bl false))] [], .ret (.ife (.cmp .is_ (.var 1) (.lit (.non))) (.cmp .is_ (.var 0) (.lit (.non))) (.cmp .eq (.var 0) (.var 1)))]⟩
def d__law_same : DefT := ⟨"_law_same", f__law_same, ["told", "due", "at"], C8.fnArgs (topS 49), C8.fnBody (topS 49), C8.fnScope (topS 49)⟩
def f__law_rests : Fn := ⟨["many", "tones"], 3, [.ret (.blt .tuple [.srtSet (.comp (.var 2) (.it (.var 1)) [] (.bin .mod (.blt .int [.var 2]) (.var 0)) [2])])]⟩
def d__law_rests : DefT := ⟨"_law_rests", f__law_rests, ["many", "tones", "tone"], C8.fnArgs (topS 50), C8.fnBody (topS 50), C8.fnScope (topS 50)⟩
def f__law_is_pair : Fn := ⟨["many", "a", "b"], 3, [.ret (.bop true [.cmp .gt (.var 1) (.lit (.int 0)), .cmp .gt (.var 2) (.lit (.int 0)), .cmp .lt (.bin .add (.var 1) (.var 2)) (.var 0), .cmp .eq (.lenSet (.lst [.var 1, .var 2, .bin .sub (.bin .sub (.var 0) (.var 1)) (.var 2)])) (.lit (.int 3))])]⟩
def d__law_is_pair : DefT := ⟨"_law_is_pair", f__law_is_pair, ["many", "a", "b"], C8.fnArgs (topS 51), C8.fnBody (topS 51), C8.fnScope (topS 51)⟩
def f__law_pairs : Fn := ⟨["many"], 4, [.set 1 (.lst []), .for_ (.var 2) (.rng [.lit (.int 1), .var 0]) [.set 1 (.bin .add (.var 1) (.comp (.var 3) (.rng [.lit (.int 1), .var 0]) [.call "_law_is_pair" [.var 0, .var 2, .var 3]] (.tup [.var 2, .var 3]) [3]))], .ret (.mv 1)]⟩
def d__law_pairs : DefT := ⟨"_law_pairs", f__law_pairs, ["many", "found", "a", "b"], C8.fnArgs (topS 52), C8.fnBody (topS 52), C8.fnScope (topS 52)⟩
def f__law_threes : Fn := ⟨["many", "a", "b"], 5, [.tset (.var 3) (.lst []), .for_ (.var 4) (.rng [.var 0]) [.tset (.var 3) (.bin .add (.var 3) (.lst [.call "_law_rests" [.var 0, .tup [.var 4, .bin .add (.var 4) (.var 1), .bin .add (.bin .add (.var 4) (.var 1)) (.var 2)]], .call "_law_rests" [.var 0, .tup [.var 4, .bin .add (.var 4) (.var 2), .bin .add (.bin .add (.var 4) (.var 1)) (.var 2)]]]))], .ret (.srtSet (.var 3))]⟩
def d__law_threes : DefT := ⟨"_law_threes", f__law_threes, ["many", "a", "b", "found", "tone"], C8.fnArgs (topS 53), C8.fnBody (topS 53), C8.fnScope (topS 53)⟩
def f__law_moved : Fn := ⟨["many", "chord", "motion"], 4, [.ret (.call "_law_rests" [.var 0, .comp (.var 3) (.it (.var 1)) [] (.bin .add (.bin .mul (.idx (.var 2) (.lit (.int 0))) (.var 3)) (.idx (.var 2) (.lit (.int 1)))) [3]])]⟩
def d__law_moved : DefT := ⟨"_law_moved", f__law_moved, ["many", "chord", "motion", "tone"], C8.fnArgs (topS 54), C8.fnBody (topS 54), C8.fnScope (topS 54)⟩
def f__law_flip : Fn := ⟨["many", "a", "b", "chord", "sign"], 10, [.tset (.var 5) (.idx (.dic [.lit (.str "a"), .var 1, .lit (.str "b"), .var 2, .lit (.str "c"), .bin .sub (.bin .sub (.var 0) (.var 1)) (.var 2)]) (.var 4)), .for_ (.var 6) (.rng [.lit (.int 3)]) [.par [7, 8, 9] [.idx (.var 3) (.var 6), .idx (.var 3) (.bin .sub (.var 6) (.lit (.int 2))), .idx (.var 3) (.bin .sub (.var 6) (.lit (.int 1)))], .ife (.cmp .eq (.bin .mod (.blt .int [.bin .sub (.var 8) (.var 7)]) (.var 0)) (.var 5)) [.ret (.call "_law_rests" [.var 0, .tup [.var 7, .var 8, .bin .sub (.bin .add (.var 7) (.var 8)) (.var 9)]])] []], .ret (.tup [])]⟩
def d__law_flip : DefT := ⟨"_law_flip", f__law_flip, ["many", "a", "b", "chord", "sign", "size", "at", "low", "high", "third"], C8.fnArgs (topS 55), C8.fnBody (topS 55), C8.fnScope (topS 55)⟩
def f__law_some : Fn := ⟨["pot"], 4, [.tset (.var 1) (.bin .add (.lit (.int 6)) (.call "_law_draw" [.var 0, .lit (.int 7)])), .tset (.tup [.var 2, .var 3]) (.call "_law_pick" [.var 0, .call "_law_pairs" [.var 1]]), .ret (.tup [.var 1, .var 2, .var 3, .call "_law_pick" [.var 0, .call "_law_threes" [.var 1, .var 2, .var 3]]])]⟩
def d__law_some : DefT := ⟨"_law_some", f__law_some, ["pot", "many", "a", "b"], C8.fnArgs (topS 58), C8.fnBody (topS 58), C8.fnScope (topS 58)⟩
def f__law_common : Fn := ⟨["one", "other", "third"], 4, [.ret (.idx (.comp (.var 3) (.rng [.lit (.int 1), .bin .add (.var 0) (.lit (.int 1))]) [.bop true [.cmp .eq (.bin .mod (.blt .int [.var 0]) (.var 3)) (.lit (.int 0)), .cmp .eq (.bin .mod (.blt .int [.var 1]) (.var 3)) (.lit (.int 0)), .cmp .eq (.bin .mod (.blt .int [.var 2]) (.var 3)) (.lit (.int 0))]] (.var 3) [3]) (.neg (.lit (.int 1))))]⟩
def d__law_common : DefT := ⟨"_law_common", f__law_common, ["one", "other", "third", "k"], C8.fnArgs (topS 60), C8.fnBody (topS 60), C8.fnScope (topS 60)⟩
def f__law_is_round : Fn := ⟨["many", "a", "b", "told"], 7, [.ife (.bop false [.bnot (.isi .tuple (.var 3)), .cmp .eq (.blt .list [.var 3]) (.lst []), .bnot (.blt .all [.comp (.var 4) (.it (.var 3)) [] (.isi .tuple (.var 4)) [4]])]) [.ret (.lit (.bl false))] [], .ife (.cmp .ne (.blt .sorted [.var 3]) (.call "_law_threes" [.var 0, .var 1, .var 2])) [.ret (.lit (.bl false))] [], .for_ (.var 5) (.rng [.blt .len [.var 3]]) [.ife (.cmp .nin (.idx (.var 3) (.var 5)) (.comp (.var 6) (.it (.lit (.str "abc"))) [] (.call "_law_flip" [.var 0, .var 1, .var 2, .idx (.var 3) (.bin .sub (.var 5) (.lit (.int 1))), .var 6]) [6])) [.ret (.lit (.bl false))] []], .ret (.lit (.bl true))]⟩
def d__law_is_round : DefT := ⟨"_law_is_round", f__law_is_round, ["many", "a", "b", "told", "chord", "at", "sign"], C8.fnArgs (topS 61), C8.fnBody (topS 61), C8.fnScope (topS 61)⟩
def f__law_is_right : Fn := ⟨["many", "a", "b"], 4, [.tset (.var 3) (.lst [.call "round_of_threes" [.var 0, .var 1, .var 2], .callK "round_of_threes" [2, 1, 0] [.var 2, .var 1, .var 0]]), .ife (.cmp .ne (.call "_law_common" [.var 0, .var 1, .var 2]) (.lit (.int 1))) [.ret (.call "_law_same" [.var 3, .lst [.lit (.non), .lit (.non)]])] [], .ret (.bop true [.call "_law_is_round" [.var 0, .var 1, .var 2, .idx (.var 3) (.lit (.int 0))], .call "_law_is_round" [.var 0, .var 1, .var 2, .idx (.var 3) (.lit (.int 1))]])]⟩
def d__law_is_right : DefT := ⟨"_law_is_right", f__law_is_right, ["many", "a", "b", "told"], C8.fnArgs (topS 62), C8.fnBody (topS 62), C8.fnScope (topS 62)⟩
def f__law_right : Fn := ⟨["pot"], 13, [.for_ (.var 1) (.rng [.lit (.int 5)]) [.tset (.tup [.var 2, .var 3, .var 4, .var 5]) (.call "_law_some" [.var 0]), .ife (.bop false [.bnot (.call "_law_is_right" [.var 2, .var 3, .var 4]), .bnot (.call "_law_is_right" [.var 2, .var 4, .var 3])]) [.ret (.lit (.bl false))] [], .tset (.var 6) (.call "round_of_threes" [.var 2, .var 3, .var 4]), .ife (.cmp .isn (.var 6) (.lit (.non))) [.par [7, 8] [.tup [.call "_law_pick" [.var 0, .tup [.lit (.int 1), .bin .sub (.var 2) (.lit (.int 1))]], .call "_law_draw" [.var 0, .var 2]], .call "_law_draw" [.var 0, .blt .len [.var 6]]], .tset (.var 9) (.blt .tuple [.comp (.var 10) (.it (.var 6)) [] (.call "_law_moved" [.var 2, .var 10, .var 7]) [10]]), .ife (.bop false [.bnot (.call "_law_is_round" [.var 2, .var 3, .var 4, .var 9]), .bnot (.call "_law_is_round" [.var 2, .var 3, .var 4, .bin .add (.slc (.var 6) (.var 8) (.omit)) (.slc (.var 6) (.omit) (.var 8))])]) [.ret (.lit (.bl false))] [], .tset (.var 11) (.comp (.var 12) (.it (.lit (.str "abc"))) [] (.call "led" [.var 2, .var 3, .var 4, .idx (.var 6) (.var 8), .var 12]) [12]), .ife (.bop false [.cmp .nin (.idx (.var 6) (.bin .sub (.var 8) (.lit (.int 1)))) (.var 11), .cmp .nin (.idx (.var 6) (.bin .mod (.blt .int [.bin .add (.var 8) (.lit (.int 1))]) (.blt .len [.var 6]))) (.var 11), .bnot (.call "_law_is_round" [.var 2, .var 3, .var 4, .rev (.var 6)])]) [.ret (.lit (.bl false))] []] []], .ret (.lit (.bl true))]⟩
def d__law_right : DefT := ⟨"_law_right", f__law_right, ["pot", "turn", "many", "a", "b", "chord", "told", "motion", "at", "later", "each", "near", "sign"], C8.fnArgs (topS 63), C8.fnBody (topS 63), C8.fnScope (topS 63)⟩
def f_law : Fn := ⟨["script"], 5, [.for_ (.var 1) (.rng [.lit (.int 6), .lit (.int 9)]) [.ife (.bnot (.blt .all [.comp (.tup [.var 2, .var 3]) (.it (.call "_law_pairs" [.var 1])) [] (.call "_law_is_right" [.var 1, .var 2, .var 3]) [2, 3]])) [.ret (.lit (.bl false))] []], .ife (.bop false [.bnot (.call "_law_is_right" [.lit (.int 12), .lit (.int 4), .lit (.int 3)]), .bnot (.call "_law_is_right" [.lit (.int 12), .lit (.int 4), .lit (.int 2)])]) [.ret (.lit (.bl false))] [], .ret (.blt .all [.comp (.var 4) (.rng [.blt .max [.lit (.int 2), .blt .min [.blt .len [.var 0], .lit (.int 3)]]]) [] (.call "_law_right" [.call "_law_pot" [.var 0, .var 4]]) [4]])]⟩
def d_law : DefT := ⟨"law", f_law, ["script", "many", "a", "b", "turn"], C8.fnArgs (topS 64), C8.fnBody (topS 64), C8.fnScope (topS 64)⟩
def defsL : List DefT := [d_is_whole, d_is_between, d_is_text_of, d_is_ascending, d_is_ring, d_is_tone, d_is_chorded, d_gaps_by, d_chord_with_gaps, d_are_three_gaps, d_threes_by, d_is_three, d_is_flip_word, d_gap_told, d_flipped_at, d_led_by, d_round_by_two, d_round_of_threes_by, d_check_ring, d_check_threes, d_check_three, d_led, d_round_of_threes, d__law_pot, d__law_draw, d__law_pick, d__law_same, d__law_rests, d__law_is_pair, d__law_pairs, d__law_threes, d__law_moved, d__law_flip, d__law_some, d__law_common, d__law_is_round, d__law_is_right, d__law_right, d_law]
def freeL : List Str := ["abs", "all", "bool", "divmod", "int", "isinstance", "len", "list", "max", "min", "range", "set", "sorted", "str", "sum", "tuple", "zip"]
def gbL : List (Str × String) := []
def kwL : List (Str × List Str × List Nat) := [("round_of_threes", ["b", "a", "number"], [2, 1, 0])]
def gcL : List (Str × D) := [("FEWEST", .int 3), ("FIRST", .str "a"), ("FLIPS", .str "abc"), ("MOST", .int 12), ("MOST_FLIPS", .int 30), ("SECOND", .str "b"), ("SIGN_PAIRS", .tup [.tup [.str "a", .str "b"], .tup [.str "a", .str "c"], .tup [.str "b", .str "c"]]), ("THIRD", .str "c")]

end Rv

set_option Elab.async false
set_option linter.all false
set_option maxRecDepth 100000
set_option maxHeartbeats 0
namespace Rv
open PySem
abbrev GG : Tab := tabOf defsL (gcs gcL) 60
def m_is_whole (Γ : Tab) (cf : CF) : RS := (xq_cons (xs_ret (xk_bop true (xb_cons true (xk_isi .int (xk_var 0)) (xb_one (xk_bnot (xk_isi .bool (xk_var 0))))))) xq_nil)
theorem m_is_whole_eq (Γ : Tab) (cf : CF) : evB Γ cf f_is_whole.body = m_is_whole Γ cf := (yq_cons (ys_ret (yk_bop (yb_cons (yk_isi yk_var) (yb_one (yk_bnot (yk_isi yk_var)))))) yq_nil)
def m_is_between (Γ : Tab) (cf : CF) : RS := (xq_cons (xs_ret (xk_bop true (xb_cons true (xk_call cf "is_whole" (xl_cons (xk_var 0) xl_nil)) (xb_one (xk_cmp2 .le .le (xk_var 1) (xk_var 0) (xk_var 2)))))) xq_nil)
theorem m_is_between_eq (Γ : Tab) (cf : CF) : evB Γ cf f_is_between.body = m_is_between Γ cf := (yq_cons (ys_ret (yk_bop (yb_cons (yk_call (yl_cons rfl yk_var yl_nil)) (yb_one (yk_cmp2 yk_var yk_var yk_var))))) yq_nil)
def m_is_text_of (Γ : Tab) (cf : CF) : RS := (xq_cons (xs_ret (xk_bop true (xb_cons true (xk_isi .str (xk_var 0)) (xb_one (xk_blt .all (xl_cons (xk_comp (xt_var 2) (xk_it (xk_var 0)) xi_nil (xk_cmp .in_ (xk_var 2) (xk_var 1)) [2]) xl_nil)))))) xq_nil)
theorem m_is_text_of_eq (Γ : Tab) (cf : CF) : evB Γ cf f_is_text_of.body = m_is_text_of Γ cf := (yq_cons (ys_ret (yk_bop (yb_cons (yk_isi yk_var) (yb_one (yk_blt (yl_cons rfl (yk_comp yt_var (yk_it yk_var) yi_nil (yk_cmp yk_var yk_var)) yl_nil)))))) yq_nil)
def m_is_ascending (Γ : Tab) (cf : CF) : RS := (xq_cons (xs_ret (xk_blt .all (xl_cons (xk_comp (xt_tup (xts_cons (xt_var 1) (xts_cons (xt_var 2) xts_nil))) (xk_zip (xk_var 0) (xk_slc (xk_var 0) (xk_lit (.int 1)) (xk_omit) false true)) xi_nil (xk_cmp .lt (xk_var 1) (xk_var 2)) [1, 2]) xl_nil))) xq_nil)
theorem m_is_ascending_eq (Γ : Tab) (cf : CF) : evB Γ cf f_is_ascending.body = m_is_ascending Γ cf := (yq_cons (ys_ret (yk_blt (yl_cons rfl (yk_comp (yt_tup (yts_cons yt_var (yts_cons yt_var yts_nil))) (yk_zip yk_var (yk_slc yk_var yk_lit yk_omit rfl rfl)) yi_nil (yk_cmp yk_var yk_var)) yl_nil))) yq_nil)
def m_is_ring (Γ : Tab) (cf : CF) : RS := (xq_cons (xs_ret (xk_call cf "is_between" (xl_cons (xk_var 0) (xl_cons (xk_gc Γ "FEWEST") (xl_cons (xk_gc Γ "MOST") xl_nil))))) xq_nil)
theorem m_is_ring_eq (Γ : Tab) (cf : CF) : evB Γ cf f_is_ring.body = m_is_ring Γ cf := (yq_cons (ys_ret (yk_call (yl_cons rfl yk_var (yl_cons rfl yk_gc (yl_cons rfl yk_gc yl_nil))))) yq_nil)
def m_is_tone (Γ : Tab) (cf : CF) : RS := (xq_cons (xs_ret (xk_call cf "is_between" (xl_cons (xk_var 1) (xl_cons (xk_lit (.int 0)) (xl_cons (xk_bin .sub (xk_var 0) (xk_lit (.int 1))) xl_nil))))) xq_nil)
theorem m_is_tone_eq (Γ : Tab) (cf : CF) : evB Γ cf f_is_tone.body = m_is_tone Γ cf := (yq_cons (ys_ret (yk_call (yl_cons rfl yk_var (yl_cons rfl yk_lit (yl_cons rfl (yk_bin yk_var yk_lit) yl_nil))))) yq_nil)
def m_is_chorded (Γ : Tab) (cf : CF) : RS := (xq_cons (xs_ret (xk_bop true (xb_cons true (xk_isi .tuple (xk_var 1)) (xb_cons true (xk_blt .all (xl_cons (xk_comp (xt_var 2) (xk_it (xk_var 1)) xi_nil (xk_call cf "is_tone" (xl_cons (xk_var 0) (xl_cons (xk_var 2) xl_nil))) [2]) xl_nil)) (xb_one (xk_call cf "is_ascending" (xl_cons (xk_var 1) xl_nil))))))) xq_nil)
theorem m_is_chorded_eq (Γ : Tab) (cf : CF) : evB Γ cf f_is_chorded.body = m_is_chorded Γ cf := (yq_cons (ys_ret (yk_bop (yb_cons (yk_isi yk_var) (yb_cons (yk_blt (yl_cons rfl (yk_comp yt_var (yk_it yk_var) yi_nil (yk_call (yl_cons rfl yk_var (yl_cons rfl yk_var yl_nil)))) yl_nil)) (yb_one (yk_call (yl_cons rfl yk_var yl_nil))))))) yq_nil)
def m_gaps_by (Γ : Tab) (cf : CF) : RS := (xq_cons (xs_tset (xt_var 2) (xk_lst (xl_star (xk_slc (xk_var 1) (xk_lit (.int 1)) (xk_omit) false true) (xl_cons (xk_bin .add (xk_idx (xk_var 1) (xk_lit (.int 0))) (xk_var 0)) xl_nil)))) (xq_cons (xs_ret (xk_comp (xt_tup (xts_cons (xt_var 3) (xts_cons (xt_var 4) xts_nil))) (xk_zip (xk_var 1) (xk_var 2)) xi_nil (xk_bin .sub (xk_var 4) (xk_var 3)) [3, 4])) xq_nil))
theorem m_gaps_by_eq (Γ : Tab) (cf : CF) : evB Γ cf f_gaps_by.body = m_gaps_by Γ cf := (yq_cons (ys_tset yt_var (yk_lst (yl_star (yk_slc yk_var yk_lit yk_omit rfl rfl) (yl_cons rfl (yk_bin (yk_idx yk_var yk_lit) yk_var) yl_nil)))) (yq_cons (ys_ret (yk_comp (yt_tup (yts_cons yt_var (yts_cons yt_var yts_nil))) (yk_zip yk_var yk_var) yi_nil (yk_bin yk_var yk_var))) yq_nil))
def m_chord_with_gaps (Γ : Tab) (cf : CF) : RS := (xq_cons (xs_par [3, 4] (xf_cons (xk_lst xl_nil) (xf_cons (xk_var 1) xf_nil))) (xq_cons (xs_for_ (xt_var 5) (xk_it (xk_var 2)) (xq_cons (xs_app 3 (xk_bin .mod (xk_var 4) (xk_var 0))) (xq_cons (xs_tset (xt_var 4) (xk_bin .add (xk_var 4) (xk_var 5))) xq_nil))) (xq_cons (xs_ret (xk_blt .tuple (xl_cons (xk_blt .sorted (xl_cons (xk_var 3) xl_nil)) xl_nil))) xq_nil)))
theorem m_chord_with_gaps_eq (Γ : Tab) (cf : CF) : evB Γ cf f_chord_with_gaps.body = m_chord_with_gaps Γ cf := (yq_cons (ys_par (yf_cons (yk_lst yl_nil) (yf_cons yk_var yf_nil))) (yq_cons (ys_for_ yt_var (yk_it yk_var) (yq_cons (ys_app (yk_bin yk_var yk_var)) (yq_cons (ys_tset yt_var (yk_bin yk_var yk_var)) yq_nil))) (yq_cons (ys_ret (yk_blt (yl_cons rfl (yk_blt (yl_cons rfl yk_var yl_nil)) yl_nil))) yq_nil)))
def m_are_three_gaps (Γ : Tab) (cf : CF) : RS := (xq_cons (xs_ife (xk_bop false (xb_cons false (xk_bnot (xk_call cf "is_whole" (xl_cons (xk_var 1) xl_nil))) (xb_cons false (xk_bnot (xk_call cf "is_whole" (xl_cons (xk_var 2) xl_nil))) (xb_cons false (xk_cmp .lt (xk_var 1) (xk_lit (.int 1))) (xb_cons false (xk_cmp .lt (xk_var 2) (xk_lit (.int 1))) (xb_one (xk_cmp .ge (xk_bin .add (xk_var 1) (xk_var 2)) (xk_var 0)))))))) (xq_cons (xs_ret (xk_lit (.bl false))) xq_nil) xq_nil) (xq_cons (xs_ret (xk_cmp .eq (xk_lenset (xl_cons (xk_var 1) (xl_cons (xk_var 2) (xl_cons (xk_bin .sub (xk_bin .sub (xk_var 0) (xk_var 1)) (xk_var 2)) xl_nil))) 3) (xk_lit (.int 3)))) xq_nil))
theorem m_are_three_gaps_eq (Γ : Tab) (cf : CF) : evB Γ cf f_are_three_gaps.body = m_are_three_gaps Γ cf := (yq_cons (ys_ife (yk_bop (yb_cons (yk_bnot (yk_call (yl_cons rfl yk_var yl_nil))) (yb_cons (yk_bnot (yk_call (yl_cons rfl yk_var yl_nil))) (yb_cons (yk_cmp yk_var yk_lit) (yb_cons (yk_cmp yk_var yk_lit) (yb_one (yk_cmp (yk_bin yk_var yk_var) yk_var))))))) (yq_cons (ys_ret yk_lit) yq_nil) yq_nil) (yq_cons (ys_ret (yk_cmp (yk_lenset (yl_cons rfl yk_var (yl_cons rfl yk_var (yl_cons rfl (yk_bin (yk_bin yk_var yk_var) yk_var) yl_nil))) rfl) yk_lit)) yq_nil))
def m_threes_by (Γ : Tab) (cf : CF) : RS := (xq_cons (xs_tset (xt_var 3) (xk_bin .sub (xk_bin .sub (xk_var 0) (xk_var 1)) (xk_var 2))) (xq_cons (xs_tset (xt_var 4) (xk_lst (xl_cons (xk_tup (xl_cons (xk_var 1) (xl_cons (xk_var 2) (xl_cons (xk_var 3) xl_nil)))) (xl_cons (xk_tup (xl_cons (xk_var 2) (xl_cons (xk_var 1) (xl_cons (xk_var 3) xl_nil)))) xl_nil)))) (xq_cons (xs_ret (xk_blt .sorted (xl_cons (xk_comp2 (xt_var 5) (xk_rng (xl_cons (xk_var 0) xl_nil)) xi_nil (xt_var 6) (xk_it (xk_var 4)) xi_nil (xk_call cf "chord_with_gaps" (xl_cons (xk_var 0) (xl_cons (xk_var 5) (xl_cons (xk_var 6) xl_nil)))) [5, 6] [6]) xl_nil))) xq_nil)))
theorem m_threes_by_eq (Γ : Tab) (cf : CF) : evB Γ cf f_threes_by.body = m_threes_by Γ cf := (yq_cons (ys_tset yt_var (yk_bin (yk_bin yk_var yk_var) yk_var)) (yq_cons (ys_tset yt_var (yk_lst (yl_cons rfl (yk_tup (yl_cons rfl yk_var (yl_cons rfl yk_var (yl_cons rfl yk_var yl_nil)))) (yl_cons rfl (yk_tup (yl_cons rfl yk_var (yl_cons rfl yk_var (yl_cons rfl yk_var yl_nil)))) yl_nil)))) (yq_cons (ys_ret (yk_blt (yl_cons rfl (yk_comp2 yt_var (yk_rng (yl_cons rfl yk_var yl_nil)) yi_nil yt_var (yk_it yk_var) yi_nil (yk_call (yl_cons rfl yk_var (yl_cons rfl yk_var (yl_cons rfl yk_var yl_nil))))) yl_nil))) yq_nil)))
def m_is_three (Γ : Tab) (cf : CF) : RS := (xq_cons (xs_ret (xk_bop true (xb_cons true (xk_call cf "is_chorded" (xl_cons (xk_var 0) (xl_cons (xk_var 3) xl_nil))) (xb_one (xk_cmp .in_ (xk_var 3) (xk_call cf "threes_by" (xl_cons (xk_var 0) (xl_cons (xk_var 1) (xl_cons (xk_var 2) xl_nil))))))))) xq_nil)
theorem m_is_three_eq (Γ : Tab) (cf : CF) : evB Γ cf f_is_three.body = m_is_three Γ cf := (yq_cons (ys_ret (yk_bop (yb_cons (yk_call (yl_cons rfl yk_var (yl_cons rfl yk_var yl_nil))) (yb_one (yk_cmp yk_var (yk_call (yl_cons rfl yk_var (yl_cons rfl yk_var (yl_cons rfl yk_var yl_nil))))))))) yq_nil)
def m_is_flip_word (Γ : Tab) (cf : CF) : RS := (xq_cons (xs_ret (xk_bop true (xb_cons true (xk_call cf "is_text_of" (xl_cons (xk_var 0) (xl_cons (xk_gc Γ "FLIPS") xl_nil))) (xb_one (xk_cmp .le (xk_blt .len (xl_cons (xk_var 0) xl_nil)) (xk_gc Γ "MOST_FLIPS")))))) xq_nil)
theorem m_is_flip_word_eq (Γ : Tab) (cf : CF) : evB Γ cf f_is_flip_word.body = m_is_flip_word Γ cf := (yq_cons (ys_ret (yk_bop (yb_cons (yk_call (yl_cons rfl yk_var (yl_cons rfl yk_gc yl_nil))) (yb_one (yk_cmp (yk_blt (yl_cons rfl yk_var yl_nil)) yk_gc))))) yq_nil)
def m_gap_told (Γ : Tab) (cf : CF) : RS := (xq_cons (xs_ret (xk_idx (xk_dic (xl_cons (xk_gc Γ "FIRST") (xl_cons (xk_var 1) (xl_cons (xk_gc Γ "SECOND") (xl_cons (xk_var 2) (xl_cons (xk_gc Γ "THIRD") (xl_cons (xk_bin .sub (xk_bin .sub (xk_var 0) (xk_var 1)) (xk_var 2)) xl_nil)))))) 6) (xk_var 3))) xq_nil)
theorem m_gap_told_eq (Γ : Tab) (cf : CF) : evB Γ cf f_gap_told.body = m_gap_told Γ cf := (yq_cons (ys_ret (yk_idx (yk_dic (yl_cons rfl yk_gc (yl_cons rfl yk_var (yl_cons rfl yk_gc (yl_cons rfl yk_var (yl_cons rfl yk_gc (yl_cons rfl (yk_bin (yk_bin yk_var yk_var) yk_var) yl_nil)))))) rfl) yk_var)) yq_nil)
def m_flipped_at (Γ : Tab) (cf : CF) : RS := (xq_cons (xs_tset (xt_var 3) (xk_mth .index (xk_call cf "gaps_by" (xl_cons (xk_var 0) (xl_cons (xk_var 1) xl_nil))) (xl_cons (xk_var 2) xl_nil))) (xq_cons (xs_par [4, 5, 6] (xf_cons (xk_idx (xk_var 1) (xk_var 3)) (xf_cons (xk_idx (xk_var 1) (xk_bin .mod (xk_bin .add (xk_var 3) (xk_lit (.int 1))) (xk_lit (.int 3)))) (xf_cons (xk_idx (xk_var 1) (xk_bin .mod (xk_bin .add (xk_var 3) (xk_lit (.int 2))) (xk_lit (.int 3)))) xf_nil)))) (xq_cons (xs_ret (xk_blt .tuple (xl_cons (xk_blt .sorted (xl_cons (xk_lst (xl_cons (xk_var 4) (xl_cons (xk_var 5) (xl_cons (xk_bin .mod (xk_bin .sub (xk_bin .add (xk_var 4) (xk_var 5)) (xk_var 6)) (xk_var 0)) xl_nil)))) xl_nil)) xl_nil))) xq_nil)))
theorem m_flipped_at_eq (Γ : Tab) (cf : CF) : evB Γ cf f_flipped_at.body = m_flipped_at Γ cf := (yq_cons (ys_tset yt_var (yk_mth (yk_call (yl_cons rfl yk_var (yl_cons rfl yk_var yl_nil))) (yl_cons rfl yk_var yl_nil))) (yq_cons (ys_par (yf_cons (yk_idx yk_var yk_var) (yf_cons (yk_idx yk_var (yk_bin (yk_bin yk_var yk_lit) yk_lit)) (yf_cons (yk_idx yk_var (yk_bin (yk_bin yk_var yk_lit) yk_lit)) yf_nil)))) (yq_cons (ys_ret (yk_blt (yl_cons rfl (yk_blt (yl_cons rfl (yk_lst (yl_cons rfl yk_var (yl_cons rfl yk_var (yl_cons rfl (yk_bin (yk_bin (yk_bin yk_var yk_var) yk_var) yk_var) yl_nil)))) yl_nil)) yl_nil))) yq_nil)))
def m_led_by (Γ : Tab) (cf : CF) : RS := (xq_cons (xs_set 5 (xk_var 3)) (xq_cons (xs_for_ (xt_var 6) (xk_it (xk_var 4)) (xq_cons (xs_set 5 (xk_call cf "flipped_at" (xl_cons (xk_var 0) (xl_cons (xk_var 5) (xl_cons (xk_call cf "gap_told" (xl_cons (xk_var 0) (xl_cons (xk_var 1) (xl_cons (xk_var 2) (xl_cons (xk_var 6) xl_nil))))) xl_nil))))) xq_nil)) (xq_cons (xs_ret (xk_mv 5)) xq_nil)))
theorem m_led_by_eq (Γ : Tab) (cf : CF) : evB Γ cf f_led_by.body = m_led_by Γ cf := (yq_cons (ys_set yk_var) (yq_cons (ys_for_ yt_var (yk_it yk_var) (yq_cons (ys_set (yk_call (yl_cons rfl yk_var (yl_cons rfl yk_var (yl_cons rfl (yk_call (yl_cons rfl yk_var (yl_cons rfl yk_var (yl_cons rfl yk_var (yl_cons rfl yk_var yl_nil))))) yl_nil))))) yq_nil)) (yq_cons (ys_ret yk_mv) yq_nil)))
def m_round_by_two (Γ : Tab) (cf : CF) : RS := (xq_cons (xs_set 4 (xk_lst (xl_cons (xk_idx (xk_call cf "threes_by" (xl_cons (xk_var 0) (xl_cons (xk_var 1) (xl_cons (xk_var 2) xl_nil)))) (xk_lit (.int 0))) xl_nil))) (xq_cons (xs_tset (xt_var 5) (xk_comp (xt_var 6) (xk_it (xk_var 3)) xi_nil (xk_call cf "gap_told" (xl_cons (xk_var 0) (xl_cons (xk_var 1) (xl_cons (xk_var 2) (xl_cons (xk_var 6) xl_nil))))) [6])) (xq_cons (xs_tset (xt_var 7) (xk_call cf "flipped_at" (xl_cons (xk_var 0) (xl_cons (xk_idxO 4 (xk_lit (.int 0))) (xl_cons (xk_idx (xk_var 5) (xk_lit (.int 0))) xl_nil))))) (xq_cons (xs_while_ Γ (xk_cmp .ne (xk_var 7) (xk_idxO 4 (xk_lit (.int 0)))) (xq_cons (xs_app 4 (xk_var 7)) (xq_cons (xs_tset (xt_var 7) (xk_call cf "flipped_at" (xl_cons (xk_var 0) (xl_cons (xk_var 7) (xl_cons (xk_idx (xk_var 5) (xk_bin .sub (xk_bin .mod (xk_lenO 4) (xk_lit (.int 2))) (xk_lit (.int 1)))) xl_nil))))) xq_nil))) (xq_cons (xs_ret (xk_mv 4)) xq_nil)))))
theorem m_round_by_two_eq (Γ : Tab) (cf : CF) : evB Γ cf f_round_by_two.body = m_round_by_two Γ cf := (yq_cons (ys_set (yk_lst (yl_cons rfl (yk_idx (yk_call (yl_cons rfl yk_var (yl_cons rfl yk_var (yl_cons rfl yk_var yl_nil)))) yk_lit) yl_nil))) (yq_cons (ys_tset yt_var (yk_comp yt_var (yk_it yk_var) yi_nil (yk_call (yl_cons rfl yk_var (yl_cons rfl yk_var (yl_cons rfl yk_var (yl_cons rfl yk_var yl_nil))))))) (yq_cons (ys_tset yt_var (yk_call (yl_cons rfl yk_var (yl_cons rfl (yk_idxO yk_lit) (yl_cons rfl (yk_idx yk_var yk_lit) yl_nil))))) (yq_cons (ys_while_ (yk_cmp yk_var (yk_idxO yk_lit)) (yq_cons (ys_app yk_var) (yq_cons (ys_tset yt_var (yk_call (yl_cons rfl yk_var (yl_cons rfl yk_var (yl_cons rfl (yk_idx yk_var (yk_bin (yk_bin yk_lenO yk_lit) yk_lit)) yl_nil))))) yq_nil))) (yq_cons (ys_ret yk_mv) yq_nil)))))
def m_round_of_threes_by (Γ : Tab) (cf : CF) : RS := (xq_cons (xs_for_ (xt_var 3) (xk_it (xk_gc Γ "SIGN_PAIRS")) (xq_cons (xs_tset (xt_var 4) (xk_call cf "round_by_two" (xl_cons (xk_var 0) (xl_cons (xk_var 1) (xl_cons (xk_var 2) (xl_cons (xk_var 3) xl_nil)))))) (xq_cons (xs_ife (xk_cmp .eq (xk_blt .len (xl_cons (xk_var 4) xl_nil)) (xk_blt .len (xl_cons (xk_call cf "threes_by" (xl_cons (xk_var 0) (xl_cons (xk_var 1) (xl_cons (xk_var 2) xl_nil)))) xl_nil))) (xq_cons (xs_ret (xk_blt .tuple (xl_cons (xk_var 4) xl_nil))) xq_nil) xq_nil) xq_nil))) (xq_cons (xs_ret (xk_lit .non)) xq_nil))
theorem m_round_of_threes_by_eq (Γ : Tab) (cf : CF) : evB Γ cf f_round_of_threes_by.body = m_round_of_threes_by Γ cf := (yq_cons (ys_for_ yt_var (yk_it yk_gc) (yq_cons (ys_tset yt_var (yk_call (yl_cons rfl yk_var (yl_cons rfl yk_var (yl_cons rfl yk_var (yl_cons rfl yk_var yl_nil)))))) (yq_cons (ys_ife (yk_cmp (yk_blt (yl_cons rfl yk_var yl_nil)) (yk_blt (yl_cons rfl (yk_call (yl_cons rfl yk_var (yl_cons rfl yk_var (yl_cons rfl yk_var yl_nil)))) yl_nil))) (yq_cons (ys_ret (yk_blt (yl_cons rfl yk_var yl_nil))) yq_nil) yq_nil) yq_nil))) (yq_cons (ys_ret yk_lit) yq_nil))
def m_check_ring (Γ : Tab) (cf : CF) : RS := (xq_cons (xs_ife (xk_bnot (xk_call cf "is_ring" (xl_cons (xk_var 0) xl_nil))) (xq_cons xs_never xq_nil) xq_nil) xq_nil)
theorem m_check_ring_eq (Γ : Tab) (cf : CF) : evB Γ cf f_check_ring.body = m_check_ring Γ cf := (yq_cons (ys_ife (yk_bnot (yk_call (yl_cons rfl yk_var yl_nil))) (yq_cons ys_never yq_nil) yq_nil) yq_nil)
def m_check_threes (Γ : Tab) (cf : CF) : RS := (xq_cons (xs_expr (xk_call cf "check_ring" (xl_cons (xk_var 0) xl_nil))) (xq_cons (xs_ife (xk_bnot (xk_call cf "are_three_gaps" (xl_cons (xk_var 0) (xl_cons (xk_var 1) (xl_cons (xk_var 2) xl_nil))))) (xq_cons xs_never xq_nil) xq_nil) xq_nil))
theorem m_check_threes_eq (Γ : Tab) (cf : CF) : evB Γ cf f_check_threes.body = m_check_threes Γ cf := (yq_cons (ys_expr (yk_call (yl_cons rfl yk_var yl_nil))) (yq_cons (ys_ife (yk_bnot (yk_call (yl_cons rfl yk_var (yl_cons rfl yk_var (yl_cons rfl yk_var yl_nil))))) (yq_cons ys_never yq_nil) yq_nil) yq_nil))
def m_check_three (Γ : Tab) (cf : CF) : RS := (xq_cons (xs_ife (xk_bnot (xk_call cf "is_three" (xl_cons (xk_var 0) (xl_cons (xk_var 1) (xl_cons (xk_var 2) (xl_cons (xk_var 3) xl_nil)))))) (xq_cons xs_never xq_nil) xq_nil) xq_nil)
theorem m_check_three_eq (Γ : Tab) (cf : CF) : evB Γ cf f_check_three.body = m_check_three Γ cf := (yq_cons (ys_ife (yk_bnot (yk_call (yl_cons rfl yk_var (yl_cons rfl yk_var (yl_cons rfl yk_var (yl_cons rfl yk_var yl_nil)))))) (yq_cons ys_never yq_nil) yq_nil) yq_nil)
def m_led (Γ : Tab) (cf : CF) : RS := (xq_cons (xs_expr (xk_call cf "check_threes" (xl_cons (xk_var 0) (xl_cons (xk_var 1) (xl_cons (xk_var 2) xl_nil))))) (xq_cons (xs_expr (xk_call cf "check_three" (xl_cons (xk_var 0) (xl_cons (xk_var 1) (xl_cons (xk_var 2) (xl_cons (xk_var 3) xl_nil)))))) (xq_cons (xs_ife (xk_bnot (xk_call cf "is_flip_word" (xl_cons (xk_var 4) xl_nil))) (xq_cons xs_never xq_nil) xq_nil) (xq_cons (xs_ret (xk_call cf "led_by" (xl_cons (xk_var 0) (xl_cons (xk_var 1) (xl_cons (xk_var 2) (xl_cons (xk_var 3) (xl_cons (xk_var 4) xl_nil))))))) xq_nil))))
theorem m_led_eq (Γ : Tab) (cf : CF) : evB Γ cf f_led.body = m_led Γ cf := (yq_cons (ys_expr (yk_call (yl_cons rfl yk_var (yl_cons rfl yk_var (yl_cons rfl yk_var yl_nil))))) (yq_cons (ys_expr (yk_call (yl_cons rfl yk_var (yl_cons rfl yk_var (yl_cons rfl yk_var (yl_cons rfl yk_var yl_nil)))))) (yq_cons (ys_ife (yk_bnot (yk_call (yl_cons rfl yk_var yl_nil))) (yq_cons ys_never yq_nil) yq_nil) (yq_cons (ys_ret (yk_call (yl_cons rfl yk_var (yl_cons rfl yk_var (yl_cons rfl yk_var (yl_cons rfl yk_var (yl_cons rfl yk_var yl_nil))))))) yq_nil))))
def m_round_of_threes (Γ : Tab) (cf : CF) : RS := (xq_cons (xs_expr (xk_call cf "check_threes" (xl_cons (xk_var 0) (xl_cons (xk_var 1) (xl_cons (xk_var 2) xl_nil))))) (xq_cons (xs_ret (xk_call cf "round_of_threes_by" (xl_cons (xk_var 0) (xl_cons (xk_var 1) (xl_cons (xk_var 2) xl_nil))))) xq_nil))
theorem m_round_of_threes_eq (Γ : Tab) (cf : CF) : evB Γ cf f_round_of_threes.body = m_round_of_threes Γ cf := (yq_cons (ys_expr (yk_call (yl_cons rfl yk_var (yl_cons rfl yk_var (yl_cons rfl yk_var yl_nil))))) (yq_cons (ys_ret (yk_call (yl_cons rfl yk_var (yl_cons rfl yk_var (yl_cons rfl yk_var yl_nil))))) yq_nil))
def m__law_pot (Γ : Tab) (cf : CF) : RS := (xq_cons (xs_tset (xt_var 2) (xk_ife (xk_cmp .lt (xk_var 1) (xk_blt .len (xl_cons (xk_var 0) xl_nil))) (xk_blt .int (xl_cons (xk_idx (xk_var 0) (xk_var 1)) xl_nil)) (xk_bin .add (xk_bin .add (xk_bin .mul (xk_lit (.int 7907)) (xk_var 1)) (xk_lit (.int 37))) (xk_bin .mod (xk_blt .int (xl_cons (xk_blt .sum (xl_cons (xk_slc (xk_var 0) (xk_omit) (xk_lit (.int 3)) true false) xl_nil)) xl_nil)) (xk_lit (.int 1000033)))))) (xq_cons (xs_tset (xt_var 3) (xk_bin .add (xk_lit (.int 1001221)) (xk_bin .mul (xk_lit (.int 8789)) (xk_var 1)))) (xq_cons (xs_for_ (xt_var 4) (xk_it (xk_bin .add (xk_slc (xk_var 0) (xk_omit) (xk_lit (.int 7)) true false) (xk_lst (xl_cons (xk_var 2) xl_nil)))) (xq_cons (xs_tset (xt_var 3) (xk_bin .mod (xk_blt .int (xl_cons (xk_bin .add (xk_bin .add (xk_bin .mul (xk_var 3) (xk_lit (.int 69621))) (xk_bin .mod (xk_blt .int (xl_cons (xk_var 4) xl_nil)) (xk_lit (.int 2147483563)))) (xk_lit (.int 23))) xl_nil)) (xk_lit (.int 2147483563)))) xq_nil)) (xq_cons (xs_ret (xk_newH (xl_cons (xk_ife (xk_bop false (xb_cons false (xk_cmp .lt (xk_var 2) (xk_lit (.int 0))) (xb_one (xk_cmp .ge (xk_var 2) (xk_bin .pow (xk_lit (.int 10)) (xk_lit (.int 18))))))) (xk_bin .mod (xk_blt .int (xl_cons (xk_blt .abs (xl_cons (xk_var 2) xl_nil)) xl_nil)) (xk_bin .pow (xk_lit (.int 10)) (xk_lit (.int 64)))) (xk_lit (.int 0))) (xl_cons (xk_var 3) (xl_cons (xk_lit (.int 0)) xl_nil))))) xq_nil))))
theorem m__law_pot_eq (Γ : Tab) (cf : CF) : evB Γ cf f__law_pot.body = m__law_pot Γ cf := (yq_cons (ys_tset yt_var (yk_ife (yk_cmp yk_var (yk_blt (yl_cons rfl yk_var yl_nil))) (yk_blt (yl_cons rfl (yk_idx yk_var yk_var) yl_nil)) (yk_bin (yk_bin (yk_bin yk_lit yk_var) yk_lit) (yk_bin (yk_blt (yl_cons rfl (yk_blt (yl_cons rfl (yk_slc yk_var yk_omit yk_lit rfl rfl) yl_nil)) yl_nil)) yk_lit)))) (yq_cons (ys_tset yt_var (yk_bin yk_lit (yk_bin yk_lit yk_var))) (yq_cons (ys_for_ yt_var (yk_it (yk_bin (yk_slc yk_var yk_omit yk_lit rfl rfl) (yk_lst (yl_cons rfl yk_var yl_nil)))) (yq_cons (ys_tset yt_var (yk_bin (yk_blt (yl_cons rfl (yk_bin (yk_bin (yk_bin yk_var yk_lit) (yk_bin (yk_blt (yl_cons rfl yk_var yl_nil)) yk_lit)) yk_lit) yl_nil)) yk_lit)) yq_nil)) (yq_cons (ys_ret (yk_newH (yl_cons rfl (yk_ife (yk_bop (yb_cons (yk_cmp yk_var yk_lit) (yb_one (yk_cmp yk_var (yk_bin yk_lit yk_lit))))) (yk_bin (yk_blt (yl_cons rfl (yk_blt (yl_cons rfl yk_var yl_nil)) yl_nil)) (yk_bin yk_lit yk_lit)) yk_lit) (yl_cons rfl yk_var (yl_cons rfl yk_lit yl_nil))))) yq_nil))))
def m__law_draw (Γ : Tab) (cf : CF) : RS := (xq_cons (xs_ife (xk_cmp .gt (xk_idxO 0 (xk_lit (.int 0))) (xk_lit (.int 0))) (xq_cons (xs_tset (xt_tup (xts_cons (xt_idxO 0 (xk_lit (.int 0))) (xts_cons (xt_var 2) xts_nil))) (xk_blt .divmod (xl_cons (xk_idxO 0 (xk_lit (.int 0))) (xl_cons (xk_var 1) xl_nil)))) (xq_cons (xs_ret (xk_mv 2)) xq_nil)) xq_nil) (xq_cons (xs_tset (xt_idxO 0 (xk_lit (.int 2))) (xk_bin .add (xk_idxO 0 (xk_lit (.int 2))) (xk_lit (.int 1)))) (xq_cons (xs_tset (xt_idxO 0 (xk_lit (.int 1))) (xk_bin .mod (xk_blt .int (xl_cons (xk_bin .add (xk_bin .add (xk_bin .mul (xk_idxO 0 (xk_lit (.int 1))) (xk_bin .add (xk_bin .mod (xk_blt .int (xl_cons (xk_idxO 0 (xk_lit (.int 1))) xl_nil)) (xk_lit (.int 10007))) (xk_lit (.int 20011)))) (xk_bin .mul (xk_lit (.int 60013)) (xk_idxO 0 (xk_lit (.int 2))))) (xk_lit (.int 61))) xl_nil)) (xk_lit (.int 2147483563)))) (xq_cons (xs_ret (xk_bin .mod (xk_blt .int (xl_cons (xk_bin .fdiv (xk_idxO 0 (xk_lit (.int 1))) (xk_lit (.int 97))) xl_nil)) (xk_var 1))) xq_nil))))
theorem m__law_draw_eq (Γ : Tab) (cf : CF) : evB Γ cf f__law_draw.body = m__law_draw Γ cf := (yq_cons (ys_ife (yk_cmp (yk_idxO yk_lit) yk_lit) (yq_cons (ys_tset (yt_tup (yts_cons (yt_idxO yk_lit) (yts_cons yt_var yts_nil))) (yk_blt (yl_cons rfl (yk_idxO yk_lit) (yl_cons rfl yk_var yl_nil)))) (yq_cons (ys_ret yk_mv) yq_nil)) yq_nil) (yq_cons (ys_tset (yt_idxO yk_lit) (yk_bin (yk_idxO yk_lit) yk_lit)) (yq_cons (ys_tset (yt_idxO yk_lit) (yk_bin (yk_blt (yl_cons rfl (yk_bin (yk_bin (yk_bin (yk_idxO yk_lit) (yk_bin (yk_bin (yk_blt (yl_cons rfl (yk_idxO yk_lit) yl_nil)) yk_lit) yk_lit)) (yk_bin yk_lit (yk_idxO yk_lit))) yk_lit) yl_nil)) yk_lit)) (yq_cons (ys_ret (yk_bin (yk_blt (yl_cons rfl (yk_bin (yk_idxO yk_lit) yk_lit) yl_nil)) yk_var)) yq_nil))))
def m__law_pick (Γ : Tab) (cf : CF) : RS := (xq_cons (xs_ret (xk_idx (xk_var 1) (xk_call cf "_law_draw" (xl_cons (xk_var 0) (xl_cons (xk_blt .len (xl_cons (xk_var 1) xl_nil)) xl_nil))))) xq_nil)
theorem m__law_pick_eq (Γ : Tab) (cf : CF) : evB Γ cf f__law_pick.body = m__law_pick Γ cf := (yq_cons (ys_ret (yk_idx yk_var (yk_call (yl_cons rfl yk_var (yl_cons rfl (yk_blt (yl_cons rfl yk_var yl_nil)) yl_nil))))) yq_nil)
def m__law_same (Γ : Tab) (cf : CF) : RS := (xq_cons (xs_ife (xk_bop false (xb_cons false (xk_bop true (xb_cons true (xk_isi .tuple (xk_var 1)) (xb_one (xk_isi .tuple (xk_var 0))))) (xb_one (xk_bop true (xb_cons true (xk_isi .list (xk_var 1)) (xb_one (xk_isi .list (xk_var 0)))))))) (xq_cons (xs_ret (xk_bop true (xb_cons true (xk_cmp .eq (xk_blt .len (xl_cons (xk_var 0) xl_nil)) (xk_blt .len (xl_cons (xk_var 1) xl_nil))) (xb_one (xk_blt .all (xl_cons (xk_comp (xt_var 2) (xk_rng (xl_cons (xk_blt .len (xl_cons (xk_var 1) xl_nil)) xl_nil)) xi_nil (xk_call cf "_law_same" (xl_cons (xk_idx (xk_var 0) (xk_var 2)) (xl_cons (xk_idx (xk_var 1) (xk_var 2)) xl_nil))) [2]) xl_nil)))))) xq_nil) xq_nil) (xq_cons (xs_ife (xk_bop false (xb_cons false (xk_isi .tuple (xk_var 1)) (xb_cons false (xk_isi .list (xk_var 1)) (xb_one (xk_cmp .ne (xk_isi .bool (xk_var 1)) (xk_isi .bool (xk_var 0))))))) (xq_cons (xs_ret (xk_lit (.bl false))) xq_nil) xq_nil) (xq_cons (xs_ife (xk_bop false (xb_cons false (xk_cmp .ne (xk_isi .int (xk_var 1)) (xk_isi .int (xk_var 0))) (xb_one (xk_cmp .ne (xk_isi .str (xk_var 1)) (xk_isi .str (xk_var 0)))))) (xq_cons (xs_ret (xk_lit (.bl false))) xq_nil) xq_nil) (xq_cons (xs_ret (xk_ife (xk_cmp .is_ (xk_var 1) (xk_lit .non)) (xk_cmp .is_ (xk_var 0) (xk_lit .non)) (xk_cmp .eq (xk_var 0) (xk_var 1)))) xq_nil))))
theorem m__law_same_eq (Γ : Tab) (cf : CF) : evB Γ cf f__law_same.body = m__law_same Γ cf := (yq_cons (ys_ife (yk_bop (yb_cons (yk_bop (yb_cons (yk_isi yk_var) (yb_one (yk_isi yk_var)))) (yb_one (yk_bop (yb_cons (yk_isi yk_var) (yb_one (yk_isi yk_var))))))) (yq_cons (ys_ret (yk_bop (yb_cons (yk_cmp (yk_blt (yl_cons rfl yk_var yl_nil)) (yk_blt (yl_cons rfl yk_var yl_nil))) (yb_one (yk_blt (yl_cons rfl (yk_comp yt_var (yk_rng (yl_cons rfl (yk_blt (yl_cons rfl yk_var yl_nil)) yl_nil)) yi_nil (yk_call (yl_cons rfl (yk_idx yk_var yk_var) (yl_cons rfl (yk_idx yk_var yk_var) yl_nil)))) yl_nil)))))) yq_nil) yq_nil) (yq_cons (ys_ife (yk_bop (yb_cons (yk_isi yk_var) (yb_cons (yk_isi yk_var) (yb_one (yk_cmp (yk_isi yk_var) (yk_isi yk_var)))))) (yq_cons (ys_ret yk_lit) yq_nil) yq_nil) (yq_cons (ys_ife (yk_bop (yb_cons (yk_cmp (yk_isi yk_var) (yk_isi yk_var)) (yb_one (yk_cmp (yk_isi yk_var) (yk_isi yk_var))))) (yq_cons (ys_ret yk_lit) yq_nil) yq_nil) (yq_cons (ys_ret (yk_ife (yk_cmp yk_var yk_lit) (yk_cmp yk_var yk_lit) (yk_cmp yk_var yk_var))) yq_nil))))
def m__law_rests (Γ : Tab) (cf : CF) : RS := (xq_cons (xs_ret (xk_blt .tuple (xl_cons (xk_srtSet (xk_comp (xt_var 2) (xk_it (xk_var 1)) xi_nil (xk_bin .mod (xk_blt .int (xl_cons (xk_var 2) xl_nil)) (xk_var 0)) [2])) xl_nil))) xq_nil)
theorem m__law_rests_eq (Γ : Tab) (cf : CF) : evB Γ cf f__law_rests.body = m__law_rests Γ cf := (yq_cons (ys_ret (yk_blt (yl_cons rfl (yk_srtSet (yk_comp yt_var (yk_it yk_var) yi_nil (yk_bin (yk_blt (yl_cons rfl yk_var yl_nil)) yk_var))) yl_nil))) yq_nil)
def m__law_is_pair (Γ : Tab) (cf : CF) : RS := (xq_cons (xs_ret (xk_bop true (xb_cons true (xk_cmp .gt (xk_var 1) (xk_lit (.int 0))) (xb_cons true (xk_cmp .gt (xk_var 2) (xk_lit (.int 0))) (xb_cons true (xk_cmp .lt (xk_bin .add (xk_var 1) (xk_var 2)) (xk_var 0)) (xb_one (xk_cmp .eq (xk_lenSet (xk_lst (xl_cons (xk_var 1) (xl_cons (xk_var 2) (xl_cons (xk_bin .sub (xk_bin .sub (xk_var 0) (xk_var 1)) (xk_var 2)) xl_nil))))) (xk_lit (.int 3))))))))) xq_nil)
theorem m__law_is_pair_eq (Γ : Tab) (cf : CF) : evB Γ cf f__law_is_pair.body = m__law_is_pair Γ cf := (yq_cons (ys_ret (yk_bop (yb_cons (yk_cmp yk_var yk_lit) (yb_cons (yk_cmp yk_var yk_lit) (yb_cons (yk_cmp (yk_bin yk_var yk_var) yk_var) (yb_one (yk_cmp (yk_lenSet (yk_lst (yl_cons rfl yk_var (yl_cons rfl yk_var (yl_cons rfl (yk_bin (yk_bin yk_var yk_var) yk_var) yl_nil))))) yk_lit))))))) yq_nil)
def m__law_pairs (Γ : Tab) (cf : CF) : RS := (xq_cons (xs_set 1 (xk_lst xl_nil)) (xq_cons (xs_for_ (xt_var 2) (xk_rng (xl_cons (xk_lit (.int 1)) (xl_cons (xk_var 0) xl_nil))) (xq_cons (xs_set 1 (xk_bin .add (xk_var 1) (xk_comp (xt_var 3) (xk_rng (xl_cons (xk_lit (.int 1)) (xl_cons (xk_var 0) xl_nil))) (xi_cons (xk_call cf "_law_is_pair" (xl_cons (xk_var 0) (xl_cons (xk_var 2) (xl_cons (xk_var 3) xl_nil)))) xi_nil) (xk_tup (xl_cons (xk_var 2) (xl_cons (xk_var 3) xl_nil))) [3]))) xq_nil)) (xq_cons (xs_ret (xk_mv 1)) xq_nil)))
theorem m__law_pairs_eq (Γ : Tab) (cf : CF) : evB Γ cf f__law_pairs.body = m__law_pairs Γ cf := (yq_cons (ys_set (yk_lst yl_nil)) (yq_cons (ys_for_ yt_var (yk_rng (yl_cons rfl yk_lit (yl_cons rfl yk_var yl_nil))) (yq_cons (ys_set (yk_bin yk_var (yk_comp yt_var (yk_rng (yl_cons rfl yk_lit (yl_cons rfl yk_var yl_nil))) (yi_cons (yk_call (yl_cons rfl yk_var (yl_cons rfl yk_var (yl_cons rfl yk_var yl_nil)))) yi_nil) (yk_tup (yl_cons rfl yk_var (yl_cons rfl yk_var yl_nil)))))) yq_nil)) (yq_cons (ys_ret yk_mv) yq_nil)))
def m__law_threes (Γ : Tab) (cf : CF) : RS := (xq_cons (xs_tset (xt_var 3) (xk_lst xl_nil)) (xq_cons (xs_for_ (xt_var 4) (xk_rng (xl_cons (xk_var 0) xl_nil)) (xq_cons (xs_tset (xt_var 3) (xk_bin .add (xk_var 3) (xk_lst (xl_cons (xk_call cf "_law_rests" (xl_cons (xk_var 0) (xl_cons (xk_tup (xl_cons (xk_var 4) (xl_cons (xk_bin .add (xk_var 4) (xk_var 1)) (xl_cons (xk_bin .add (xk_bin .add (xk_var 4) (xk_var 1)) (xk_var 2)) xl_nil)))) xl_nil))) (xl_cons (xk_call cf "_law_rests" (xl_cons (xk_var 0) (xl_cons (xk_tup (xl_cons (xk_var 4) (xl_cons (xk_bin .add (xk_var 4) (xk_var 2)) (xl_cons (xk_bin .add (xk_bin .add (xk_var 4) (xk_var 1)) (xk_var 2)) xl_nil)))) xl_nil))) xl_nil))))) xq_nil)) (xq_cons (xs_ret (xk_srtSet (xk_var 3))) xq_nil)))
theorem m__law_threes_eq (Γ : Tab) (cf : CF) : evB Γ cf f__law_threes.body = m__law_threes Γ cf := (yq_cons (ys_tset yt_var (yk_lst yl_nil)) (yq_cons (ys_for_ yt_var (yk_rng (yl_cons rfl yk_var yl_nil)) (yq_cons (ys_tset yt_var (yk_bin yk_var (yk_lst (yl_cons rfl (yk_call (yl_cons rfl yk_var (yl_cons rfl (yk_tup (yl_cons rfl yk_var (yl_cons rfl (yk_bin yk_var yk_var) (yl_cons rfl (yk_bin (yk_bin yk_var yk_var) yk_var) yl_nil)))) yl_nil))) (yl_cons rfl (yk_call (yl_cons rfl yk_var (yl_cons rfl (yk_tup (yl_cons rfl yk_var (yl_cons rfl (yk_bin yk_var yk_var) (yl_cons rfl (yk_bin (yk_bin yk_var yk_var) yk_var) yl_nil)))) yl_nil))) yl_nil))))) yq_nil)) (yq_cons (ys_ret (yk_srtSet yk_var)) yq_nil)))
def m__law_moved (Γ : Tab) (cf : CF) : RS := (xq_cons (xs_ret (xk_call cf "_law_rests" (xl_cons (xk_var 0) (xl_cons (xk_comp (xt_var 3) (xk_it (xk_var 1)) xi_nil (xk_bin .add (xk_bin .mul (xk_idx (xk_var 2) (xk_lit (.int 0))) (xk_var 3)) (xk_idx (xk_var 2) (xk_lit (.int 1)))) [3]) xl_nil)))) xq_nil)
theorem m__law_moved_eq (Γ : Tab) (cf : CF) : evB Γ cf f__law_moved.body = m__law_moved Γ cf := (yq_cons (ys_ret (yk_call (yl_cons rfl yk_var (yl_cons rfl (yk_comp yt_var (yk_it yk_var) yi_nil (yk_bin (yk_bin (yk_idx yk_var yk_lit) yk_var) (yk_idx yk_var yk_lit))) yl_nil)))) yq_nil)
def m__law_flip (Γ : Tab) (cf : CF) : RS := (xq_cons (xs_tset (xt_var 5) (xk_idx (xk_dic (xl_cons (xk_lit (.str "a")) (xl_cons (xk_var 1) (xl_cons (xk_lit (.str "b")) (xl_cons (xk_var 2) (xl_cons (xk_lit (.str "c")) (xl_cons (xk_bin .sub (xk_bin .sub (xk_var 0) (xk_var 1)) (xk_var 2)) xl_nil)))))) 6) (xk_var 4))) (xq_cons (xs_for_ (xt_var 6) (xk_rng (xl_cons (xk_lit (.int 3)) xl_nil)) (xq_cons (xs_par [7, 8, 9] (xf_cons (xk_idx (xk_var 3) (xk_var 6)) (xf_cons (xk_idx (xk_var 3) (xk_bin .sub (xk_var 6) (xk_lit (.int 2)))) (xf_cons (xk_idx (xk_var 3) (xk_bin .sub (xk_var 6) (xk_lit (.int 1)))) xf_nil)))) (xq_cons (xs_ife (xk_cmp .eq (xk_bin .mod (xk_blt .int (xl_cons (xk_bin .sub (xk_var 8) (xk_var 7)) xl_nil)) (xk_var 0)) (xk_var 5)) (xq_cons (xs_ret (xk_call cf "_law_rests" (xl_cons (xk_var 0) (xl_cons (xk_tup (xl_cons (xk_var 7) (xl_cons (xk_var 8) (xl_cons (xk_bin .sub (xk_bin .add (xk_var 7) (xk_var 8)) (xk_var 9)) xl_nil)))) xl_nil)))) xq_nil) xq_nil) xq_nil))) (xq_cons (xs_ret (xk_tup xl_nil)) xq_nil)))
theorem m__law_flip_eq (Γ : Tab) (cf : CF) : evB Γ cf f__law_flip.body = m__law_flip Γ cf := (yq_cons (ys_tset yt_var (yk_idx (yk_dic (yl_cons rfl yk_lit (yl_cons rfl yk_var (yl_cons rfl yk_lit (yl_cons rfl yk_var (yl_cons rfl yk_lit (yl_cons rfl (yk_bin (yk_bin yk_var yk_var) yk_var) yl_nil)))))) rfl) yk_var)) (yq_cons (ys_for_ yt_var (yk_rng (yl_cons rfl yk_lit yl_nil)) (yq_cons (ys_par (yf_cons (yk_idx yk_var yk_var) (yf_cons (yk_idx yk_var (yk_bin yk_var yk_lit)) (yf_cons (yk_idx yk_var (yk_bin yk_var yk_lit)) yf_nil)))) (yq_cons (ys_ife (yk_cmp (yk_bin (yk_blt (yl_cons rfl (yk_bin yk_var yk_var) yl_nil)) yk_var) yk_var) (yq_cons (ys_ret (yk_call (yl_cons rfl yk_var (yl_cons rfl (yk_tup (yl_cons rfl yk_var (yl_cons rfl yk_var (yl_cons rfl (yk_bin (yk_bin yk_var yk_var) yk_var) yl_nil)))) yl_nil)))) yq_nil) yq_nil) yq_nil))) (yq_cons (ys_ret (yk_tup yl_nil)) yq_nil)))
def m__law_some (Γ : Tab) (cf : CF) : RS := (xq_cons (xs_tset (xt_var 1) (xk_bin .add (xk_lit (.int 6)) (xk_call cf "_law_draw" (xl_cons (xk_var 0) (xl_cons (xk_lit (.int 7)) xl_nil))))) (xq_cons (xs_tset (xt_tup (xts_cons (xt_var 2) (xts_cons (xt_var 3) xts_nil))) (xk_call cf "_law_pick" (xl_cons (xk_var 0) (xl_cons (xk_call cf "_law_pairs" (xl_cons (xk_var 1) xl_nil)) xl_nil)))) (xq_cons (xs_ret (xk_tup (xl_cons (xk_var 1) (xl_cons (xk_var 2) (xl_cons (xk_var 3) (xl_cons (xk_call cf "_law_pick" (xl_cons (xk_var 0) (xl_cons (xk_call cf "_law_threes" (xl_cons (xk_var 1) (xl_cons (xk_var 2) (xl_cons (xk_var 3) xl_nil)))) xl_nil))) xl_nil)))))) xq_nil)))
theorem m__law_some_eq (Γ : Tab) (cf : CF) : evB Γ cf f__law_some.body = m__law_some Γ cf := (yq_cons (ys_tset yt_var (yk_bin yk_lit (yk_call (yl_cons rfl yk_var (yl_cons rfl yk_lit yl_nil))))) (yq_cons (ys_tset (yt_tup (yts_cons yt_var (yts_cons yt_var yts_nil))) (yk_call (yl_cons rfl yk_var (yl_cons rfl (yk_call (yl_cons rfl yk_var yl_nil)) yl_nil)))) (yq_cons (ys_ret (yk_tup (yl_cons rfl yk_var (yl_cons rfl yk_var (yl_cons rfl yk_var (yl_cons rfl (yk_call (yl_cons rfl yk_var (yl_cons rfl (yk_call (yl_cons rfl yk_var (yl_cons rfl yk_var (yl_cons rfl yk_var yl_nil)))) yl_nil))) yl_nil)))))) yq_nil)))
def m__law_common (Γ : Tab) (cf : CF) : RS := (xq_cons (xs_ret (xk_idx (xk_comp (xt_var 3) (xk_rng (xl_cons (xk_lit (.int 1)) (xl_cons (xk_bin .add (xk_var 0) (xk_lit (.int 1))) xl_nil))) (xi_cons (xk_bop true (xb_cons true (xk_cmp .eq (xk_bin .mod (xk_blt .int (xl_cons (xk_var 0) xl_nil)) (xk_var 3)) (xk_lit (.int 0))) (xb_cons true (xk_cmp .eq (xk_bin .mod (xk_blt .int (xl_cons (xk_var 1) xl_nil)) (xk_var 3)) (xk_lit (.int 0))) (xb_one (xk_cmp .eq (xk_bin .mod (xk_blt .int (xl_cons (xk_var 2) xl_nil)) (xk_var 3)) (xk_lit (.int 0))))))) xi_nil) (xk_var 3) [3]) (xk_neg (xk_lit (.int 1))))) xq_nil)
theorem m__law_common_eq (Γ : Tab) (cf : CF) : evB Γ cf f__law_common.body = m__law_common Γ cf := (yq_cons (ys_ret (yk_idx (yk_comp yt_var (yk_rng (yl_cons rfl yk_lit (yl_cons rfl (yk_bin yk_var yk_lit) yl_nil))) (yi_cons (yk_bop (yb_cons (yk_cmp (yk_bin (yk_blt (yl_cons rfl yk_var yl_nil)) yk_var) yk_lit) (yb_cons (yk_cmp (yk_bin (yk_blt (yl_cons rfl yk_var yl_nil)) yk_var) yk_lit) (yb_one (yk_cmp (yk_bin (yk_blt (yl_cons rfl yk_var yl_nil)) yk_var) yk_lit))))) yi_nil) yk_var) (yk_neg yk_lit))) yq_nil)
def m__law_is_round (Γ : Tab) (cf : CF) : RS := (xq_cons (xs_ife (xk_bop false (xb_cons false (xk_bnot (xk_isi .tuple (xk_var 3))) (xb_cons false (xk_cmp .eq (xk_blt .list (xl_cons (xk_var 3) xl_nil)) (xk_lst xl_nil)) (xb_one (xk_bnot (xk_blt .all (xl_cons (xk_comp (xt_var 4) (xk_it (xk_var 3)) xi_nil (xk_isi .tuple (xk_var 4)) [4]) xl_nil))))))) (xq_cons (xs_ret (xk_lit (.bl false))) xq_nil) xq_nil) (xq_cons (xs_ife (xk_cmp .ne (xk_blt .sorted (xl_cons (xk_var 3) xl_nil)) (xk_call cf "_law_threes" (xl_cons (xk_var 0) (xl_cons (xk_var 1) (xl_cons (xk_var 2) xl_nil))))) (xq_cons (xs_ret (xk_lit (.bl false))) xq_nil) xq_nil) (xq_cons (xs_for_ (xt_var 5) (xk_rng (xl_cons (xk_blt .len (xl_cons (xk_var 3) xl_nil)) xl_nil)) (xq_cons (xs_ife (xk_cmp .nin (xk_idx (xk_var 3) (xk_var 5)) (xk_comp (xt_var 6) (xk_it (xk_lit (.str "abc"))) xi_nil (xk_call cf "_law_flip" (xl_cons (xk_var 0) (xl_cons (xk_var 1) (xl_cons (xk_var 2) (xl_cons (xk_idx (xk_var 3) (xk_bin .sub (xk_var 5) (xk_lit (.int 1)))) (xl_cons (xk_var 6) xl_nil)))))) [6])) (xq_cons (xs_ret (xk_lit (.bl false))) xq_nil) xq_nil) xq_nil)) (xq_cons (xs_ret (xk_lit (.bl true))) xq_nil))))
theorem m__law_is_round_eq (Γ : Tab) (cf : CF) : evB Γ cf f__law_is_round.body = m__law_is_round Γ cf := (yq_cons (ys_ife (yk_bop (yb_cons (yk_bnot (yk_isi yk_var)) (yb_cons (yk_cmp (yk_blt (yl_cons rfl yk_var yl_nil)) (yk_lst yl_nil)) (yb_one (yk_bnot (yk_blt (yl_cons rfl (yk_comp yt_var (yk_it yk_var) yi_nil (yk_isi yk_var)) yl_nil))))))) (yq_cons (ys_ret yk_lit) yq_nil) yq_nil) (yq_cons (ys_ife (yk_cmp (yk_blt (yl_cons rfl yk_var yl_nil)) (yk_call (yl_cons rfl yk_var (yl_cons rfl yk_var (yl_cons rfl yk_var yl_nil))))) (yq_cons (ys_ret yk_lit) yq_nil) yq_nil) (yq_cons (ys_for_ yt_var (yk_rng (yl_cons rfl (yk_blt (yl_cons rfl yk_var yl_nil)) yl_nil)) (yq_cons (ys_ife (yk_cmp (yk_idx yk_var yk_var) (yk_comp yt_var (yk_it yk_lit) yi_nil (yk_call (yl_cons rfl yk_var (yl_cons rfl yk_var (yl_cons rfl yk_var (yl_cons rfl (yk_idx yk_var (yk_bin yk_var yk_lit)) (yl_cons rfl yk_var yl_nil)))))))) (yq_cons (ys_ret yk_lit) yq_nil) yq_nil) yq_nil)) (yq_cons (ys_ret yk_lit) yq_nil))))
def m__law_is_right (Γ : Tab) (cf : CF) : RS := (xq_cons (xs_tset (xt_var 3) (xk_lst (xl_cons (xk_call cf "round_of_threes" (xl_cons (xk_var 0) (xl_cons (xk_var 1) (xl_cons (xk_var 2) xl_nil)))) (xl_cons (xk_callK cf "round_of_threes" [2, 1, 0] (xl_cons (xk_var 2) (xl_cons (xk_var 1) (xl_cons (xk_var 0) xl_nil)))) xl_nil)))) (xq_cons (xs_ife (xk_cmp .ne (xk_call cf "_law_common" (xl_cons (xk_var 0) (xl_cons (xk_var 1) (xl_cons (xk_var 2) xl_nil)))) (xk_lit (.int 1))) (xq_cons (xs_ret (xk_call cf "_law_same" (xl_cons (xk_var 3) (xl_cons (xk_lst (xl_cons (xk_lit .non) (xl_cons (xk_lit .non) xl_nil))) xl_nil)))) xq_nil) xq_nil) (xq_cons (xs_ret (xk_bop true (xb_cons true (xk_call cf "_law_is_round" (xl_cons (xk_var 0) (xl_cons (xk_var 1) (xl_cons (xk_var 2) (xl_cons (xk_idx (xk_var 3) (xk_lit (.int 0))) xl_nil))))) (xb_one (xk_call cf "_law_is_round" (xl_cons (xk_var 0) (xl_cons (xk_var 1) (xl_cons (xk_var 2) (xl_cons (xk_idx (xk_var 3) (xk_lit (.int 1))) xl_nil))))))))) xq_nil)))
theorem m__law_is_right_eq (Γ : Tab) (cf : CF) : evB Γ cf f__law_is_right.body = m__law_is_right Γ cf := (yq_cons (ys_tset yt_var (yk_lst (yl_cons rfl (yk_call (yl_cons rfl yk_var (yl_cons rfl yk_var (yl_cons rfl yk_var yl_nil)))) (yl_cons rfl (yk_callK (yl_cons rfl yk_var (yl_cons rfl yk_var (yl_cons rfl yk_var yl_nil)))) yl_nil)))) (yq_cons (ys_ife (yk_cmp (yk_call (yl_cons rfl yk_var (yl_cons rfl yk_var (yl_cons rfl yk_var yl_nil)))) yk_lit) (yq_cons (ys_ret (yk_call (yl_cons rfl yk_var (yl_cons rfl (yk_lst (yl_cons rfl yk_lit (yl_cons rfl yk_lit yl_nil))) yl_nil)))) yq_nil) yq_nil) (yq_cons (ys_ret (yk_bop (yb_cons (yk_call (yl_cons rfl yk_var (yl_cons rfl yk_var (yl_cons rfl yk_var (yl_cons rfl (yk_idx yk_var yk_lit) yl_nil))))) (yb_one (yk_call (yl_cons rfl yk_var (yl_cons rfl yk_var (yl_cons rfl yk_var (yl_cons rfl (yk_idx yk_var yk_lit) yl_nil))))))))) yq_nil)))
def m__law_right (Γ : Tab) (cf : CF) : RS := (xq_cons (xs_for_ (xt_var 1) (xk_rng (xl_cons (xk_lit (.int 5)) xl_nil)) (xq_cons (xs_tset (xt_tup (xts_cons (xt_var 2) (xts_cons (xt_var 3) (xts_cons (xt_var 4) (xts_cons (xt_var 5) xts_nil))))) (xk_call cf "_law_some" (xl_cons (xk_var 0) xl_nil))) (xq_cons (xs_ife (xk_bop false (xb_cons false (xk_bnot (xk_call cf "_law_is_right" (xl_cons (xk_var 2) (xl_cons (xk_var 3) (xl_cons (xk_var 4) xl_nil))))) (xb_one (xk_bnot (xk_call cf "_law_is_right" (xl_cons (xk_var 2) (xl_cons (xk_var 4) (xl_cons (xk_var 3) xl_nil)))))))) (xq_cons (xs_ret (xk_lit (.bl false))) xq_nil) xq_nil) (xq_cons (xs_tset (xt_var 6) (xk_call cf "round_of_threes" (xl_cons (xk_var 2) (xl_cons (xk_var 3) (xl_cons (xk_var 4) xl_nil))))) (xq_cons (xs_ife (xk_cmp .isn (xk_var 6) (xk_lit .non)) (xq_cons (xs_par [7, 8] (xf_cons (xk_tup (xl_cons (xk_call cf "_law_pick" (xl_cons (xk_var 0) (xl_cons (xk_tup (xl_cons (xk_lit (.int 1)) (xl_cons (xk_bin .sub (xk_var 2) (xk_lit (.int 1))) xl_nil))) xl_nil))) (xl_cons (xk_call cf "_law_draw" (xl_cons (xk_var 0) (xl_cons (xk_var 2) xl_nil))) xl_nil))) (xf_cons (xk_call cf "_law_draw" (xl_cons (xk_var 0) (xl_cons (xk_blt .len (xl_cons (xk_var 6) xl_nil)) xl_nil))) xf_nil))) (xq_cons (xs_tset (xt_var 9) (xk_blt .tuple (xl_cons (xk_comp (xt_var 10) (xk_it (xk_var 6)) xi_nil (xk_call cf "_law_moved" (xl_cons (xk_var 2) (xl_cons (xk_var 10) (xl_cons (xk_var 7) xl_nil)))) [10]) xl_nil))) (xq_cons (xs_ife (xk_bop false (xb_cons false (xk_bnot (xk_call cf "_law_is_round" (xl_cons (xk_var 2) (xl_cons (xk_var 3) (xl_cons (xk_var 4) (xl_cons (xk_var 9) xl_nil)))))) (xb_one (xk_bnot (xk_call cf "_law_is_round" (xl_cons (xk_var 2) (xl_cons (xk_var 3) (xl_cons (xk_var 4) (xl_cons (xk_bin .add (xk_slc (xk_var 6) (xk_var 8) (xk_omit) false true) (xk_slc (xk_var 6) (xk_omit) (xk_var 8) true false)) xl_nil))))))))) (xq_cons (xs_ret (xk_lit (.bl false))) xq_nil) xq_nil) (xq_cons (xs_tset (xt_var 11) (xk_comp (xt_var 12) (xk_it (xk_lit (.str "abc"))) xi_nil (xk_call cf "led" (xl_cons (xk_var 2) (xl_cons (xk_var 3) (xl_cons (xk_var 4) (xl_cons (xk_idx (xk_var 6) (xk_var 8)) (xl_cons (xk_var 12) xl_nil)))))) [12])) (xq_cons (xs_ife (xk_bop false (xb_cons false (xk_cmp .nin (xk_idx (xk_var 6) (xk_bin .sub (xk_var 8) (xk_lit (.int 1)))) (xk_var 11)) (xb_cons false (xk_cmp .nin (xk_idx (xk_var 6) (xk_bin .mod (xk_blt .int (xl_cons (xk_bin .add (xk_var 8) (xk_lit (.int 1))) xl_nil)) (xk_blt .len (xl_cons (xk_var 6) xl_nil)))) (xk_var 11)) (xb_one (xk_bnot (xk_call cf "_law_is_round" (xl_cons (xk_var 2) (xl_cons (xk_var 3) (xl_cons (xk_var 4) (xl_cons (xk_rev (xk_var 6)) xl_nil)))))))))) (xq_cons (xs_ret (xk_lit (.bl false))) xq_nil) xq_nil) xq_nil))))) xq_nil) xq_nil))))) (xq_cons (xs_ret (xk_lit (.bl true))) xq_nil))
theorem m__law_right_eq (Γ : Tab) (cf : CF) : evB Γ cf f__law_right.body = m__law_right Γ cf := (yq_cons (ys_for_ yt_var (yk_rng (yl_cons rfl yk_lit yl_nil)) (yq_cons (ys_tset (yt_tup (yts_cons yt_var (yts_cons yt_var (yts_cons yt_var (yts_cons yt_var yts_nil))))) (yk_call (yl_cons rfl yk_var yl_nil))) (yq_cons (ys_ife (yk_bop (yb_cons (yk_bnot (yk_call (yl_cons rfl yk_var (yl_cons rfl yk_var (yl_cons rfl yk_var yl_nil))))) (yb_one (yk_bnot (yk_call (yl_cons rfl yk_var (yl_cons rfl yk_var (yl_cons rfl yk_var yl_nil)))))))) (yq_cons (ys_ret yk_lit) yq_nil) yq_nil) (yq_cons (ys_tset yt_var (yk_call (yl_cons rfl yk_var (yl_cons rfl yk_var (yl_cons rfl yk_var yl_nil))))) (yq_cons (ys_ife (yk_cmp yk_var yk_lit) (yq_cons (ys_par (yf_cons (yk_tup (yl_cons rfl (yk_call (yl_cons rfl yk_var (yl_cons rfl (yk_tup (yl_cons rfl yk_lit (yl_cons rfl (yk_bin yk_var yk_lit) yl_nil))) yl_nil))) (yl_cons rfl (yk_call (yl_cons rfl yk_var (yl_cons rfl yk_var yl_nil))) yl_nil))) (yf_cons (yk_call (yl_cons rfl yk_var (yl_cons rfl (yk_blt (yl_cons rfl yk_var yl_nil)) yl_nil))) yf_nil))) (yq_cons (ys_tset yt_var (yk_blt (yl_cons rfl (yk_comp yt_var (yk_it yk_var) yi_nil (yk_call (yl_cons rfl yk_var (yl_cons rfl yk_var (yl_cons rfl yk_var yl_nil))))) yl_nil))) (yq_cons (ys_ife (yk_bop (yb_cons (yk_bnot (yk_call (yl_cons rfl yk_var (yl_cons rfl yk_var (yl_cons rfl yk_var (yl_cons rfl yk_var yl_nil)))))) (yb_one (yk_bnot (yk_call (yl_cons rfl yk_var (yl_cons rfl yk_var (yl_cons rfl yk_var (yl_cons rfl (yk_bin (yk_slc yk_var yk_var yk_omit rfl rfl) (yk_slc yk_var yk_omit yk_var rfl rfl)) yl_nil))))))))) (yq_cons (ys_ret yk_lit) yq_nil) yq_nil) (yq_cons (ys_tset yt_var (yk_comp yt_var (yk_it yk_lit) yi_nil (yk_call (yl_cons rfl yk_var (yl_cons rfl yk_var (yl_cons rfl yk_var (yl_cons rfl (yk_idx yk_var yk_var) (yl_cons rfl yk_var yl_nil)))))))) (yq_cons (ys_ife (yk_bop (yb_cons (yk_cmp (yk_idx yk_var (yk_bin yk_var yk_lit)) yk_var) (yb_cons (yk_cmp (yk_idx yk_var (yk_bin (yk_blt (yl_cons rfl (yk_bin yk_var yk_lit) yl_nil)) (yk_blt (yl_cons rfl yk_var yl_nil)))) yk_var) (yb_one (yk_bnot (yk_call (yl_cons rfl yk_var (yl_cons rfl yk_var (yl_cons rfl yk_var (yl_cons rfl (yk_rev yk_var) yl_nil)))))))))) (yq_cons (ys_ret yk_lit) yq_nil) yq_nil) yq_nil))))) yq_nil) yq_nil))))) (yq_cons (ys_ret yk_lit) yq_nil))
def m_law (Γ : Tab) (cf : CF) : RS := (xq_cons (xs_for_ (xt_var 1) (xk_rng (xl_cons (xk_lit (.int 6)) (xl_cons (xk_lit (.int 9)) xl_nil))) (xq_cons (xs_ife (xk_bnot (xk_blt .all (xl_cons (xk_comp (xt_tup (xts_cons (xt_var 2) (xts_cons (xt_var 3) xts_nil))) (xk_it (xk_call cf "_law_pairs" (xl_cons (xk_var 1) xl_nil))) xi_nil (xk_call cf "_law_is_right" (xl_cons (xk_var 1) (xl_cons (xk_var 2) (xl_cons (xk_var 3) xl_nil)))) [2, 3]) xl_nil))) (xq_cons (xs_ret (xk_lit (.bl false))) xq_nil) xq_nil) xq_nil)) (xq_cons (xs_ife (xk_bop false (xb_cons false (xk_bnot (xk_call cf "_law_is_right" (xl_cons (xk_lit (.int 12)) (xl_cons (xk_lit (.int 4)) (xl_cons (xk_lit (.int 3)) xl_nil))))) (xb_one (xk_bnot (xk_call cf "_law_is_right" (xl_cons (xk_lit (.int 12)) (xl_cons (xk_lit (.int 4)) (xl_cons (xk_lit (.int 2)) xl_nil)))))))) (xq_cons (xs_ret (xk_lit (.bl false))) xq_nil) xq_nil) (xq_cons (xs_ret (xk_blt .all (xl_cons (xk_comp (xt_var 4) (xk_rng (xl_cons (xk_blt .max (xl_cons (xk_lit (.int 2)) (xl_cons (xk_blt .min (xl_cons (xk_blt .len (xl_cons (xk_var 0) xl_nil)) (xl_cons (xk_lit (.int 3)) xl_nil))) xl_nil))) xl_nil)) xi_nil (xk_call cf "_law_right" (xl_cons (xk_call cf "_law_pot" (xl_cons (xk_var 0) (xl_cons (xk_var 4) xl_nil))) xl_nil)) [4]) xl_nil))) xq_nil)))
theorem m_law_eq (Γ : Tab) (cf : CF) : evB Γ cf f_law.body = m_law Γ cf := (yq_cons (ys_for_ yt_var (yk_rng (yl_cons rfl yk_lit (yl_cons rfl yk_lit yl_nil))) (yq_cons (ys_ife (yk_bnot (yk_blt (yl_cons rfl (yk_comp (yt_tup (yts_cons yt_var (yts_cons yt_var yts_nil))) (yk_it (yk_call (yl_cons rfl yk_var yl_nil))) yi_nil (yk_call (yl_cons rfl yk_var (yl_cons rfl yk_var (yl_cons rfl yk_var yl_nil))))) yl_nil))) (yq_cons (ys_ret yk_lit) yq_nil) yq_nil) yq_nil)) (yq_cons (ys_ife (yk_bop (yb_cons (yk_bnot (yk_call (yl_cons rfl yk_lit (yl_cons rfl yk_lit (yl_cons rfl yk_lit yl_nil))))) (yb_one (yk_bnot (yk_call (yl_cons rfl yk_lit (yl_cons rfl yk_lit (yl_cons rfl yk_lit yl_nil)))))))) (yq_cons (ys_ret yk_lit) yq_nil) yq_nil) (yq_cons (ys_ret (yk_blt (yl_cons rfl (yk_comp yt_var (yk_rng (yl_cons rfl (yk_blt (yl_cons rfl yk_lit (yl_cons rfl (yk_blt (yl_cons rfl (yk_blt (yl_cons rfl yk_var yl_nil)) (yl_cons rfl yk_lit yl_nil))) yl_nil))) yl_nil)) yi_nil (yk_call (yl_cons rfl (yk_call (yl_cons rfl yk_var (yl_cons rfl yk_var yl_nil))) yl_nil))) yl_nil))) yq_nil)))

theorem look_is_whole : GG.fns "is_whole" = some f_is_whole := by rfl
theorem c_is_whole (n : Nat) (a0 : D) (st : St) : cfN GG (n + 1) "is_whole" [a0] st = retOf (m_is_whole GG (cfN GG n) [.val a0] st) := cfN_run look_is_whole (m_is_whole_eq GG (cfN GG n)) rfl
theorem look_is_between : GG.fns "is_between" = some f_is_between := by rfl
theorem c_is_between (n : Nat) (a0 a1 a2 : D) (st : St) : cfN GG (n + 1) "is_between" [a0, a1, a2] st = retOf (m_is_between GG (cfN GG n) [.val a0, .val a1, .val a2] st) := cfN_run look_is_between (m_is_between_eq GG (cfN GG n)) rfl
theorem look_is_text_of : GG.fns "is_text_of" = some f_is_text_of := by rfl
theorem c_is_text_of (n : Nat) (a0 a1 : D) (st : St) : cfN GG (n + 1) "is_text_of" [a0, a1] st = retOf (m_is_text_of GG (cfN GG n) [.val a0, .val a1, .un] st) := cfN_run look_is_text_of (m_is_text_of_eq GG (cfN GG n)) rfl
theorem look_is_ascending : GG.fns "is_ascending" = some f_is_ascending := by rfl
theorem c_is_ascending (n : Nat) (a0 : D) (st : St) : cfN GG (n + 1) "is_ascending" [a0] st = retOf (m_is_ascending GG (cfN GG n) [.val a0, .un, .un] st) := cfN_run look_is_ascending (m_is_ascending_eq GG (cfN GG n)) rfl
theorem look_is_ring : GG.fns "is_ring" = some f_is_ring := by rfl
theorem c_is_ring (n : Nat) (a0 : D) (st : St) : cfN GG (n + 1) "is_ring" [a0] st = retOf (m_is_ring GG (cfN GG n) [.val a0] st) := cfN_run look_is_ring (m_is_ring_eq GG (cfN GG n)) rfl
theorem look_is_tone : GG.fns "is_tone" = some f_is_tone := by rfl
theorem c_is_tone (n : Nat) (a0 a1 : D) (st : St) : cfN GG (n + 1) "is_tone" [a0, a1] st = retOf (m_is_tone GG (cfN GG n) [.val a0, .val a1] st) := cfN_run look_is_tone (m_is_tone_eq GG (cfN GG n)) rfl
theorem look_is_chorded : GG.fns "is_chorded" = some f_is_chorded := by rfl
theorem c_is_chorded (n : Nat) (a0 a1 : D) (st : St) : cfN GG (n + 1) "is_chorded" [a0, a1] st = retOf (m_is_chorded GG (cfN GG n) [.val a0, .val a1, .un] st) := cfN_run look_is_chorded (m_is_chorded_eq GG (cfN GG n)) rfl
theorem look_gaps_by : GG.fns "gaps_by" = some f_gaps_by := by rfl
theorem c_gaps_by (n : Nat) (a0 a1 : D) (st : St) : cfN GG (n + 1) "gaps_by" [a0, a1] st = retOf (m_gaps_by GG (cfN GG n) [.val a0, .val a1, .un, .un, .un] st) := cfN_run look_gaps_by (m_gaps_by_eq GG (cfN GG n)) rfl
theorem look_chord_with_gaps : GG.fns "chord_with_gaps" = some f_chord_with_gaps := by rfl
theorem c_chord_with_gaps (n : Nat) (a0 a1 a2 : D) (st : St) : cfN GG (n + 1) "chord_with_gaps" [a0, a1, a2] st = retOf (m_chord_with_gaps GG (cfN GG n) [.val a0, .val a1, .val a2, .un, .un, .un] st) := cfN_run look_chord_with_gaps (m_chord_with_gaps_eq GG (cfN GG n)) rfl
theorem look_are_three_gaps : GG.fns "are_three_gaps" = some f_are_three_gaps := by rfl
theorem c_are_three_gaps (n : Nat) (a0 a1 a2 : D) (st : St) : cfN GG (n + 1) "are_three_gaps" [a0, a1, a2] st = retOf (m_are_three_gaps GG (cfN GG n) [.val a0, .val a1, .val a2] st) := cfN_run look_are_three_gaps (m_are_three_gaps_eq GG (cfN GG n)) rfl
theorem look_threes_by : GG.fns "threes_by" = some f_threes_by := by rfl
theorem c_threes_by (n : Nat) (a0 a1 a2 : D) (st : St) : cfN GG (n + 1) "threes_by" [a0, a1, a2] st = retOf (m_threes_by GG (cfN GG n) [.val a0, .val a1, .val a2, .un, .un, .un, .un] st) := cfN_run look_threes_by (m_threes_by_eq GG (cfN GG n)) rfl
theorem look_is_three : GG.fns "is_three" = some f_is_three := by rfl
theorem c_is_three (n : Nat) (a0 a1 a2 a3 : D) (st : St) : cfN GG (n + 1) "is_three" [a0, a1, a2, a3] st = retOf (m_is_three GG (cfN GG n) [.val a0, .val a1, .val a2, .val a3] st) := cfN_run look_is_three (m_is_three_eq GG (cfN GG n)) rfl
theorem look_is_flip_word : GG.fns "is_flip_word" = some f_is_flip_word := by rfl
theorem c_is_flip_word (n : Nat) (a0 : D) (st : St) : cfN GG (n + 1) "is_flip_word" [a0] st = retOf (m_is_flip_word GG (cfN GG n) [.val a0] st) := cfN_run look_is_flip_word (m_is_flip_word_eq GG (cfN GG n)) rfl
theorem look_gap_told : GG.fns "gap_told" = some f_gap_told := by rfl
theorem c_gap_told (n : Nat) (a0 a1 a2 a3 : D) (st : St) : cfN GG (n + 1) "gap_told" [a0, a1, a2, a3] st = retOf (m_gap_told GG (cfN GG n) [.val a0, .val a1, .val a2, .val a3] st) := cfN_run look_gap_told (m_gap_told_eq GG (cfN GG n)) rfl
theorem look_flipped_at : GG.fns "flipped_at" = some f_flipped_at := by rfl
theorem c_flipped_at (n : Nat) (a0 a1 a2 : D) (st : St) : cfN GG (n + 1) "flipped_at" [a0, a1, a2] st = retOf (m_flipped_at GG (cfN GG n) [.val a0, .val a1, .val a2, .un, .un, .un, .un] st) := cfN_run look_flipped_at (m_flipped_at_eq GG (cfN GG n)) rfl
theorem look_led_by : GG.fns "led_by" = some f_led_by := by rfl
theorem c_led_by (n : Nat) (a0 a1 a2 a3 a4 : D) (st : St) : cfN GG (n + 1) "led_by" [a0, a1, a2, a3, a4] st = retOf (m_led_by GG (cfN GG n) [.val a0, .val a1, .val a2, .val a3, .val a4, .un, .un] st) := cfN_run look_led_by (m_led_by_eq GG (cfN GG n)) rfl
theorem look_round_by_two : GG.fns "round_by_two" = some f_round_by_two := by rfl
theorem c_round_by_two (n : Nat) (a0 a1 a2 a3 : D) (st : St) : cfN GG (n + 1) "round_by_two" [a0, a1, a2, a3] st = retOf (m_round_by_two GG (cfN GG n) [.val a0, .val a1, .val a2, .val a3, .un, .un, .un, .un] st) := cfN_run look_round_by_two (m_round_by_two_eq GG (cfN GG n)) rfl
theorem look_round_of_threes_by : GG.fns "round_of_threes_by" = some f_round_of_threes_by := by rfl
theorem c_round_of_threes_by (n : Nat) (a0 a1 a2 : D) (st : St) : cfN GG (n + 1) "round_of_threes_by" [a0, a1, a2] st = retOf (m_round_of_threes_by GG (cfN GG n) [.val a0, .val a1, .val a2, .un, .un] st) := cfN_run look_round_of_threes_by (m_round_of_threes_by_eq GG (cfN GG n)) rfl
theorem look_check_ring : GG.fns "check_ring" = some f_check_ring := by rfl
theorem c_check_ring (n : Nat) (a0 : D) (st : St) : cfN GG (n + 1) "check_ring" [a0] st = retOf (m_check_ring GG (cfN GG n) [.val a0] st) := cfN_run look_check_ring (m_check_ring_eq GG (cfN GG n)) rfl
theorem look_check_threes : GG.fns "check_threes" = some f_check_threes := by rfl
theorem c_check_threes (n : Nat) (a0 a1 a2 : D) (st : St) : cfN GG (n + 1) "check_threes" [a0, a1, a2] st = retOf (m_check_threes GG (cfN GG n) [.val a0, .val a1, .val a2] st) := cfN_run look_check_threes (m_check_threes_eq GG (cfN GG n)) rfl
theorem look_check_three : GG.fns "check_three" = some f_check_three := by rfl
theorem c_check_three (n : Nat) (a0 a1 a2 a3 : D) (st : St) : cfN GG (n + 1) "check_three" [a0, a1, a2, a3] st = retOf (m_check_three GG (cfN GG n) [.val a0, .val a1, .val a2, .val a3] st) := cfN_run look_check_three (m_check_three_eq GG (cfN GG n)) rfl
theorem look_led : GG.fns "led" = some f_led := by rfl
theorem c_led (n : Nat) (a0 a1 a2 a3 a4 : D) (st : St) : cfN GG (n + 1) "led" [a0, a1, a2, a3, a4] st = retOf (m_led GG (cfN GG n) [.val a0, .val a1, .val a2, .val a3, .val a4] st) := cfN_run look_led (m_led_eq GG (cfN GG n)) rfl
theorem look_round_of_threes : GG.fns "round_of_threes" = some f_round_of_threes := by rfl
theorem c_round_of_threes (n : Nat) (a0 a1 a2 : D) (st : St) : cfN GG (n + 1) "round_of_threes" [a0, a1, a2] st = retOf (m_round_of_threes GG (cfN GG n) [.val a0, .val a1, .val a2] st) := cfN_run look_round_of_threes (m_round_of_threes_eq GG (cfN GG n)) rfl
theorem look__law_pot : GG.fns "_law_pot" = some f__law_pot := by rfl
theorem c__law_pot (n : Nat) (a0 a1 : D) (st : St) : cfN GG (n + 1) "_law_pot" [a0, a1] st = retOf (m__law_pot GG (cfN GG n) [.val a0, .val a1, .un, .un, .un] st) := cfN_run look__law_pot (m__law_pot_eq GG (cfN GG n)) rfl
theorem look__law_draw : GG.fns "_law_draw" = some f__law_draw := by rfl
theorem c__law_draw (n : Nat) (a0 a1 : D) (st : St) : cfN GG (n + 1) "_law_draw" [a0, a1] st = retOf (m__law_draw GG (cfN GG n) [.val a0, .val a1, .un] st) := cfN_run look__law_draw (m__law_draw_eq GG (cfN GG n)) rfl
theorem look__law_pick : GG.fns "_law_pick" = some f__law_pick := by rfl
theorem c__law_pick (n : Nat) (a0 a1 : D) (st : St) : cfN GG (n + 1) "_law_pick" [a0, a1] st = retOf (m__law_pick GG (cfN GG n) [.val a0, .val a1] st) := cfN_run look__law_pick (m__law_pick_eq GG (cfN GG n)) rfl
theorem look__law_same : GG.fns "_law_same" = some f__law_same := by rfl
theorem c__law_same (n : Nat) (a0 a1 : D) (st : St) : cfN GG (n + 1) "_law_same" [a0, a1] st = retOf (m__law_same GG (cfN GG n) [.val a0, .val a1, .un] st) := cfN_run look__law_same (m__law_same_eq GG (cfN GG n)) rfl
theorem look__law_rests : GG.fns "_law_rests" = some f__law_rests := by rfl
theorem c__law_rests (n : Nat) (a0 a1 : D) (st : St) : cfN GG (n + 1) "_law_rests" [a0, a1] st = retOf (m__law_rests GG (cfN GG n) [.val a0, .val a1, .un] st) := cfN_run look__law_rests (m__law_rests_eq GG (cfN GG n)) rfl
theorem look__law_is_pair : GG.fns "_law_is_pair" = some f__law_is_pair := by rfl
theorem c__law_is_pair (n : Nat) (a0 a1 a2 : D) (st : St) : cfN GG (n + 1) "_law_is_pair" [a0, a1, a2] st = retOf (m__law_is_pair GG (cfN GG n) [.val a0, .val a1, .val a2] st) := cfN_run look__law_is_pair (m__law_is_pair_eq GG (cfN GG n)) rfl
theorem look__law_pairs : GG.fns "_law_pairs" = some f__law_pairs := by rfl
theorem c__law_pairs (n : Nat) (a0 : D) (st : St) : cfN GG (n + 1) "_law_pairs" [a0] st = retOf (m__law_pairs GG (cfN GG n) [.val a0, .un, .un, .un] st) := cfN_run look__law_pairs (m__law_pairs_eq GG (cfN GG n)) rfl
theorem look__law_threes : GG.fns "_law_threes" = some f__law_threes := by rfl
theorem c__law_threes (n : Nat) (a0 a1 a2 : D) (st : St) : cfN GG (n + 1) "_law_threes" [a0, a1, a2] st = retOf (m__law_threes GG (cfN GG n) [.val a0, .val a1, .val a2, .un, .un] st) := cfN_run look__law_threes (m__law_threes_eq GG (cfN GG n)) rfl
theorem look__law_moved : GG.fns "_law_moved" = some f__law_moved := by rfl
theorem c__law_moved (n : Nat) (a0 a1 a2 : D) (st : St) : cfN GG (n + 1) "_law_moved" [a0, a1, a2] st = retOf (m__law_moved GG (cfN GG n) [.val a0, .val a1, .val a2, .un] st) := cfN_run look__law_moved (m__law_moved_eq GG (cfN GG n)) rfl
theorem look__law_flip : GG.fns "_law_flip" = some f__law_flip := by rfl
theorem c__law_flip (n : Nat) (a0 a1 a2 a3 a4 : D) (st : St) : cfN GG (n + 1) "_law_flip" [a0, a1, a2, a3, a4] st = retOf (m__law_flip GG (cfN GG n) [.val a0, .val a1, .val a2, .val a3, .val a4, .un, .un, .un, .un, .un] st) := cfN_run look__law_flip (m__law_flip_eq GG (cfN GG n)) rfl
theorem look__law_some : GG.fns "_law_some" = some f__law_some := by rfl
theorem c__law_some (n : Nat) (a0 : D) (st : St) : cfN GG (n + 1) "_law_some" [a0] st = retOf (m__law_some GG (cfN GG n) [.val a0, .un, .un, .un] st) := cfN_run look__law_some (m__law_some_eq GG (cfN GG n)) rfl
theorem look__law_common : GG.fns "_law_common" = some f__law_common := by rfl
theorem c__law_common (n : Nat) (a0 a1 a2 : D) (st : St) : cfN GG (n + 1) "_law_common" [a0, a1, a2] st = retOf (m__law_common GG (cfN GG n) [.val a0, .val a1, .val a2, .un] st) := cfN_run look__law_common (m__law_common_eq GG (cfN GG n)) rfl
theorem look__law_is_round : GG.fns "_law_is_round" = some f__law_is_round := by rfl
theorem c__law_is_round (n : Nat) (a0 a1 a2 a3 : D) (st : St) : cfN GG (n + 1) "_law_is_round" [a0, a1, a2, a3] st = retOf (m__law_is_round GG (cfN GG n) [.val a0, .val a1, .val a2, .val a3, .un, .un, .un] st) := cfN_run look__law_is_round (m__law_is_round_eq GG (cfN GG n)) rfl
theorem look__law_is_right : GG.fns "_law_is_right" = some f__law_is_right := by rfl
theorem c__law_is_right (n : Nat) (a0 a1 a2 : D) (st : St) : cfN GG (n + 1) "_law_is_right" [a0, a1, a2] st = retOf (m__law_is_right GG (cfN GG n) [.val a0, .val a1, .val a2, .un] st) := cfN_run look__law_is_right (m__law_is_right_eq GG (cfN GG n)) rfl
theorem look__law_right : GG.fns "_law_right" = some f__law_right := by rfl
theorem c__law_right (n : Nat) (a0 : D) (st : St) : cfN GG (n + 1) "_law_right" [a0] st = retOf (m__law_right GG (cfN GG n) [.val a0, .un, .un, .un, .un, .un, .un, .un, .un, .un, .un, .un, .un] st) := cfN_run look__law_right (m__law_right_eq GG (cfN GG n)) rfl
theorem look_law : GG.fns "law" = some f_law := by rfl
theorem c_law (n : Nat) (a0 : D) (st : St) : cfN GG (n + 1) "law" [a0] st = retOf (m_law GG (cfN GG n) [.val a0, .un, .un, .un, .un] st) := cfN_run look_law (m_law_eq GG (cfN GG n)) rfl
@[simp] theorem gc_FEWEST : GG.gcs "FEWEST" = some (.int 3) := by rfl
@[simp] theorem gc_FIRST : GG.gcs "FIRST" = some (.str "a") := by rfl
@[simp] theorem gc_FLIPS : GG.gcs "FLIPS" = some (.str "abc") := by rfl
@[simp] theorem gc_MOST : GG.gcs "MOST" = some (.int 12) := by rfl
@[simp] theorem gc_MOST_FLIPS : GG.gcs "MOST_FLIPS" = some (.int 30) := by rfl
@[simp] theorem gc_SECOND : GG.gcs "SECOND" = some (.str "b") := by rfl
@[simp] theorem gc_SIGN_PAIRS : GG.gcs "SIGN_PAIRS" = some (.tup [.tup [.str "a", .str "b"], .tup [.str "a", .str "c"], .tup [.str "b", .str "c"]]) := by rfl
@[simp] theorem gc_THIRD : GG.gcs "THIRD" = some (.str "c") := by rfl
end Rv

set_option Elab.async false
set_option linter.all false
set_option maxRecDepth 100000
set_option maxHeartbeats 4000000
/-! Runs of the package's functions on plain values. -/
namespace Rv
open PySem L2
section
variable (n : Nat) (st : List D)
theorem e_is_whole (i : Int) : cfN GG (n + 1) "is_whole" [.int i] st = some (.bl true, false, st) := by
  rw [c_is_whole]; simp [m_is_whole]
theorem e_is_between (i a b : Int) : cfN GG (n + 2) "is_between" [.int i, .int a, .int b] st = some (.bl (decide (a ≤ i) && decide (i ≤ b)), false, st) := by
  rw [c_is_between]; by_cases h : a ≤ i <;> simp [m_is_between, e_is_whole, h]
theorem e_is_ring (i : Int) : cfN GG (n + 3) "is_ring" [.int i] st = some (.bl (decide (3 ≤ i) && decide (i ≤ 12)), false, st) := by
  rw [c_is_ring]; simp [m_is_ring, e_is_between]
def toneB (r t : Int) : Bool := decide (0 ≤ t) && decide (t ≤ r - 1)
theorem e_is_tone (r i : Int) : cfN GG (n + 3) "is_tone" [.int r, .int i] st = some (.bl (toneB r i), false, st) := by
  rw [c_is_tone]; simp [m_is_tone, e_is_between, toneB]
theorem e_check_ring (i : Int) (h : 3 ≤ i ∧ i ≤ 12) : cfN GG (n + 4) "check_ring" [.int i] st = some (.non, false, st) := by
  rw [c_check_ring]; simp [m_check_ring, e_is_ring, h]
def asc (l : List Int) : Bool := (l.zip l.tail).all fun p => decide (p.1 < p.2)
theorem e_is_ascending (l : List Int) (h : l.length ≤ 1000) : cfN GG (n + 1) "is_ascending" [tupZ l] st = some (.bl (asc l), false, st) := by
  rw [c_is_ascending]
  simp [m_is_ascending]
  rw [comp_ok (l.zip l.tail) (fun p => .tup [.int p.1, .int p.2]) (fun p => [.val (tupZ l), .val (.int p.1), .val (.int p.2)]) (fun _ => true) (fun p => .bl (decide (p.1 < p.2)))
    (x := .lst ((l.zip l.tail).map fun p => .tup [.int p.1, .int p.2])) (fl := true) (fe := false) (ρ1 := [.val (tupZ l), .un, .un]) (R := [.val (tupZ l), .un, .un])]
  · simp [bltD, asc]
  all_goals simp [wipeS, restS, lim]
  all_goals omega
def chorded (r : Int) (l : List Int) : Bool := l.all (toneB r) && asc l
theorem e_is_chorded (r : Int) (l : List Int) (h : l.length ≤ 1000) : cfN GG (n + 4) "is_chorded" [.int r, tupZ l] st = some (.bl (chorded r l), false, st) := by
  rw [c_is_chorded]
  simp [m_is_chorded]
  rw [comp_B [.val (.int r), .val (tupZ l), .un] l D.int (fun _ => true) (fun t => toneB r t) (x := tupZ l) (fl := false) (fe := false)]
  · simp [e_is_ascending, h, chorded]
  all_goals simp [e_is_tone, h]
def unitsZ (r : Int) : List Int := (rngI 1 r).filter fun u => decide (((Nat.gcd u.natAbs r.natAbs : Nat) : Int) = 1)
def movedM (r u s : Int) (l : List Int) : List Int := sortI (l.map fun t => (u * t + s) % r)
def kindZ (r : Int) (kind : Nat) : List Int := match kind with
  | 0 => [1]
  | 1 => [1, r - 1]
  | _ => unitsZ r
def kindS : Nat → Str
  | 0 => "raise"
  | 1 => "turn"
  | _ => "unit"
def motionsZ (r : Int) (k : Nat) : List (List Int) := (kindZ r k).flatMap fun u => (rng0 r).map fun t => [u, t]
theorem rng_small {r : Int} (h : 3 ≤ r ∧ r ≤ 12) : r = 3 ∨ r = 4 ∨ r = 5 ∨ r = 6 ∨ r = 7 ∨ r = 8 ∨ r = 9 ∨ r = 10 ∨ r = 11 ∨ r = 12 := by omega
theorem motions_len (r : Int) (h : 3 ≤ r ∧ r ≤ 12) (k : Nat) : (motionsZ r k).length ≤ 1000 := by
  have : ∀ k', k' = 0 ∨ k' = 1 ∨ k' = 2 → (motionsZ r k').length ≤ 1000 := by
    intro k' hk
    rcases rng_small h with rfl | rfl | rfl | rfl | rfl | rfl | rfl | rfl | rfl | rfl <;> rcases hk with rfl | rfl | rfl <;> decide +kernel
  match k with
  | 0 => exact this 0 (by simp)
  | 1 => exact this 1 (by simp)
  | k + 2 => exact this 2 (by simp)
theorem motion_bound {r u s : Int} (h : 3 ≤ r ∧ r ≤ 12) {k : Nat} (hm : [u, s] ∈ motionsZ r k) : 1 ≤ u ∧ u < r ∧ 0 ≤ s ∧ s < r := by
  unfold motionsZ at hm
  simp only [List.mem_flatMap, List.mem_map, mem_rng0, List.cons.injEq] at hm
  obtain ⟨u', hu, t, ht, rfl, rfl, _⟩ := hm
  have : 1 ≤ u' ∧ u' < r := by
    unfold kindZ at hu
    split at hu
    · simp at hu; omega
    · simp at hu; omega
    · unfold unitsZ at hu
      exact mem_rngI.mp (List.mem_filter.mp hu).1
  omega
end
end Rv

set_option Elab.async false
set_option linter.all false
set_option maxRecDepth 100000
set_option maxHeartbeats 4000000
/-! Runs of the functions of threes. -/
namespace Rv
open PySem L2
section
variable (n : Nat) (st : List D)
/-- gaps of a three -/
theorem e_gaps_by3 (r x y z : Int) : cfN GG (n + 1) "gaps_by" [.int r, tupZ [x, y, z]] st = some (lstZ [y - x, z - y, x + r - z], true, st) := by
  rw [c_gaps_by]
  simp [m_gaps_by, atI, ixN]
  rw [comp_ok [(x, y), (y, z), (z, x + r)] (fun p => .tup [.int p.1, .int p.2]) (fun p => [.val (.int r), .val (tupZ [x, y, z]), .val (lstZ [y, z, x + r]), .val (.int p.1), .val (.int p.2)]) (fun _ => true) (fun p => .int (p.2 - p.1))
    (x := .lst ([(x, y), (y, z), (z, x + r)].map fun p => .tup [.int p.1, .int p.2])) (fl := true) (fe := false) (ρ1 := [.val (.int r), .val (tupZ [x, y, z]), .val (lstZ [y, z, x + r]), .un, .un]) (R := [.val (.int r), .val (tupZ [x, y, z]), .val (lstZ [y, z, x + r]), .un, .un])]
  · simp
  all_goals simp [wipeS, restS]
theorem e_chord_with_gaps3 (r t a b c : Int) (hr : 0 < r) : cfN GG (n + 1) "chord_with_gaps" [.int r, .int t, tupZ [a, b, c]] st = some (tupZ (sortI [t % r, (t + a) % r, (t + a + b) % r]), false, st) := by
  rw [c_chord_with_gaps]
  simp [m_chord_with_gaps, xs_for__ap, turns, ownD, setOwn, binD_modI _ _ hr]
structure Dom (r a b : Int) : Prop where
  r6 : 6 ≤ r
  r12 : r ≤ 12
  a1 : 1 ≤ a
  b1 : 1 ≤ b
  ab : a + b < r
  ne : a ≠ b
  nac : a ≠ r - a - b
  nbc : b ≠ r - a - b
theorem e_are_three_gaps (r a b : Int) (d : Dom r a b) : cfN GG (n + 2) "are_three_gaps" [.int r, .int a, .int b] st = some (.bl true, false, st) := by
  obtain ⟨h1, h2, h3, h4, h5, h6, h7, h8⟩ := d
  rw [c_are_three_gaps]
  simp [m_are_three_gaps, e_is_whole, show ¬ a < 1 by omega, show ¬ b < 1 by omega, show ¬ r ≤ a + b by omega, dedupI, addI, h6, h7, h8]
def chordG (r t a b : Int) : List Int := sortI [t % r, (t + a) % r, (t + a + b) % r]
def threesM (r a b : Int) : List (List Int) := sortT ((rng0 r).flatMap fun t => [[a, b, r - a - b], [b, a, r - a - b]].map fun w => chordG r t (w.headD 0) ((w.tail).headD 0))
theorem e_threes_by (r a b : Int) (d : Dom r a b) : cfN GG (n + 2) "threes_by" [.int r, .int a, .int b] st = some (lstT (threesM r a b), true, st) := by
  obtain ⟨h1, h2, h3, h4, h5, h6, h7, h8⟩ := d
  rw [c_threes_by]
  simp [m_threes_by]
  rw [comp_two [.val (.int r), .val (.int a), .val (.int b), .val (.int (r - a - b)), .val (lstT [[a, b, r - a - b], [b, a, r - a - b]]), .un, .un] (rng0 r) D.int (fun _ => [[a, b, r - a - b], [b, a, r - a - b]]) tupZ (fun t w => tupZ (chordG r t (w.headD 0) ((w.tail).headD 0))) (x := lstZ (rng0 r)) (fl := true) (fe := false)]
  · have e : (D.lst (List.flatMap (fun d => List.map (fun w => tupZ (chordG r d (w.headD 0) (w.tail.headD 0))) [[a, b, r - a - b], [b, a, r - a - b]]) (rng0 r))) = lstT ((rng0 r).flatMap fun t => [[a, b, r - a - b], [b, a, r - a - b]].map fun w => chordG r t (w.headD 0) ((w.tail).headD 0)) := by
      simp [lstT, List.map_flatMap]
    simp only [e]
    rw [blt_sorted_lstT _ (by
      simp [chordG, List.all_flatMap]
      intro x _
      have h1 : sortI [x % r, (x + a) % r, (x + a + b) % r] ≠ [] := fun h => by
        have := congrArg List.length h
        simp [len_isort] at this
      have h2 : sortI [x % r, (x + b) % r, (x + b + a) % r] ≠ [] := fun h => by
        have := congrArg List.length h
        simp [len_isort] at this
      exact ⟨h1, h2⟩)]
    simp [threesM]
  · exact rng1_ap rfl (by omega) (by omega)
  · simp
  · simp
  · simp
  · simp
  · intro t ht
    exact ⟨lstT [[a, b, r - a - b], [b, a, r - a - b]], false, by simp, by simp⟩
  · intro t ht w hw
    simp only [List.mem_cons, List.not_mem_nil, or_false] at hw
    rcases hw with rfl | rfl <;> simp [e_chord_with_gaps3, chordG, show 0 < r by omega]
  · simp
    omega
theorem e_is_three (r a b : Int) (l : List Int) (d : Dom r a b) (hl : l.length ≤ 1000) : cfN GG (n + 5) "is_three" [.int r, .int a, .int b, tupZ l] st = some (.bl (chorded r l && (threesM r a b).contains l), false, st) := by
  rw [c_is_three]
  simp [m_is_three, e_is_chorded, e_threes_by, d, hl]
theorem e_check_threes (r a b : Int) (d : Dom r a b) : cfN GG (n + 5) "check_threes" [.int r, .int a, .int b] st = some (.non, false, st) := by
  rw [c_check_threes]
  simp [m_check_threes, e_check_ring, e_are_three_gaps, d, show 3 ≤ r from by have := d.r6; omega, d.r12]
theorem e_check_three (r a b : Int) (l : List Int) (d : Dom r a b) (hl : l.length ≤ 1000) (hc : chorded r l = true) (hm : l ∈ threesM r a b) : cfN GG (n + 6) "check_three" [.int r, .int a, .int b, tupZ l] st = some (.non, false, st) := by
  rw [c_check_three]
  simp [m_check_three, e_is_three, d, hl, hc, hm]
/-- words: their signs -/
def wordS (w : List Nat) : Str := ⟨w.toArray⟩
def sgD (c : Nat) : D := .str ⟨#[c]⟩
def isSg (c : Nat) : Bool := c == 97 || c == 98 || c == 99
def szZ (r a b : Int) (c : Nat) : Int := if c = 97 then a else if c = 98 then b else r - a - b
theorem chars_word (w : List Nat) : chars (wordS w) = w.map sgD := by
  unfold chars wordS sgD
  simp
theorem e_gap_told (r a b : Int) (c : Nat) (h : isSg c = true) : cfN GG (n + 1) "gap_told" [.int r, .int a, .int b, sgD c] st = some (.int (szZ r a b c), false, st) := by
  rw [c_gap_told]
  simp only [isSg, Bool.or_eq_true, beq_iff_eq] at h
  rcases h with (rfl | rfl) | rfl
  · rw [show sgD 97 = .str "a" from rfl]
    simp [m_gap_told, mkDic, okKey, dPut, idxD, dLook, szZ]
  · rw [show sgD 98 = .str "b" from rfl]
    simp [m_gap_told, mkDic, okKey, dPut, idxD, dLook, szZ]
  · rw [show sgD 99 = .str "c" from rfl]
    simp [m_gap_told, mkDic, okKey, dPut, idxD, dLook, szZ]
def flipM (r : Int) (l : List Int) (g : Int) : List Int := match l with
  | [x, y, z] => if y - x = g then sortI [x, y, (x + y - z) % r] else if z - y = g then sortI [y, z, (y + z - x) % r] else sortI [z, x, (z + x - y) % r]
  | _ => []
def flipOk (r : Int) (l : List Int) (g : Int) : Bool := match l with
  | [x, y, z] => y - x == g || z - y == g || x + r - z == g
  | _ => false
theorem e_flipped_at (r g : Int) (l : List Int) (hr : 0 < r) (h : flipOk r l g = true) : cfN GG (n + 2) "flipped_at" [.int r, tupZ l, .int g] st = some (tupZ (flipM r l g), false, st) := by
  match l, h with
  | [x, y, z], h =>
    simp only [flipOk, Bool.or_eq_true, beq_iff_eq] at h
    rw [c_flipped_at]
    by_cases h1 : y - x = g
    · simp [m_flipped_at, e_gaps_by3, List.findIdx?_cons, h1, atI, ixN, binD_modI _ _ hr, binD_modI _ 3 (by decide), flipM]
    · by_cases h2 : z - y = g
      · simp [m_flipped_at, e_gaps_by3, List.findIdx?_cons, h1, h2, atI, ixN, binD_modI _ _ hr, binD_modI _ 3 (by decide), flipM]
      · have h3 : x + r - z = g := by omega
        simp [m_flipped_at, e_gaps_by3, List.findIdx?_cons, h1, h2, h3, atI, ixN, binD_modI _ _ hr, binD_modI _ 3 (by decide), flipM]
end
end Rv

set_option Elab.async false
set_option linter.all false
set_option maxRecDepth 100000
set_option maxHeartbeats 4000000
/-! Threes as raised and turned over ones: (o, x). -/
namespace Rv
open PySem L2
def TT (r a b : Int) (o : Bool) (x : Int) : List Int := chordG r x (if o then b else a) (if o then a else b)
def kS (a b : Int) (s : Nat) : Int := if s = 97 then -b else if s = 98 then a else 0
def stepX (a b : Int) (o : Bool) (x : Int) (s : Nat) : Int := if o then x - kS a b s else x + kS a b s
def domB (r a b : Int) : Bool := decide (a + b < r) && a != b && a != r - a - b && b != r - a - b
def allDom (P : Int → Int → Int → Bool) : Bool := (rngI 6 13).all fun r => (rngI 1 r).all fun a => (rngI 1 r).all fun b => !domB r a b || P r a b
theorem allDom_of {P : Int → Int → Int → Bool} (h : allDom P = true) {r a b : Int} (d : Dom r a b) : P r a b = true := by
  obtain ⟨h1, h2, h3, h4, h5, h6, h7, h8⟩ := d
  unfold allDom at h
  have := List.all_eq_true.mp (List.all_eq_true.mp (List.all_eq_true.mp h r (mem_rngI.mpr ⟨h1, by omega⟩)) a (mem_rngI.mpr ⟨h3, by omega⟩)) b (mem_rngI.mpr ⟨h4, by omega⟩)
  have e : domB r a b = true := by simp [domB, h5, h6, h7, h8]
  rw [e] at this
  simpa using this
def chkT (P : Int → Int → Int → Bool → Int → Bool) : Bool := allDom fun r a b => [false, true].all fun o => (rng0 r).all fun x => P r a b o x
theorem chkT_of {P : Int → Int → Int → Bool → Int → Bool} (h : chkT P = true) {r a b : Int} (d : Dom r a b) (o : Bool) {x : Int} (hx : 0 ≤ x ∧ x < r) : P r a b o x = true := by
  have := allDom_of h d
  exact List.all_eq_true.mp (List.all_eq_true.mp this o (by cases o <;> simp)) x (mem_rng0.mpr hx)
def chk1 (r a b : Int) (o : Bool) (x : Int) : Bool := chorded r (TT r a b o x) && [97, 98, 99].all fun s => flipOk r (TT r a b o x) (szZ r a b s) && flipM r (TT r a b o x) (szZ r a b s) == TT r a b (!o) (stepX a b o x s % r)
theorem chk1_all : chkT chk1 = true := by decide +kernel
section
variable {r a b : Int} (d : Dom r a b) (o : Bool) {x : Int} (hx : 0 ≤ x ∧ x < r)
include d hx
theorem TT_chorded : chorded r (TT r a b o x) = true := by
  have := chkT_of chk1_all d o hx
  unfold chk1 at this
  simp only [Bool.and_eq_true] at this
  exact this.1
theorem TT_flip {s : Nat} (hs : isSg s = true) : flipOk r (TT r a b o x) (szZ r a b s) = true ∧ flipM r (TT r a b o x) (szZ r a b s) = TT r a b (!o) (stepX a b o x s % r) := by
  have := chkT_of chk1_all d o hx
  unfold chk1 at this
  simp only [Bool.and_eq_true] at this
  have hm : s ∈ [97, 98, 99] := by
    simp only [isSg, Bool.or_eq_true, beq_iff_eq] at hs
    simp
    omega
  have := List.all_eq_true.mp this.2 s hm
  simp only [Bool.and_eq_true, beq_iff_eq] at this
  exact this
theorem TT_mem : TT r a b o x ∈ threesM r a b := by
  unfold threesM
  rw [mem_isort, List.mem_flatMap]
  refine ⟨x, mem_rng0.mpr hx, ?_⟩
  cases o <;> simp [TT]
end
theorem TT_len (r a b : Int) (o : Bool) (x : Int) : (TT r a b o x).length = 3 := by
  unfold TT chordG
  rw [len_isort]
  rfl
/-- behind a word -/
def goX (r a b : Int) : List Nat → Bool → Int → Bool × Int
  | [], o, x => (o, x)
  | s :: w, o, x => goX r a b w (!o) (stepX a b o x s % r)
theorem goX_rng {r a b : Int} (hr : 0 < r) : ∀ (w : List Nat) (o : Bool) (x : Int), 0 ≤ x ∧ x < r → 0 ≤ (goX r a b w o x).2 ∧ (goX r a b w o x).2 < r
  | [], o, x, h => h
  | s :: w, o, x, h => goX_rng hr w _ _ ⟨Int.emod_nonneg _ (by omega), Int.emod_lt_of_pos _ hr⟩
section
variable (n : Nat) (st : List D)
theorem e_led_by {r a b : Int} (d : Dom r a b) (w : List Nat) (hw : w.all isSg = true) (o : Bool) (x : Int) (hx : 0 ≤ x ∧ x < r) :
    cfN GG (n + 3) "led_by" [.int r, .int a, .int b, tupZ (TT r a b o x), .str (wordS w)] st = some (tupZ (TT r a b (goX r a b w o x).1 (goX r a b w o x).2), false, st) := by
  have hr : 0 < r := by have := d.r6; omega
  rw [c_led_by]
  simp [m_led_by]
  rw [for_fold (σ := (Bool × Int) × Sl) w sgD (fun s => [.val (.int r), .val (.int a), .val (.int b), .val (tupZ (TT r a b o x)), .val (.str (wordS w)), .val (tupZ (TT r a b s.1.1 s.1.2)), s.2]) (fun s c => ((!s.1.1, stepX a b s.1.1 s.1.2 c % r), .val (sgD c))) (fun s => 0 ≤ s.1.2 ∧ s.1.2 < r) ((o, x), .un) (x := .str (wordS w)) (fl := false)]
  · have key : ∀ (w : List Nat) (o : Bool) (x : Int) (s : Sl), (w.foldl (fun (s : (Bool × Int) × Sl) c => ((!s.1.1, stepX a b s.1.1 s.1.2 c % r), .val (sgD c))) ((o, x), s)).1 = goX r a b w o x := by
      intro w
      induction w with
      | nil => intro o x s; rfl
      | cons c w ih => intro o x s; exact ih _ _ _
    simp [key]
  · simp
  · show some (chars (wordS w)) = _
    rw [chars_word]
  · exact hx
  · intro c hc s hs
    have hc' := List.all_eq_true.mp hw c hc
    obtain ⟨f1, f2⟩ := TT_flip d s.1.1 hs hc'
    refine ⟨?_, Int.emod_nonneg _ (by omega), Int.emod_lt_of_pos _ hr⟩
    simp [e_gap_told _ _ _ _ _ _ hc', e_flipped_at _ _ _ _ _ hr f1, f2]
end
end Rv

set_option Elab.async false
set_option linter.all false
set_option maxRecDepth 100000
set_option maxHeartbeats 4000000
/-! Runs of the law's own functions: rests, threes, flips. -/
namespace Rv
open PySem L2
/-- strictly ascending rows with the same members are one -/
theorem sorted_ext : ∀ {l k : List Int}, l.Pairwise (· < ·) → k.Pairwise (· < ·) → (∀ v, v ∈ l ↔ v ∈ k) → l = k
  | [], [], _, _, _ => rfl
  | [], b :: k, _, _, h => by have := (h b).mpr (by simp); simp at this
  | a :: l, [], _, _, h => by have := (h a).mp (by simp); simp at this
  | a :: l, b :: k, hl, hk, h => by
    have hl' := List.pairwise_cons.mp hl
    have hk' := List.pairwise_cons.mp hk
    have e : a = b := by
      have h1 := (h a).mp (by simp)
      have h2 := (h b).mpr (by simp)
      simp only [List.mem_cons] at h1 h2
      rcases h1 with h1 | h1
      · exact h1
      · rcases h2 with h2 | h2
        · exact h2.symm
        · have := hl'.1 b h2
          have := hk'.1 a h1
          omega
    subst e
    congr 1
    refine sorted_ext hl'.2 hk'.2 fun v => ⟨fun hv => ?_, fun hv => ?_⟩
    · have := (h v).mp (by simp [hv])
      simp only [List.mem_cons] at this
      rcases this with e | e
      · subst e
        have := hl'.1 v hv
        omega
      · exact e
    · have := (h v).mpr (by simp [hv])
      simp only [List.mem_cons] at this
      rcases this with e | e
      · subst e
        have := hk'.1 v hv
        omega
      · exact e
theorem mem_insI' {i v : Int} : ∀ {l : List Int}, v ∈ insI i l ↔ v = i ∨ v ∈ l
  | [] => by simp [insI]
  | j :: r => by
    simp only [insI]
    split
    · simp
    · split
      · rename_i e
        subst e
        simp
      · simp only [List.mem_cons, mem_insI' (l := r)]
        exact ⟨fun h => by rcases h with h | h | h <;> simp [h], fun h => by rcases h with h | h | h <;> simp [h]⟩
theorem mem_setI' {v : Int} : ∀ {l : List Int}, v ∈ setI l ↔ v ∈ l
  | [] => by simp [setI]
  | i :: r => by
    show v ∈ insI i (setI r) ↔ _
    rw [mem_insI', mem_setI', List.mem_cons]
theorem insI_asc {i : Int} : ∀ {l : List Int}, l.Pairwise (· < ·) → (insI i l).Pairwise (· < ·)
  | [], _ => by simp [insI]
  | j :: r, h => by
    have h' := List.pairwise_cons.mp h
    simp only [insI]
    split
    · rename_i hij
      refine List.pairwise_cons.mpr ⟨fun v hv => ?_, h⟩
      simp only [List.mem_cons] at hv
      rcases hv with rfl | hv
      · exact hij
      · have := h'.1 v hv
        omega
    · split
      · exact h
      · refine List.pairwise_cons.mpr ⟨fun v hv => ?_, insI_asc h'.2⟩
        rcases mem_insI'.mp hv with rfl | hv
        · omega
        · exact h'.1 v hv
theorem setI_asc : ∀ (l : List Int), (setI l).Pairwise (· < ·)
  | [] => by simp [setI]
  | i :: r => insI_asc (setI_asc r)
theorem setI_ext {l k : List Int} (h : ∀ v, v ∈ l ↔ v ∈ k) : setI l = setI k := sorted_ext (setI_asc l) (setI_asc k) fun v => by rw [mem_setI', mem_setI', h]
theorem setI_self {l : List Int} (h : l.Pairwise (· < ·)) : setI l = l := sorted_ext (setI_asc l) h fun v => mem_setI'
def rests (r : Int) (l : List Int) : List Int := setI (l.map (· % r))
theorem rests_ext {r : Int} {l k : List Int} (h : ∀ v, v ∈ l.map (· % r) ↔ v ∈ k.map (· % r)) : rests r l = rests r k := setI_ext h
/-- rests of rests, moved -/
theorem rests_map {r u s : Int} (l : List Int) : rests r ((rests r l).map fun t => u * t + s) = rests r (l.map fun t => u * t + s) := by
  refine rests_ext fun v => ?_
  simp only [List.map_map, List.mem_map, Function.comp_apply, rests, mem_setI']
  constructor
  · rintro ⟨w, ⟨t, ht, rfl⟩, rfl⟩
    exact ⟨t, ht, by simp [Int.add_emod, Int.mul_emod]⟩
  · rintro ⟨t, ht, rfl⟩
    exact ⟨t % r, ⟨t, ht, rfl⟩, by simp [Int.add_emod, Int.mul_emod]⟩
section
variable (n : Nat) (st : List D)
theorem e__law_rests (r : Int) (l : List Int) (hr : 0 < r) (hl : l.length < 64) : cfN GG (n + 1) "_law_rests" [.int r, tupZ l] st = some (tupZ (rests r l), false, st) := by
  rw [c__law_rests]
  simp [m__law_rests]
  rw [comp_Z [.val (.int r), .val (tupZ l), .un] l D.int (fun _ => true) (fun t => t % r) (x := tupZ l) (fl := false) (fe := false)]
  · simp only [filter_tt]
    rw [sortSet_lstZ _ (by simpa using hl)]
    simp [rests]
  all_goals (try simp [binD_modI _ _ hr])
  all_goals omega
theorem e__law_restsL (r : Int) (l : List Int) (hr : 0 < r) (hl : l.length < 64) : cfN GG (n + 1) "_law_rests" [.int r, lstZ l] st = some (tupZ (rests r l), false, st) := by
  rw [c__law_rests]
  simp [m__law_rests]
  rw [comp_Z [.val (.int r), .val (lstZ l), .un] l D.int (fun _ => true) (fun t => t % r) (x := lstZ l) (fl := false) (fe := false)]
  · simp only [filter_tt]
    rw [sortSet_lstZ _ (by simpa using hl)]
    simp [rests]
  all_goals (try simp [binD_modI _ _ hr])
  all_goals omega
theorem e__law_moved (r u s : Int) (l : List Int) (hr : 0 < r) (hu : -1000000 ≤ u ∧ u ≤ 1000000) (hl : l.length < 64) : cfN GG (n + 2) "_law_moved" [.int r, tupZ l, tupZ [u, s]] st = some (tupZ (rests r (l.map fun t => u * t + s)), false, st) := by
  rw [c__law_moved]
  simp [m__law_moved]
  rw [comp_Z [.val (.int r), .val (tupZ l), .val (tupZ [u, s]), .un] l D.int (fun _ => true) (fun t => u * t + s) (x := tupZ l) (fl := false) (fe := false)]
  · simp only [filter_tt]
    simp [e__law_restsL, hr, hl]
  all_goals (try simp [atI, ixN, binD_mulI _ _ hu])
  all_goals omega
theorem e__law_same_int (i j : Int) : cfN GG (n + 1) "_law_same" [.int i, .int j] st = some (.bl (decide (i = j)), false, st) := by
  rw [c__law_same]
  simp [m__law_same]
theorem e__law_same_tup (k l : List Int) (hl : l.length ≤ 100) : cfN GG (n + 2) "_law_same" [tupZ k, tupZ l] st = some (.bl (decide (k = l)), false, st) := by
  rw [c__law_same]
  by_cases h : k.length = l.length
  · simp [m__law_same, h]
    rw [comp_B [.val (tupZ k), .val (tupZ l), .un] (rng0 l.length) D.int (fun _ => true) (fun i => decide (atI k i = atI l i)) (x := lstZ (rng0 l.length)) (fl := true) (fe := false)]
    · rw [← all_same k l h]
      simp
    · exact rng1_ap (f := false) (by simp) (by omega) (by omega)
    · simp
    · simp
    · simp
    · intro i hi _
      rw [mem_rng0] at hi
      obtain ⟨v, e1, _⟩ := atI_some k i (by omega)
      obtain ⟨w, e2, _⟩ := atI_some l i (by omega)
      simp [e1, e2, e__law_same_int]
    · simp
      omega
  · have h2 : ¬ k = l := fun e => h (by rw [e])
    have h3 : ¬ ((k.length : Int) = (l.length : Int)) := by omega
    simp [m__law_same, h3, h2]
end
end Rv

set_option Elab.async false
set_option linter.all false
set_option maxRecDepth 100000
set_option maxHeartbeats 4000000
namespace Rv
open PySem L2
theorem asc_pair : ∀ {l : List Int}, asc l = true → l.Pairwise (· < ·)
  | [], _ => by simp
  | [a], _ => by simp
  | a :: b :: l, h => by
    simp only [asc, List.tail_cons, List.zip_cons_cons, List.all_cons, Bool.and_eq_true, decide_eq_true_eq] at h
    have ih : (b :: l).Pairwise (· < ·) := asc_pair (by simp only [asc, List.tail_cons]; exact h.2)
    refine List.pairwise_cons.mpr ⟨fun v hv => ?_, ih⟩
    simp only [List.mem_cons] at hv
    rcases hv with rfl | hv
    · exact h.1
    · have := (List.pairwise_cons.mp ih).1 v hv
      omega
theorem chorded_mem {r : Int} {l : List Int} (h : chorded r l = true) {v : Int} (hv : v ∈ l) : 0 ≤ v ∧ v < r := by
  simp only [chorded, Bool.and_eq_true] at h
  have := List.all_eq_true.mp h.1 v hv
  simp only [toneB, Bool.and_eq_true, decide_eq_true_eq] at this
  omega
theorem chorded_asc {r : Int} {l : List Int} (h : chorded r l = true) : l.Pairwise (· < ·) := by
  simp only [chorded, Bool.and_eq_true] at h
  exact asc_pair h.2
/-- a row that is strictly ascending when sorted is the row of its members -/
theorem setI_sortI {l : List Int} (h : (sortI l).Pairwise (· < ·)) : setI l = sortI l := sorted_ext (setI_asc l) h fun v => by rw [mem_setI', mem_isort]
theorem insG_insI {a : Int} : ∀ {l : List Int}, a ∉ l → insG leI a l = insI a l
  | [], _ => rfl
  | b :: l, h => by
    simp only [List.mem_cons, not_or] at h
    simp only [insG, insI, leI, decide_eq_true_eq]
    by_cases h1 : a < b
    · rw [if_pos (by omega), if_pos h1]
    · rw [if_neg (by omega), if_neg h1, if_neg h.1, insG_insI h.2]
theorem sortI_setI : ∀ {l : List Int}, l.Nodup → sortI l = setI l
  | [], _ => rfl
  | a :: l, h => by
    have h' := List.nodup_cons.mp h
    show insG leI a (sortI l) = insI a (setI l)
    rw [sortI_setI h'.2, insG_insI]
    rw [mem_setI']
    exact h'.1
theorem mod_ne {x e r : Int} (h : 0 < e) (h2 : e < r) : (x + e) % r ≠ x % r := by
  intro q
  have h3 := Int.emod_add_mul_ediv (x + e) r
  have h4 := Int.emod_add_mul_ediv x r
  have h5 : r * ((x + e) / r - x / r) = e := by
    rw [Int.mul_sub]
    omega
  have h6 : (x + e) / r - x / r ≤ 0 ∨ 1 ≤ (x + e) / r - x / r := by omega
  rcases h6 with h6 | h6
  · have := Int.mul_le_mul_of_nonneg_left h6 (show 0 ≤ r by omega)
    omega
  · have := Int.mul_le_mul_of_nonneg_left h6 (show 0 ≤ r by omega)
    omega
section
variable {r a b : Int} (d : Dom r a b)
include d
theorem TT_rests (o : Bool) (x : Int) : TT r a b o x = rests r [x, x + (if o then b else a), x + a + b] := by
  obtain ⟨h1, h2, h3, h4, h5, h6, h7, h8⟩ := d
  have e : ∀ p q : Int, 1 ≤ p → 1 ≤ q → p + q < r → sortI [x % r, (x + p) % r, (x + p + q) % r] = setI [x % r, (x + p) % r, (x + p + q) % r] := by
    intro p q hp hq hpq
    refine sortI_setI ?_
    have n1 := mod_ne (x := x) (e := p) (r := r) (by omega) (by omega)
    have n2 := mod_ne (x := x) (e := p + q) (r := r) (by omega) (by omega)
    have n3 := mod_ne (x := x + p) (e := q) (r := r) (by omega) (by omega)
    rw [← Int.add_assoc] at n2
    simp only [List.nodup_cons, List.mem_cons, List.not_mem_nil, or_false, not_or, not_false_eq_true, List.nodup_nil, and_true]
    exact ⟨⟨fun e => n1 e.symm, fun e => n2 e.symm⟩, fun e => n3 e.symm⟩
  cases o
  · unfold TT chordG rests
    simpa using e a b h3 h4 h5
  · unfold TT chordG rests
    have := e b a h4 h3 (by omega)
    rw [show x + b + a = x + a + b by omega] at this
    simp only [if_true, List.map_cons, List.map_nil]
    rw [show x + b + a = x + a + b by omega]
    exact this
theorem TT_mod (o : Bool) (x : Int) : TT r a b o (x % r) = TT r a b o x := by
  rw [TT_rests d, TT_rests d]
  refine rests_ext fun v => ?_
  have e2 : (x % r + a + b) % r = (x + a + b) % r := by
    rw [Int.add_assoc, Int.add_assoc, Int.emod_add_emod]
  simp [e2]
/-- moved -/
theorem rests_raise (o : Bool) (x t : Int) : rests r ((TT r a b o x).map fun v => 1 * v + t) = TT r a b o ((x + t) % r) := by
  rw [TT_mod d, TT_rests d, TT_rests d, rests_map]
  congr 1
  simp only [List.map_cons, List.map_nil, List.cons.injEq, and_true]
  refine ⟨by omega, by omega, by omega⟩
theorem rests_turn (o : Bool) (x t : Int) : rests r ((TT r a b o x).map fun v => (r - 1) * v + t) = TT r a b (!o) ((t - x - a - b) % r) := by
  rw [TT_mod d, TT_rests d, TT_rests d, rests_map]
  refine rests_ext fun v => ?_
  have e : ∀ y : Int, ((r - 1) * y + t) % r = (t - y) % r := by
    intro y
    rw [show (r - 1) * y + t = (t - y) + r * y by rw [Int.sub_mul]; omega]
    simp
  simp only [List.map_cons, List.map_nil, e]
  rw [show t - (x + a + b) = t - x - a - b by omega, show t - x - a - b + a + b = t - x by omega]
  cases o
  · simp only [Bool.false_eq_true, if_false, Bool.not_false, if_true]
    rw [show t - (x + a) = t - x - a - b + b by omega]
    simp only [List.mem_cons, List.not_mem_nil, or_false]
    constructor
    · rintro (h | h | h) <;> simp [h]
    · rintro (h | h | h) <;> simp [h]
  · simp only [Bool.false_eq_true, if_false, Bool.not_true, if_true]
    rw [show t - (x + b) = t - x - a - b + a by omega]
    simp only [List.mem_cons, List.not_mem_nil, or_false]
    constructor
    · rintro (h | h | h) <;> simp [h]
    · rintro (h | h | h) <;> simp [h]
end
/-- the package's moved, and rests -/
theorem movedM_rests {r u s : Int} {l : List Int} (h : (l.map fun t => (u * t + s) % r).Nodup) : movedM r u s l = rests r (l.map fun t => u * t + s) := by
  unfold movedM rests
  rw [sortI_setI h, List.map_map]
  rfl
/-- the law's flip -/
def lawFlipM (r : Int) (l : List Int) (g : Int) : List Int := match l with
  | [x, y, z] => if (y - x) % r = g then rests r [x, y, x + y - z] else if (z - y) % r = g then rests r [y, z, y + z - x] else if (x - z) % r = g then rests r [z, x, z + x - y] else []
  | _ => []
theorem lawFlip_eq {r g : Int} {l : List Int} (h : chorded r l = true) (hf : flipOk r l g = true) (ha : (flipM r l g).Pairwise (· < ·)) : lawFlipM r l g = flipM r l g := by
  match l, h, hf, ha with
  | [x, y, z], h, hf, ha =>
    have mx := chorded_mem h (v := x) (by simp)
    have my := chorded_mem h (v := y) (by simp)
    have mz := chorded_mem h (v := z) (by simp)
    have hs := chorded_asc h
    simp only [List.pairwise_cons, List.mem_cons, List.not_mem_nil, or_false, forall_eq_or_imp, forall_eq] at hs
    have e1 : (y - x) % r = y - x := Int.emod_eq_of_lt (by omega) (by omega)
    have e2 : (z - y) % r = z - y := Int.emod_eq_of_lt (by omega) (by omega)
    have e3 : (x - z) % r = x + r - z := by
      rw [← Int.add_emod_right, Int.emod_eq_of_lt (by omega) (by omega)]
      omega
    have rs : ∀ p q w : Int, 0 ≤ p → p < r → 0 ≤ q → q < r → (sortI [p, q, w % r]).Pairwise (· < ·) → rests r [p, q, w] = sortI [p, q, w % r] := by
      intro p q w h1 h2 h3 h4 h5
      unfold rests
      simp only [List.map_cons, List.map_nil, Int.emod_eq_of_lt h1 h2, Int.emod_eq_of_lt h3 h4]
      exact setI_sortI h5
    simp only [flipOk, Bool.or_eq_true, beq_iff_eq] at hf
    unfold flipM at ha ⊢
    unfold lawFlipM
    simp only [e1, e2, e3] at ha ⊢
    by_cases c1 : y - x = g
    · simp only [c1, if_true] at ha ⊢
      exact rs _ _ _ mx.1 mx.2 my.1 my.2 ha
    · by_cases c2 : z - y = g
      · simp only [c1, c2, if_true, if_false] at ha ⊢
        exact rs _ _ _ my.1 my.2 mz.1 mz.2 ha
      · have c3 : x + r - z = g := by omega
        simp only [c1, c2, c3, if_true, if_false] at ha ⊢
        exact rs _ _ _ mz.1 mz.2 mx.1 mx.2 ha
section
variable (n : Nat) (st : List D)
theorem e__law_flip3 (r a b x y z : Int) (c : Nat) (hc : isSg c = true) (hr : 0 < r) : cfN GG (n + 2) "_law_flip" [.int r, .int a, .int b, tupZ [x, y, z], sgD c] st = some (tupZ (lawFlipM r [x, y, z] (szZ r a b c)), false, st) := by
  rw [c__law_flip]
  have key : ∀ (s : Str) (g : Int), (s = "a" ∧ g = a) ∨ (s = "b" ∧ g = b) ∨ (s = "c" ∧ g = r - a - b) → retOf (m__law_flip GG (cfN GG (n + 1)) [.val (.int r), .val (.int a), .val (.int b), .val (tupZ [x, y, z]), .val (.str s), .un, .un, .un, .un, .un] st) = some (tupZ (lawFlipM r [x, y, z] g), false, st) := by
    intro s g hs
    have e0 : xk_rng (xl_cons (xk_lit (.int 3)) xl_nil) [.val (.int r), .val (.int a), .val (.int b), .val (tupZ [x, y, z]), .val (.str s), .val (.int g), .un, .un, .un, .un] st = some (lstZ (rng0 3), true, [.val (.int r), .val (.int a), .val (.int b), .val (tupZ [x, y, z]), .val (.str s), .val (.int g), .un, .un, .un, .un], st) := rng1_ap rfl (by decide) (by decide)
    have e1 : rng0 3 = [0, 1, 2] := by decide
    have e2 : D.tup [] = tupZ [] := rfl
    have start : m__law_flip GG (cfN GG (n + 1)) [.val (.int r), .val (.int a), .val (.int b), .val (tupZ [x, y, z]), .val (.str s), .un, .un, .un, .un, .un] st = m__law_flip GG (cfN GG (n + 1)) [.val (.int r), .val (.int a), .val (.int b), .val (tupZ [x, y, z]), .val (.str s), .un, .un, .un, .un, .un] st := rfl
    unfold m__law_flip
    rw [xq_cons_ap]
    have s1 : xs_tset (xt_var 5) (xk_idx (xk_dic (xl_cons (xk_lit (.str "a")) (xl_cons (xk_var 1) (xl_cons (xk_lit (.str "b")) (xl_cons (xk_var 2) (xl_cons (xk_lit (.str "c")) (xl_cons (xk_bin .sub (xk_bin .sub (xk_var 0) (xk_var 1)) (xk_var 2)) xl_nil)))))) 6) (xk_var 4)) [.val (.int r), .val (.int a), .val (.int b), .val (tupZ [x, y, z]), .val (.str s), .un, .un, .un, .un, .un] st = some (.nx, [.val (.int r), .val (.int a), .val (.int b), .val (tupZ [x, y, z]), .val (.str s), .val (.int g), .un, .un, .un, .un], st) := by
      rcases hs with ⟨rfl, rfl⟩ | ⟨rfl, rfl⟩ | ⟨rfl, rfl⟩ <;> simp [mkDic, dPut, dLook]
    rw [s1]
    simp only [xq_cons_ap]
    rw [for_run e0 (itemsD_lstZ _), e1]
    by_cases c1 : (y - x) % r = g
    · simp [turns, atI, ixN, binD_modI _ _ hr, e__law_rests, hr, lawFlipM, c1]
    · by_cases c2 : (z - y) % r = g
      · simp [turns, atI, ixN, binD_modI _ _ hr, e__law_rests, hr, lawFlipM, c1, c2]
      · by_cases c3 : (x - z) % r = g
        · simp [turns, atI, ixN, binD_modI _ _ hr, e__law_rests, hr, lawFlipM, c1, c2, c3]
        · simp [turns, atI, ixN, binD_modI _ _ hr, e__law_rests, hr, lawFlipM, c1, c2, c3, e2]
  simp only [isSg, Bool.or_eq_true, beq_iff_eq] at hc
  rcases hc with (rfl | rfl) | rfl
  · exact key _ _ (.inl ⟨rfl, rfl⟩)
  · exact key _ _ (.inr (.inl ⟨rfl, rfl⟩))
  · exact key _ _ (.inr (.inr ⟨rfl, rfl⟩))
end
end Rv

set_option Elab.async false
set_option linter.all false
set_option maxRecDepth 100000
set_option maxHeartbeats 4000000
/-! The law's threes, flips behind words, pairs. -/
namespace Rv
open PySem L2
theorem TT_three (r a b : Int) (o : Bool) (x : Int) : ∃ p q w, TT r a b o x = [p, q, w] := by
  have h := TT_len r a b o x
  match hl : TT r a b o x, h with
  | [p, q, w], _ => exact ⟨p, q, w, rfl⟩
theorem inD_sign (c : Nat) (hc : isSg c = true) : inD (sgD c) (.str "abc") = some true := by
  simp only [isSg, Bool.or_eq_true, beq_iff_eq] at hc
  rcases hc with (rfl | rfl) | rfl <;> kernel_rfl
section
variable (n : Nat) (st : List D) {r a b : Int} (d : Dom r a b)
include d
theorem e__law_flip (o : Bool) {x : Int} (hx : 0 ≤ x ∧ x < r) {c : Nat} (hc : isSg c = true) : cfN GG (n + 2) "_law_flip" [.int r, .int a, .int b, tupZ (TT r a b o x), sgD c] st = some (tupZ (TT r a b (!o) (stepX a b o x c % r)), false, st) := by
  have hr : 0 < r := by have := d.r6; omega
  obtain ⟨f1, f2⟩ := TT_flip d o hx hc
  have hy : 0 ≤ stepX a b o x c % r ∧ stepX a b o x c % r < r := ⟨Int.emod_nonneg _ (by omega), Int.emod_lt_of_pos _ hr⟩
  have e := lawFlip_eq (TT_chorded d o hx) f1 (by rw [f2]; exact chorded_asc (TT_chorded d (!o) hy))
  rw [f2] at e
  obtain ⟨p, q, w, ht⟩ := TT_three r a b o x
  rw [ht] at e ⊢
  rw [e__law_flip3 _ _ _ _ _ _ _ _ _ hc hr, e]
theorem e_is_flip_word (w : List Nat) (hw : w.all isSg = true) (hl : w.length ≤ 30) : cfN GG (n + 2) "is_flip_word" [.str (wordS w)] st = some (.bl true, false, st) := by
  have hlen : (wordS w).length = w.length := by simp [wordS, Str.length]
  have e1 : cfN GG (n + 1) "is_text_of" [.str (wordS w), .str "abc"] st = some (.bl true, false, st) := by
    rw [c_is_text_of]
    simp [m_is_text_of]
    rw [comp_B [.val (.str (wordS w)), .val (.str "abc"), .un] w sgD (fun _ => true) (fun _ => true) (x := .str (wordS w)) (fl := false) (fe := false)]
    · simp
    · simp
    · show some (chars (wordS w)) = _
      rw [chars_word]
    · simp
    · simp
    · intro c hc _
      have hc' := List.all_eq_true.mp hw c hc
      simp [inD_sign c hc']
    · omega
  rw [c_is_flip_word]
  simp [m_is_flip_word, e1, lenD, hlen, show w.length ≤ 16777216 by omega]
  omega
theorem e_led (w : List Nat) (hw : w.all isSg = true) (hl : w.length ≤ 30) (o : Bool) (x : Int) (hx : 0 ≤ x ∧ x < r) :
    cfN GG (n + 7) "led" [.int r, .int a, .int b, tupZ (TT r a b o x), .str (wordS w)] st = some (tupZ (TT r a b (goX r a b w o x).1 (goX r a b w o x).2), false, st) := by
  rw [c_led]
  simp [m_led, e_check_threes _ _ _ _ _ d, e_check_three _ _ _ _ _ _ d (by rw [TT_len]; decide) (TT_chorded d o hx) (TT_mem d o hx), e_is_flip_word _ _ d w hw hl, e_led_by _ _ d w hw o x hx]
theorem e__law_moved1 (o : Bool) (x t : Int) : cfN GG (n + 2) "_law_moved" [.int r, tupZ (TT r a b o x), tupZ [1, t]] st = some (tupZ (TT r a b o ((x + t) % r)), false, st) := by
  rw [e__law_moved _ _ _ _ _ _ (by have := d.r6; omega) (by omega) (by rw [TT_len]; decide), rests_raise d]
theorem e__law_moved2 (o : Bool) (x t : Int) : cfN GG (n + 2) "_law_moved" [.int r, tupZ (TT r a b o x), tupZ [r - 1, t]] st = some (tupZ (TT r a b (!o) ((t - x - a - b) % r)), false, st) := by
  rw [e__law_moved _ _ _ _ _ _ (by have := d.r6; omega) (by have := d.r6; have := d.r12; omega) (by rw [TT_len]; decide), rests_turn d]
end
end Rv

set_option Elab.async false
set_option linter.all false
set_option maxRecDepth 100000
set_option maxHeartbeats 4000000
/-! The law's pairs and threes, what raises one to another. -/
namespace Rv
open PySem L2
def decode (r a b : Int) (l : List Int) : Bool × Int := match l with
  | [p, q, w] => if q - p = a ∧ w - q = b then (false, p) else if w - q = a ∧ p + r - w = b then (false, q) else if p + r - w = a ∧ q - p = b then (false, w)
    else if q - p = b ∧ w - q = a then (true, p) else if w - q = b ∧ p + r - w = a then (true, q) else (true, w)
  | _ => (false, 0)
def chk2 (r a b : Int) (o : Bool) (x : Int) : Bool := decode r a b (TT r a b o x) == (o, x)
theorem chk2_all : chkT chk2 = true := by decide +kernel
theorem TT_inj {r a b : Int} (d : Dom r a b) {o o' : Bool} {x x' : Int} (hx : 0 ≤ x ∧ x < r) (hx' : 0 ≤ x' ∧ x' < r) : TT r a b o x = TT r a b o' x' ↔ (o = o' ∧ x = x') := by
  constructor
  · intro h
    have h1 := chkT_of chk2_all d o hx
    have h2 := chkT_of chk2_all d o' hx'
    simp only [chk2, beq_iff_eq] at h1 h2
    rw [h, h2] at h1
    simp only [Prod.mk.injEq] at h1
    exact ⟨h1.1.symm, h1.2.symm⟩
  · rintro ⟨rfl, rfl⟩
    rfl
def chk3 : Bool := (rngI 3 13).all fun r => (rng0 r).all fun x => (rng0 r).all fun y => (rng0 r).filter (fun t => decide ((x + t) % r = y)) == [(y - x) % r]
theorem chk3_all : chk3 = true := by decide +kernel
theorem raise_one {r x y : Int} (h : 3 ≤ r ∧ r ≤ 12) (hx : 0 ≤ x ∧ x < r) (hy : 0 ≤ y ∧ y < r) : (rng0 r).filter (fun t => decide ((x + t) % r = y)) = [(y - x) % r] := by
  have := List.all_eq_true.mp (List.all_eq_true.mp (List.all_eq_true.mp chk3_all r (mem_rngI.mpr ⟨h.1, by omega⟩)) x (mem_rng0.mpr hx)) y (mem_rng0.mpr hy)
  simpa using this
section
variable (n : Nat) (st : List D)
def isPairB (r a b : Int) : Bool := decide (0 < a) && (decide (0 < b) && (decide (a + b < r) && decide (((dedupI [a, b, r - a - b]).length : Int) = 3)))
theorem e__law_is_pair (r a b : Int) : cfN GG (n + 1) "_law_is_pair" [.int r, .int a, .int b] st = some (.bl (isPairB r a b), false, st) := by
  rw [c__law_is_pair]
  simp [m__law_is_pair, lenSet_lstZ, isPairB]
def pairsM (r : Int) : List (List Int) := (rngI 1 r).foldl (fun s a => s ++ ((rngI 1 r).filter (isPairB r a)).map fun b => [a, b]) []
theorem e__law_pairs (r : Int) (hr : 6 ≤ r ∧ r ≤ 12) : cfN GG (n + 2) "_law_pairs" [.int r] st = some (lstT (pairsM r), true, st) := by
  have h1 : r = 6 ∨ r = 7 ∨ r = 8 ∨ r = 9 ∨ r = 10 ∨ r = 11 ∨ r = 12 := by omega
  rcases h1 with rfl | rfl | rfl | rfl | rfl | rfl | rfl <;> kernel_rfl
def pairsOk (r : Int) : Bool := decide ((pairsM r).length ≤ 100) && decide (0 < (pairsM r).length) && (pairsM r).all fun p => match p with
  | [a, b] => decide (1 ≤ a) && decide (1 ≤ b) && domB r a b
  | _ => false
theorem pairsM_ok (r : Int) (hr : 6 ≤ r ∧ r ≤ 12) : pairsOk r = true := by
  have h1 : r = 6 ∨ r = 7 ∨ r = 8 ∨ r = 9 ∨ r = 10 ∨ r = 11 ∨ r = 12 := by omega
  rcases h1 with rfl | rfl | rfl | rfl | rfl | rfl | rfl <;> decide +kernel
theorem pairs_dom {r : Int} (hr : 6 ≤ r ∧ r ≤ 12) {p : List Int} (hp : p ∈ pairsM r) : ∃ a b, p = [a, b] ∧ Dom r a b := by
  have h := pairsM_ok r hr
  simp only [pairsOk, Bool.and_eq_true] at h
  have := List.all_eq_true.mp h.2 p hp
  split at this
  · rename_i a b
    simp only [Bool.and_eq_true, decide_eq_true_eq, domB, bne_iff_ne, ne_eq] at this
    exact ⟨a, b, rfl, hr.1, hr.2, by omega, by omega, by omega, by omega, by omega, by omega⟩
  · cases this
theorem pairs_len {r : Int} (hr : 6 ≤ r ∧ r ≤ 12) : (pairsM r).length ≤ 100 ∧ 0 < (pairsM r).length := by
  have h := pairsM_ok r hr
  simp only [pairsOk, Bool.and_eq_true, decide_eq_true_eq] at h
  exact h.1
/-- the law's threes -/
def lawThreesM (r a b : Int) : List (List Int) := setL ((rng0 r).flatMap fun t => [TT r a b false t, TT r a b true t])
theorem mem_lawThrees {r a b : Int} {l : List Int} : l ∈ lawThreesM r a b ↔ ∃ o x, 0 ≤ x ∧ x < r ∧ l = TT r a b o x := by
  unfold lawThreesM
  rw [mem_setL, List.mem_flatMap]
  constructor
  · rintro ⟨t, ht, h⟩
    rw [mem_rng0] at ht
    simp only [List.mem_cons, List.not_mem_nil, or_false] at h
    rcases h with rfl | rfl
    · exact ⟨false, t, ht.1, ht.2, rfl⟩
    · exact ⟨true, t, ht.1, ht.2, rfl⟩
  · rintro ⟨o, x, h1, h2, rfl⟩
    exact ⟨x, mem_rng0.mpr ⟨h1, h2⟩, by cases o <;> simp⟩
theorem fold_flat {α β : Type} (f : α → List β) : ∀ (xs : List α) (s : List β), xs.foldl (fun s x => s ++ f x) s = s ++ xs.flatMap f
  | [], s => by simp
  | x :: xs, s => by simp [fold_flat f xs, List.flatMap_cons]
theorem e__law_threes {r a b : Int} (d : Dom r a b) : cfN GG (n + 2) "_law_threes" [.int r, .int a, .int b] st = some (lstT (lawThreesM r a b), true, st) := by
  have hr : 0 < r := by have := d.r6; omega
  rw [c__law_threes]
  have e0 : D.lst [] = lstT [] := rfl
  simp [m__law_threes, e0]
  rw [for_foldR (σ := (List (List Int)) × Sl) (rng0 r) D.int (fun s => [.val (.int r), .val (.int a), .val (.int b), .val (lstT s.1), s.2]) (fun s t => (s.1 ++ [TT r a b false t, TT r a b true t], .val (.int t))) (fun rest s => s.1.length + 2 * rest.length ≤ 24) ([], .un) (x := lstZ (rng0 r)) (fl := true)]
  · have key : ∀ (xs : List Int) (s : List (List Int)) (u : Sl), (xs.foldl (fun (s : (List (List Int)) × Sl) t => (s.1 ++ [TT r a b false t, TT r a b true t], Sl.val (.int t))) (s, u)).1 = s ++ xs.flatMap fun t => [TT r a b false t, TT r a b true t] := by
      intro xs
      induction xs with
      | nil => intro s u; simp
      | cons x xs ih => intro s u; rw [List.foldl_cons, ih]; simp [List.flatMap_cons]
    simp [key]
    rw [sortSet_lstT _ 3 ?_ ?_ (by decide) ?_]
    · simp [lawThreesM]
    · have : (0 : Int) ∈ rng0 r := mem_rng0.mpr ⟨by omega, hr⟩
      intro h
      have h2 := List.flatMap_eq_nil_iff.mp h 0 this
      simp at h2
    · simp
      have := d.r12
      omega
    · intro k hk
      obtain ⟨t, ht, h⟩ := List.mem_flatMap.mp hk
      rw [mem_rng0] at ht
      have : ∃ o, k = TT r a b o t := by
        simp only [List.mem_cons, List.not_mem_nil, or_false] at h
        rcases h with rfl | rfl
        · exact ⟨_, rfl⟩
        · exact ⟨_, rfl⟩
      obtain ⟨o, rfl⟩ := this
      refine ⟨TT_len _ _ _ _ _, fun m hm => ?_⟩
      have := chorded_mem (TT_chorded d o ht) hm
      have := d.r12
      omega
  · exact rng1_ap rfl (by omega) (by have := d.r12; omega)
  · simp
  · simp
    have := d.r12
    omega
  · intro t rest s hs
    simp at hs
    have e1 := TT_rests d false t
    have e2 := TT_rests d true t
    simp at e1 e2
    refine ⟨?_, by simp; omega⟩
    simp [e__law_rests, hr, ← e1, ← e2]
    rw [addT _ _ (by simp; omega)]
    simp
end
end Rv

set_option Elab.async false
set_option linter.all false
set_option maxRecDepth 100000
set_option maxHeartbeats 4000000
/-! Rows of rows, sorted. -/
namespace Rv
open PySem L2
theorem ltL_tri : ∀ a b : List Int, ltL a b = true ∨ a = b ∨ ltL b a = true
  | [], [] => .inr (.inl rfl)
  | [], _ :: _ => .inl rfl
  | _ :: _, [] => .inr (.inr rfl)
  | a :: r, b :: s => by
    simp only [ltL, Bool.or_eq_true, Bool.and_eq_true, decide_eq_true_eq, List.cons.injEq]
    by_cases h : a < b
    · exact .inl (.inl h)
    · by_cases h2 : b < a
      · exact .inr (.inr (.inl h2))
      · have e : a = b := by omega
        subst e
        rcases ltL_tri r s with q | q | q
        · exact .inl (.inr ⟨rfl, q⟩)
        · exact .inr (.inl ⟨rfl, q⟩)
        · exact .inr (.inr (.inr ⟨rfl, q⟩))
theorem ltL_trans {a b c : List Int} (h1 : ltL a b = true) (h2 : ltL b c = true) : ltL a c = true := by
  rcases ltL_neg a c b h1 with q | q
  · exact q
  · exact (ltL_as b c h2 q).elim
def AscT (l : List (List Int)) : Prop := l.Pairwise fun a b => ltL a b = true
theorem ascT_ext : ∀ {l k : List (List Int)}, AscT l → AscT k → (∀ v, v ∈ l ↔ v ∈ k) → l = k
  | [], [], _, _, _ => rfl
  | [], b :: k, _, _, h => by have := (h b).mpr (by simp); simp at this
  | a :: l, [], _, _, h => by have := (h a).mp (by simp); simp at this
  | a :: l, b :: k, hl, hk, h => by
    have hl' := List.pairwise_cons.mp hl
    have hk' := List.pairwise_cons.mp hk
    have e : a = b := by
      have h1 := (h a).mp (by simp)
      have h2 := (h b).mpr (by simp)
      simp only [List.mem_cons] at h1 h2
      rcases h1 with h1 | h1
      · exact h1
      · rcases h2 with h2 | h2
        · exact h2.symm
        · exact (ltL_as _ _ (hl'.1 b h2) (hk'.1 a h1)).elim
    subst e
    congr 1
    refine ascT_ext hl'.2 hk'.2 fun v => ⟨fun hv => ?_, fun hv => ?_⟩
    · have := (h v).mp (by simp [hv])
      simp only [List.mem_cons] at this
      rcases this with e | e
      · subst e
        have := hl'.1 v hv
        rw [ltL_irS] at this
        cases this
      · exact e
    · have := (h v).mpr (by simp [hv])
      simp only [List.mem_cons] at this
      rcases this with e | e
      · subst e
        have := hk'.1 v hv
        rw [ltL_irS] at this
        cases this
      · exact e
theorem insL_asc {i : List Int} : ∀ {l : List (List Int)}, AscT l → AscT (insL i l)
  | [], _ => by simp [insL, AscT]
  | j :: r, h => by
    have h' := List.pairwise_cons.mp h
    simp only [insL]
    split
    · rename_i hij
      refine List.pairwise_cons.mpr ⟨fun v hv => ?_, h⟩
      simp only [List.mem_cons] at hv
      rcases hv with rfl | hv
      · exact hij
      · exact ltL_trans hij (h'.1 v hv)
    · rename_i h1
      split
      · exact h
      · rename_i h2
        refine List.pairwise_cons.mpr ⟨fun v hv => ?_, insL_asc h'.2⟩
        rcases mem_insL.mp hv with rfl | hv
        · rcases ltL_tri v j with q | q | q
          · exact absurd q h1
          · exact absurd q h2
          · exact q
        · exact h'.1 v hv
theorem setL_asc : ∀ (l : List (List Int)), AscT (setL l)
  | [] => by simp [setL, AscT]
  | i :: r => insL_asc (setL_asc r)
theorem insT_asc {i : List Int} : ∀ {l : List (List Int)}, i ∉ l → AscT l → AscT (insG leT i l)
  | [], _, _ => by simp [insG, AscT]
  | j :: r, hn, h => by
    have h' := List.pairwise_cons.mp h
    simp only [List.mem_cons, not_or] at hn
    simp only [insG]
    split
    · rename_i hij
      have hij' : ltL i j = true := by
        rcases ltL_tri i j with q | q | q
        · exact q
        · exact absurd q hn.1
        · simp [leT, q] at hij
      refine List.pairwise_cons.mpr ⟨fun v hv => ?_, h⟩
      simp only [List.mem_cons] at hv
      rcases hv with rfl | hv
      · exact hij'
      · exact ltL_trans hij' (h'.1 v hv)
    · rename_i h1
      refine List.pairwise_cons.mpr ⟨fun v hv => ?_, insT_asc hn.2 h'.2⟩
      rcases mem_insG.mp hv with rfl | hv
      · simpa [leT] using h1
      · exact h'.1 v hv
theorem sortT_asc : ∀ {l : List (List Int)}, l.Nodup → AscT (sortT l)
  | [], _ => by simp [isort, AscT]
  | i :: r, h => by
    have h' := List.nodup_cons.mp h
    show AscT (insG leT i (isort leT r))
    exact insT_asc (fun q => h'.1 (mem_isort.mp q)) (sortT_asc h'.2)
theorem sortT_setL {l m : List (List Int)} (nd : l.Nodup) (h : ∀ v, v ∈ l ↔ v ∈ m) : sortT l = setL m :=
  ascT_ext (sortT_asc nd) (setL_asc m) fun v => by rw [mem_isort, mem_setL, h]
end Rv

set_option Elab.async false
set_option linter.all false
set_option maxRecDepth 100000
set_option maxHeartbeats 4000000
/-! Rounds of points (o, x). -/
namespace Rv
open PySem L2
abbrev Pt := Bool × Int
def PtOk (r : Int) (p : Pt) : Prop := 0 ≤ p.2 ∧ p.2 < r
def TP (r a b : Int) (p : Pt) : List Int := TT r a b p.1 p.2
def stP (r a b : Int) (p : Pt) (s : Nat) : Pt := (!p.1, stepX a b p.1 p.2 s % r)
theorem stP_ok {r a b : Int} (hr : 0 < r) (p : Pt) (s : Nat) : PtOk r (stP r a b p s) := ⟨Int.emod_nonneg _ (by omega), Int.emod_lt_of_pos _ hr⟩
theorem stP_inv {r a b : Int} {p : Pt} (h : PtOk r p) (s : Nat) : stP r a b (stP r a b p s) s = p := by
  obtain ⟨o, x⟩ := p
  obtain ⟨h1, h2⟩ := h
  simp only at h1 h2
  have hx : x % r = x := Int.emod_eq_of_lt h1 h2
  cases o <;> simp [stP, stepX, hx]
def Adj (r a b : Int) (p q : Pt) : Prop := ∃ s, isSg s = true ∧ p = stP r a b q s
theorem Adj.symm {r a b : Int} {p q : Pt} (h : Adj r a b p q) (hq : PtOk r q) : Adj r a b q p := by
  obtain ⟨s, hs, rfl⟩ := h
  exact ⟨s, hs, (stP_inv hq s).symm⟩
structure Round (r a b : Int) (ps : List Pt) : Prop where
  ok : ∀ p ∈ ps, PtOk r p
  len : (ps.length : Int) = 2 * r
  nd : ps.Nodup
  all : ∀ p, PtOk r p → p ∈ ps
  adj : ∀ (i : Nat) (p q : Pt), ps[i]? = some p → ps[if i = 0 then ps.length - 1 else i - 1]? = some q → Adj r a b p q
theorem Round.rotate {r a b : Int} {ps : List Pt} (h : Round r a b ps) (k : Nat) (hk : k ≤ ps.length) : Round r a b (ps.drop k ++ ps.take k) := by
  have hp : (ps.drop k ++ ps.take k).Perm ps := by
    have := List.perm_append_comm (l₁ := ps.drop k) (l₂ := ps.take k)
    rwa [List.take_append_drop] at this
  refine ⟨fun p hp' => h.ok p (hp.mem_iff.mp hp'), by rw [hp.length_eq]; exact h.len, hp.nodup_iff.mpr h.nd, fun p q => hp.mem_iff.mpr (h.all p q), fun i p q e1 e2 => ?_⟩
  rw [hp.length_eq] at e2
  have key : ∀ i, i < ps.length → (ps.drop k ++ ps.take k)[i]? = ps[if i < ps.length - k then k + i else i - (ps.length - k)]? := by
    intro i hi
    by_cases c : i < ps.length - k
    · rw [List.getElem?_append_left (by simpa using c), if_pos c, List.getElem?_drop]
    · rw [List.getElem?_append_right (by simp; omega), if_neg c, List.getElem?_take]
      simp
      omega
  have hi : i < ps.length := by
    have := (List.getElem?_eq_some_iff.mp e1).1
    rw [hp.length_eq] at this
    exact this
  rw [key i hi] at e1
  rw [key _ (by split <;> omega)] at e2
  refine h.adj _ p q e1 ?_
  rw [← e2]
  congr 1
  split <;> split <;> split <;> (try split) <;> omega
theorem Round.rev {r a b : Int} {ps : List Pt} (h : Round r a b ps) : Round r a b ps.reverse := by
  refine ⟨fun p hp' => h.ok p (List.mem_reverse.mp hp'), by rw [List.length_reverse]; exact h.len, (List.reverse_perm ps).nodup_iff.mpr h.nd, fun p q => List.mem_reverse.mpr (h.all p q), fun i p q e1 e2 => ?_⟩
  have hi : i < ps.length := by
    have := (List.getElem?_eq_some_iff.mp e1).1
    simpa using this
  rw [List.length_reverse] at e2
  rw [List.getElem?_reverse hi] at e1
  rw [List.getElem?_reverse (by split <;> omega)] at e2
  have hp := h.ok p (List.mem_of_getElem? e1)
  refine (h.adj _ q p e2 ?_).symm hp
  rw [← e1]
  congr 1
  split <;> split <;> omega
theorem Round.map {r a b : Int} {ps : List Pt} (h : Round r a b ps) (f g : Pt → Pt) (hf : ∀ p, PtOk r p → PtOk r (f p)) (hg : ∀ p, PtOk r p → PtOk r (g p) ∧ f (g p) = p) (hgf : ∀ p, PtOk r p → g (f p) = p)
    (ha : ∀ p q, PtOk r p → PtOk r q → Adj r a b p q → Adj r a b (f p) (f q)) : Round r a b (ps.map f) := by
  refine ⟨fun p hp => ?_, by rw [List.length_map]; exact h.len, ?_, fun p hp => ?_, fun i p q e1 e2 => ?_⟩
  · obtain ⟨q, hq, rfl⟩ := List.mem_map.mp hp
    exact hf q (h.ok q hq)
  · refine List.pairwise_map.mpr (h.nd.imp_of_mem fun {p q} hp hq hne e => hne ?_)
    rw [← hgf p (h.ok p hp), e, hgf q (h.ok q hq)]
  · exact List.mem_map.mpr ⟨g p, h.all _ (hg p hp).1, (hg p hp).2⟩
  · rw [List.length_map] at e2
    rw [List.getElem?_map, Option.map_eq_some_iff] at e1 e2
    obtain ⟨p', e1, rfl⟩ := e1
    obtain ⟨q', e2, rfl⟩ := e2
    exact ha _ _ (h.ok _ (List.mem_of_getElem? e1)) (h.ok _ (List.mem_of_getElem? e2)) (h.adj i p' q' e1 e2)
/-- raised and turned over points -/
def rais (r t : Int) (p : Pt) : Pt := (p.1, (p.2 + t) % r)
def turnP (r a b t : Int) (p : Pt) : Pt := (!p.1, (t - p.2 - a - b) % r)
theorem Round.rais {r a b : Int} (hr : 0 < r) {ps : List Pt} (h : Round r a b ps) (t : Int) : Round r a b (ps.map (rais r t)) := by
  refine h.map _ (Rv.rais r (-t)) (fun p _ => ⟨Int.emod_nonneg _ (by omega), Int.emod_lt_of_pos _ hr⟩) (fun p hp => ⟨⟨Int.emod_nonneg _ (by omega), Int.emod_lt_of_pos _ hr⟩, ?_⟩) (fun p hp => ?_) fun p q hp hq ⟨s, hs, e⟩ => ⟨s, hs, ?_⟩
  · obtain ⟨o, x⟩ := p
    have hx : x % r = x := Int.emod_eq_of_lt hp.1 hp.2
    simp [Rv.rais]
    rw [show x + -t + t = x by omega, hx]
  · obtain ⟨o, x⟩ := p
    have hx : x % r = x := Int.emod_eq_of_lt hp.1 hp.2
    simp [Rv.rais]
    rw [show x + t + -t = x by omega, hx]
  · obtain ⟨o, x⟩ := q
    subst e
    cases o <;> simp [stP, Rv.rais, stepX]
    · congr 1
      omega
    · rw [show x - kS a b s + t = x + t - kS a b s by omega]
theorem Round.turn {r a b : Int} (hr : 0 < r) {ps : List Pt} (h : Round r a b ps) (t : Int) : Round r a b (ps.map (turnP r a b t)) := by
  have inv : ∀ p, PtOk r p → turnP r a b t (turnP r a b t p) = p := by
    intro p hp
    obtain ⟨o, x⟩ := p
    have hx : x % r = x := Int.emod_eq_of_lt hp.1 hp.2
    simp only [turnP, Bool.not_not]
    congr 1
    rw [show t - (t - x - a - b) % r - a - b = (t - a - b) - (t - x - a - b) % r by omega, Int.sub_emod_emod, show t - a - b - (t - x - a - b) = x by omega, hx]
  have ok : ∀ p, PtOk r (turnP r a b t p) := fun p => ⟨Int.emod_nonneg _ (by omega), Int.emod_lt_of_pos _ hr⟩
  refine h.map _ (turnP r a b t) (fun p _ => ok p) (fun p hp => ⟨ok p, inv p hp⟩) inv fun p q hp hq ⟨s, hs, e⟩ => ⟨s, hs, ?_⟩
  obtain ⟨o, x⟩ := q
  subst e
  cases o <;> simp only [stP, turnP, stepX, Bool.not_true, Bool.not_false, if_true, if_false, Prod.mk.injEq, true_and, Bool.false_eq_true]
  · rw [Int.emod_sub_emod, show t - (x + kS a b s) % r - a - b = (t - a - b) - (x + kS a b s) % r by omega, Int.sub_emod_emod]
    congr 1
    omega
  · rw [Int.emod_add_emod, show t - (x - kS a b s) % r - a - b = (t - a - b) - (x - kS a b s) % r by omega, Int.sub_emod_emod]
    congr 1
    omega
end Rv

set_option Elab.async false
set_option linter.all false
set_option maxRecDepth 100000
set_option maxHeartbeats 4000000
/-! Two flips by turns: the closed form. -/
namespace Rv
open PySem L2
def sg (o : Bool) (z : Int) : Int := if o then -z else z
theorem stepX_sg (a b : Int) (o : Bool) (x : Int) (s : Nat) : stepX a b o x s = x + sg o (kS a b s) := by
  cases o <;> simp [stepX, sg]
  omega
theorem sg_not (o : Bool) (z : Int) : sg (!o) z = - sg o z := by cases o <;> simp [sg]
theorem sg_sub (o : Bool) (z w : Int) : sg o (z - w) = sg o z - sg o w := by
  cases o <;> simp [sg]
  omega
def seqP (r a b : Int) (s t : Nat) (p : Pt) : Nat → Pt
  | 0 => p
  | k + 1 => stP r a b (seqP r a b s t p k) (if k % 2 = 0 then s else t)
def stE (a b : Int) (s t : Nat) (o : Bool) : Int := sg o (kS a b s - kS a b t)
theorem seqP_two {r a b : Int} {s t : Nat} {o : Bool} {x : Int} (hx : 0 ≤ x ∧ x < r) : ∀ m : Nat, seqP r a b s t (o, x) (2 * m) = (o, (x + m * stE a b s t o) % r) ∧ seqP r a b s t (o, x) (2 * m + 1) = (!o, (x + sg o (kS a b s) + m * stE a b s t o) % r)
  | 0 => by
    simp only [seqP, Nat.mul_zero, Nat.zero_mod, if_true, stP, stepX_sg]
    simp [Int.emod_eq_of_lt hx.1 hx.2]
  | m + 1 => by
    obtain ⟨_, h2⟩ := seqP_two hx m
    have e1 : seqP r a b s t (o, x) (2 * (m + 1)) = (o, (x + ((m + 1 : Nat) : Int) * stE a b s t o) % r) := by
      show stP r a b (seqP r a b s t (o, x) (2 * m + 1)) (if (2 * m + 1) % 2 = 0 then s else t) = _
      rw [h2, if_neg (by omega)]
      simp only [stP, stepX_sg, Bool.not_not, Int.emod_add_emod, sg_not]
      congr 2
      unfold stE
      rw [sg_sub]
      push_cast
      rw [Int.add_mul]
      omega
    refine ⟨e1, ?_⟩
    show stP r a b (seqP r a b s t (o, x) (2 * (m + 1))) (if (2 * (m + 1)) % 2 = 0 then s else t) = _
    rw [e1, if_pos (by omega)]
    simp only [stP, stepX_sg, Int.emod_add_emod]
    congr 2
    omega
/-- the least number of turns -/
def ordF (r e : Int) : Nat → Nat → Nat
  | 0, k => k
  | n + 1, k => if ((k : Int) * e) % r = 0 then k else ordF r e n (k + 1)
def ord (r e : Int) : Nat := ordF r (e % r) 12 1
def ordB (r e : Int) (m : Nat) : Bool := decide (1 ≤ m) && (decide ((m : Int) ≤ r) && (decide (((m : Int) * e) % r = 0) && ((List.range m).all (fun k => k == 0 || decide (¬ ((k : Int) * e) % r = 0)) &&
  (decide (¬ (m : Int) = r) || ((List.range m).all (fun i => (List.range m).all fun j => i == j || decide (¬ ((i : Int) * e) % r = ((j : Int) * e) % r)) && (rng0 r).all fun y => (List.range m).any fun i => decide (((i : Int) * e) % r = y))))))
theorem ordB_all : ((rngI 6 13).all fun r => (rng0 r).all fun e => ordB r e (ordF r e 12 1)) = true := by decide +kernel
structure OrdOk (r E : Int) (m : Nat) : Prop where
  pos : 1 ≤ m
  le : (m : Int) ≤ r
  zero : ((m : Int) * E) % r = 0
  nz : ∀ k : Nat, 1 ≤ k → k < m → ¬ ((k : Int) * E) % r = 0
  inj : (m : Int) = r → ∀ i j : Nat, i < m → j < m → ((i : Int) * E) % r = ((j : Int) * E) % r → i = j
  sur : (m : Int) = r → ∀ y, 0 ≤ y → y < r → ∃ i : Nat, i < m ∧ ((i : Int) * E) % r = y
theorem ord_ok {r : Int} (h : 6 ≤ r ∧ r ≤ 12) (E : Int) : OrdOk r E (ord r E) := by
  have hr : 0 < r := by omega
  have := List.all_eq_true.mp (List.all_eq_true.mp ordB_all r (mem_rngI.mpr ⟨h.1, by omega⟩)) (E % r) (mem_rng0.mpr ⟨Int.emod_nonneg _ (by omega), Int.emod_lt_of_pos _ hr⟩)
  unfold ord
  generalize ordF r (E % r) 12 1 = m at this
  have em : ∀ k : Int, (k * (E % r)) % r = (k * E) % r := fun k => by rw [Int.mul_emod, Int.emod_emod_of_dvd _ (Int.dvd_refl r), ← Int.mul_emod]
  unfold ordB at this
  simp only [Bool.and_eq_true, Bool.or_eq_true, decide_eq_true_eq, List.all_eq_true, List.any_eq_true, List.mem_range, beq_iff_eq, em, mem_rng0] at this
  obtain ⟨h1, h2, h3, h4, h5⟩ := this
  refine ⟨h1, h2, h3, fun k hk hk2 => ?_, fun e i j hi hj hij => ?_, fun e y hy hy2 => ?_⟩
  · rcases h4 k hk2 with q | q
    · omega
    · exact q
  · rcases h5 with q | q
    · exact absurd e q
    · rcases q.1 i hi j hj with q | q
      · exact q
      · exact absurd hij q
  · rcases h5 with q | q
    · exact absurd e q
    · exact q.2 y ⟨hy, hy2⟩
theorem add_zero_mod {r x z : Int} (hx : 0 ≤ x ∧ x < r) : (x + z) % r = x ↔ z % r = 0 := by
  have hx' : x % r = x := Int.emod_eq_of_lt hx.1 hx.2
  constructor
  · intro h
    have : (x + z - x) % r = 0 := by rw [← Int.emod_sub_emod, h, Int.sub_self, Int.zero_emod]
    rwa [show x + z - x = z by omega] at this
  · intro h
    rw [← Int.add_emod_emod, h, Int.add_zero, hx']
theorem add_eq_mod {r x z w : Int} : (x + z) % r = (x + w) % r ↔ z % r = w % r := by
  constructor
  · intro h
    have h1 : (x + z - x) % r = (x + w - x) % r := by rw [← Int.emod_sub_emod, h, Int.emod_sub_emod]
    rwa [show x + z - x = z by omega, show x + w - x = w by omega] at h1
  · intro h
    rw [← Int.add_emod_emod, h, Int.add_emod_emod]
section
variable {r a b : Int} (hr : 6 ≤ r ∧ r ≤ 12) (s t : Nat) {p : Pt} (hp : PtOk r p)
include hr hp
theorem seqP_ok (k : Nat) : PtOk r (seqP r a b s t p k) := by
  cases k with
  | zero => exact hp
  | succ k => exact stP_ok (by omega) _ _
theorem seqP_back : seqP r a b s t p (2 * ord r (stE a b s t p.1)) = p := by
  obtain ⟨o, x⟩ := p
  rw [(seqP_two hp _).1, (add_zero_mod hp).mpr (ord_ok hr _).zero]
theorem seqP_ne (k : Nat) (h1 : 1 ≤ k) (h2 : k < 2 * ord r (stE a b s t p.1)) : seqP r a b s t p k ≠ p := by
  obtain ⟨o, x⟩ := p
  rcases Nat.mod_two_eq_zero_or_one k with h | h
  · obtain ⟨m, rfl⟩ : ∃ m, k = 2 * m := ⟨k / 2, by omega⟩
    rw [(seqP_two hp _).1]
    intro e
    have e2 := (add_zero_mod hp).mp (congrArg Prod.snd e)
    exact (ord_ok hr _).nz m (by omega) (by simp only at h2; omega) e2
  · obtain ⟨m, rfl⟩ : ∃ m, k = 2 * m + 1 := ⟨k / 2, by omega⟩
    rw [(seqP_two hp _).2]
    intro e
    have e2 := congrArg Prod.fst e
    simp only at e2
    cases o <;> cases e2
def rndL (r a b : Int) (s t : Nat) (p : Pt) : List Pt := (List.range (2 * ord r (stE a b s t p.1))).map (seqP r a b s t p)
theorem rnd_round (hs : isSg s = true) (ht : isSg t = true) (hf : (ord r (stE a b s t p.1) : Int) = r) : Round r a b (rndL r a b s t p) := by
  have hO := ord_ok hr (stE a b s t p.1)
  have hlen : (rndL r a b s t p).length = 2 * ord r (stE a b s t p.1) := by simp [rndL]
  refine ⟨fun q hq => ?_, by rw [hlen]; omega, ?_, fun q hq => ?_, fun i q q' e1 e2 => ?_⟩
  · obtain ⟨k, _, rfl⟩ := List.mem_map.mp hq
    exact seqP_ok hr s t hp k
  · refine List.pairwise_map.mpr ((List.nodup_range).imp_of_mem fun {i j} hi hj hne e => hne ?_)
    rw [List.mem_range] at hi hj
    obtain ⟨o, x⟩ := p
    simp only at hi hj hf hO
    rcases Nat.mod_two_eq_zero_or_one i with h | h <;> rcases Nat.mod_two_eq_zero_or_one j with h' | h'
    · obtain ⟨m, rfl⟩ : ∃ m, i = 2 * m := ⟨i / 2, by omega⟩
      obtain ⟨m', rfl⟩ : ∃ m, j = 2 * m := ⟨j / 2, by omega⟩
      rw [(seqP_two hp _).1, (seqP_two hp _).1] at e
      have := hO.inj hf m m' (by omega) (by omega) (add_eq_mod.mp (congrArg Prod.snd e))
      omega
    · obtain ⟨m, rfl⟩ : ∃ m, i = 2 * m := ⟨i / 2, by omega⟩
      obtain ⟨m', rfl⟩ : ∃ m, j = 2 * m + 1 := ⟨j / 2, by omega⟩
      rw [(seqP_two hp _).1, (seqP_two hp _).2] at e
      have := congrArg Prod.fst e
      cases o <;> cases this
    · obtain ⟨m, rfl⟩ : ∃ m, i = 2 * m + 1 := ⟨i / 2, by omega⟩
      obtain ⟨m', rfl⟩ : ∃ m, j = 2 * m := ⟨j / 2, by omega⟩
      rw [(seqP_two hp _).2, (seqP_two hp _).1] at e
      have := congrArg Prod.fst e
      cases o <;> cases this
    · obtain ⟨m, rfl⟩ : ∃ m, i = 2 * m + 1 := ⟨i / 2, by omega⟩
      obtain ⟨m', rfl⟩ : ∃ m, j = 2 * m + 1 := ⟨j / 2, by omega⟩
      rw [(seqP_two hp _).2, (seqP_two hp _).2] at e
      have := hO.inj hf m m' (by omega) (by omega) (add_eq_mod.mp (congrArg Prod.snd e))
      omega
  · obtain ⟨o', y⟩ := q
    obtain ⟨o, x⟩ := p
    simp only at hf hO
    have hrp : 0 < r := by omega
    have hy : y % r = y := Int.emod_eq_of_lt hq.1 hq.2
    refine List.mem_map.mpr ?_
    by_cases ho : o' = o
    · subst ho
      obtain ⟨m, hm, e⟩ := hO.sur hf ((y - x) % r) (Int.emod_nonneg _ (by omega)) (Int.emod_lt_of_pos _ hrp)
      refine ⟨2 * m, List.mem_range.mpr (by simp only; omega), ?_⟩
      rw [(seqP_two hp _).1]
      congr 1
      rw [← Int.add_emod_emod, e, Int.add_emod_emod, show x + (y - x) = y by omega, hy]
    · have ho' : o' = !o := by cases o <;> cases o' <;> simp at ho ⊢
      subst ho'
      obtain ⟨m, hm, e⟩ := hO.sur hf ((y - (x + sg o (kS a b s))) % r) (Int.emod_nonneg _ (by omega)) (Int.emod_lt_of_pos _ hrp)
      refine ⟨2 * m + 1, List.mem_range.mpr (by simp only; omega), ?_⟩
      rw [(seqP_two hp _).2]
      congr 1
      rw [← Int.add_emod_emod, e, Int.add_emod_emod, show x + sg o (kS a b s) + (y - (x + sg o (kS a b s))) = y by omega, hy]
  · rw [hlen] at e2
    have hi : i < 2 * ord r (stE a b s t p.1) := by
      have := (List.getElem?_eq_some_iff.mp e1).1
      rwa [hlen] at this
    have get : ∀ k, k < 2 * ord r (stE a b s t p.1) → (rndL r a b s t p)[k]? = some (seqP r a b s t p k) := by
      intro k hk
      simp [rndL, hk]
    have h1 := hO.pos
    rw [get i hi] at e1
    rw [get _ (by split <;> omega)] at e2
    cases e1
    cases e2
    split
    · rename_i h0
      subst h0
      have hb := seqP_back (a := a) (b := b) hr s t hp
      obtain ⟨k, hk⟩ : ∃ k, 2 * ord r (stE a b s t p.1) = k + 1 := ⟨2 * ord r (stE a b s t p.1) - 1, by omega⟩
      rw [hk] at hb ⊢
      refine ⟨if k % 2 = 0 then s else t, by split <;> assumption, ?_⟩
      exact hb.symm
    · rename_i h0
      obtain ⟨k, rfl⟩ : ∃ k, i = k + 1 := ⟨i - 1, by omega⟩
      exact ⟨if k % 2 = 0 then s else t, by split <;> assumption, rfl⟩
end
end Rv

set_option Elab.async false
set_option linter.all false
set_option maxRecDepth 100000
set_option maxHeartbeats 4000000
/-! Draws. -/
namespace Rv
open PySem L2
/-- a pot stands at h -/
def PotAt (st : List D) (h : Nat) : Prop := ∃ p q k : Int, st[h]? = some (lstZ [p, q, k]) ∧ 0 ≤ q ∧ q < 2147483563
/-- only the pot at h has changed -/
def PotStep (h : Nat) (st st' : List D) : Prop := PotAt st' h ∧ st'.length = st.length
theorem PotStep.refl {h : Nat} {st : List D} (p : PotAt st h) : PotStep h st st := ⟨p, rfl⟩
theorem PotStep.trans {h : Nat} {st st' st2 : List D} (p : PotStep h st st') (q : PotStep h st' st2) : PotStep h st st2 := ⟨q.1, q.2.trans p.2⟩
theorem cMul_r {i j : Int} (h : -1000000 ≤ j ∧ j ≤ 1000000) : cMul i j = true := by
  have := cMul_l (j := i) h.1 h.2
  unfold cMul at this ⊢
  rw [Bool.or_comm]
  exact this
theorem binD_mulR (i j : Int) (h : -1000000 ≤ j ∧ j ≤ 1000000) : binD .mul (.int i) (.int j) = some (.int (i * j), false) := by
  simp only [binD]
  rw [if_pos (cMul_r h)]
theorem binD_fdivI (i j : Int) (h : 0 < j) (h2 : j < 1073741824) : binD .fdiv (.int i) (.int j) = some (.int (i / j), false) := by
  simp only [binD]
  rw [if_pos ⟨h, h2⟩]
@[simp] theorem putD_lstZ (l : List Int) (i : Int) (v : Int) : putD (lstZ l) (.int i) (.int v) = if 0 ≤ i ∧ i < l.length then some (lstZ (l.set i.toNat v)) else if i < 0 ∧ -(l.length : Int) ≤ i then some (lstZ (l.set (i + l.length).toNat v)) else none := by
  unfold lstZ putD
  simp only [List.length_map, List.map_set]
theorem len_insL (i : List Int) : ∀ l : List (List Int), (insL i l).length ≤ l.length + 1
  | [] => by simp [insL]
  | j :: r => by
    unfold insL
    split
    · simp
    · split
      · simp
      · have := len_insL i r
        simp
        omega
theorem len_setL : ∀ l : List (List Int), (setL l).length ≤ l.length
  | [] => by simp [setL]
  | i :: r => by
    have h1 := len_insL i (setL r)
    have h2 := len_setL r
    show (insL i (setL r)).length ≤ _
    simp
    omega
section
variable (n : Nat) (st : List D)
theorem e__law_draw (h : Nat) (m : Int) (hm : 0 < m ∧ m < 1073741824) (hp : PotAt st h) : ∃ k st', cfN GG (n + 1) "_law_draw" [.ref h, .int m] st = some (.int k, false, st') ∧ 0 ≤ k ∧ k < m ∧ PotStep h st st' := by
  obtain ⟨p, q, k, e, h1, h2⟩ := hp
  have hlt : h < st.length := by
    obtain ⟨w, _⟩ := List.getElem?_eq_some_iff.mp e
    exact w
  have eS : ∀ X : D, (st.set h X)[h]? = some X := fun X => by simp [hlt]
  by_cases c : 0 < p
  · refine ⟨p % m, st.set h (lstZ [p / m, q, k]), ?_, Int.emod_nonneg _ (by omega), Int.emod_lt_of_pos _ hm.1, ⟨p / m, q, k, by simp [hlt], h1, h2⟩, by simp⟩
    rw [c__law_draw]
    simp [m__law_draw, slotD, ownD, setOwn, e, eS, atI, ixN, c, hm]
  · refine ⟨((q * (q % 10007 + 20011) + 60013 * (k + 1) + 61) % 2147483563 / 97) % m, st.set h (lstZ [p, (q * (q % 10007 + 20011) + 60013 * (k + 1) + 61) % 2147483563, k + 1]), ?_, Int.emod_nonneg _ (by omega), Int.emod_lt_of_pos _ hm.1, ⟨p, (q * (q % 10007 + 20011) + 60013 * (k + 1) + 61) % 2147483563, k + 1, by simp [hlt], Int.emod_nonneg _ (by decide), Int.emod_lt_of_pos _ (by decide)⟩, by simp⟩
    rw [c__law_draw]
    have b1 := binD_mulR q (q % 10007 + 20011) (by have := Int.emod_nonneg q (show (10007 : Int) ≠ 0 by decide); have := Int.emod_lt_of_pos q (show (0 : Int) < 10007 by decide); omega)
    simp [m__law_draw, slotD, ownD, setOwn, e, eS, List.set_set, atI, ixN, c, hm, b1, binD_mulI 60013 _ (by decide), binD_modI _ _ hm.1, binD_modI _ 10007 (by decide), binD_modI _ 2147483563 (by decide), binD_fdivI _ 97 (by decide) (by decide)]
theorem e__law_pickD (h : Nat) (c : D) (len : Nat) (f : Nat → D) (hl : lenD c = some (len : Int)) (hx : ∀ i : Nat, i < len → idxD c (.int (i : Int)) = some (f i)) (hlen : 0 < len ∧ len < 100000) (hp : PotAt st h) :
    ∃ i st', cfN GG (n + 2) "_law_pick" [.ref h, c] st = some (f i, false, st') ∧ i < len ∧ PotStep h st st' := by
  obtain ⟨k, st', e, h1, h2, hs⟩ := e__law_draw n st h (len : Int) ⟨by omega, by omega⟩ hp
  refine ⟨k.toNat, st', ?_, by omega, hs⟩
  rw [c__law_pick]
  have e2 := hx k.toNat (by omega)
  rw [show ((k.toNat : Nat) : Int) = k by omega] at e2
  simp [m__law_pick, hl, e, e2]
theorem e__law_pickT (h : Nat) (l : List (List Int)) (hl : 0 < l.length ∧ l.length < 100000) (hp : PotAt st h) :
    ∃ k st', cfN GG (n + 2) "_law_pick" [.ref h, lstT l] st = some (tupZ k, false, st') ∧ k ∈ l ∧ PotStep h st st' := by
  obtain ⟨i, st', e, hi, hs⟩ := e__law_pickD n st h (lstT l) l.length (fun i => tupZ (l.getD i [])) (by simp) (fun i hi => by
    have hi2 : i < l.length := hi
    simp [atI, ixN, hi, hi2]) hl hp
  exact ⟨_, st', e, by simp [List.getD_eq_getElem?_getD, hi], hs⟩
theorem e__law_some (h : Nat) (hp : PotAt st h) : ∃ r a b o x st', cfN GG (n + 3) "_law_some" [.ref h] st = some (.tup [.int r, .int a, .int b, tupZ (TT r a b o x)], false, st') ∧ Dom r a b ∧ 0 ≤ x ∧ x < r ∧ PotStep h st st' := by
  obtain ⟨k, st1, e1, h1, h2, s1⟩ := e__law_draw (n + 1) st h 7 (by decide) hp
  have hr : 6 ≤ 6 + k ∧ 6 + k ≤ 12 := by omega
  obtain ⟨pr, st2, e2, hpr, s2⟩ := e__law_pickT n st1 h (pairsM (6 + k)) (by have := pairs_len hr; omega) s1.1
  obtain ⟨a, b, rfl, d⟩ := pairs_dom hr hpr
  have hlen : 0 < (lawThreesM (6 + k) a b).length ∧ (lawThreesM (6 + k) a b).length < 100000 := by
    refine ⟨List.length_pos_of_mem (mem_lawThrees.mpr ⟨false, 0, by omega, by omega, rfl⟩), ?_⟩
    have := len_setL ((rng0 (6 + k)).flatMap fun t => [TT (6 + k) a b false t, TT (6 + k) a b true t])
    simp at this
    unfold lawThreesM
    omega
  obtain ⟨c, st3, e3, hc, s3⟩ := e__law_pickT n st2 h (lawThreesM (6 + k) a b) hlen s2.1
  obtain ⟨o, x, hx1, hx2, rfl⟩ := mem_lawThrees.mp hc
  refine ⟨6 + k, a, b, o, x, st3, ?_, d, hx1, hx2, (s1.trans s2).trans s3⟩
  rw [c__law_some]
  simp [m__law_some, e1, e2, e3, e__law_pairs _ _ _ hr, e__law_threes _ _ d]
theorem snoc_at (st : List D) (x : D) : (st ++ [x])[st.length]? = some x := by simp
def potTail : RS := xq_cons (xs_for_ (xt_var 4) (xk_it (xk_bin .add (xk_slc (xk_var 0) (xk_omit) (xk_lit (.int 7)) true false) (xk_lst (xl_cons (xk_var 2) xl_nil)))) (xq_cons (xs_tset (xt_var 3) (xk_bin .mod (xk_blt .int (xl_cons (xk_bin .add (xk_bin .add (xk_bin .mul (xk_var 3) (xk_lit (.int 69621))) (xk_bin .mod (xk_blt .int (xl_cons (xk_var 4) xl_nil)) (xk_lit (.int 2147483563)))) (xk_lit (.int 23))) xl_nil)) (xk_lit (.int 2147483563)))) xq_nil)) (xq_cons (xs_ret (xk_newH (xl_cons (xk_ife (xk_bop false (xb_cons false (xk_cmp .lt (xk_var 2) (xk_lit (.int 0))) (xb_one (xk_cmp .ge (xk_var 2) (xk_bin .pow (xk_lit (.int 10)) (xk_lit (.int 18))))))) (xk_bin .mod (xk_blt .int (xl_cons (xk_blt .abs (xl_cons (xk_var 2) xl_nil)) xl_nil)) (xk_bin .pow (xk_lit (.int 10)) (xk_lit (.int 64)))) (xk_lit (.int 0))) (xl_cons (xk_var 3) (xl_cons (xk_lit (.int 0)) xl_nil))))) xq_nil)
theorem pot_fold : ∀ l : List Int, l ≠ [] → ∀ s : Int × Sl, 0 ≤ (l.foldl (fun (s : Int × Sl) (e : Int) => ((s.1 * 69621 + e % 2147483563 + 23) % 2147483563, Sl.val (.int e))) s).1 ∧ (l.foldl (fun (s : Int × Sl) (e : Int) => ((s.1 * 69621 + e % 2147483563 + 23) % 2147483563, Sl.val (.int e))) s).1 < 2147483563 := by
  intro l
  induction l with
  | nil => intro h; exact absurd rfl h
  | cons e l ih =>
    intro _ s
    rw [List.foldl_cons]
    by_cases hl : l = []
    · subst hl
      exact ⟨Int.emod_nonneg _ (by decide), Int.emod_lt_of_pos _ (by decide)⟩
    · exact ih hl _
theorem pot_tail (ns : List Int) (t v s0 : Int) : ∃ st', retOf (potTail [.val (lstZ ns), .val (.int t), .val (.int v), .val (.int s0), .un] st) = some (.ref st.length, false, st') ∧ PotAt st' st.length ∧ st'.length = st.length + 1 := by
  have c7 : cutX ns none (some 7) = ns.take 7 := cutX_to ns 7
  have p18 : binD .pow (.int 10) (.int 18) = some (.int 1000000000000000000, false) := by rfl
  have p64 : binD .pow (.int 10) (.int 64) = some (.int 10000000000000000000000000000000000000000000000000000000000000000, false) := by rfl
  have add7 : binD .add (lstZ (ns.take 7)) (lstZ [v]) = some (lstZ (ns.take 7 ++ [v]), true) := addZ _ _ (by simp; omega)
  obtain ⟨f1, f2⟩ := pot_fold (ns.take 7 ++ [v]) (by simp) (s0, .un)
  unfold potTail
  rw [xq_cons_ap]
  rw [for_fold (σ := Int × Sl) (ns.take 7 ++ [v]) D.int (fun s => [.val (lstZ ns), .val (.int t), .val (.int v), .val (.int s.1), s.2]) (fun s e => ((s.1 * 69621 + e % 2147483563 + 23) % 2147483563, .val (.int e))) (fun _ => True) (s0, .un) (x := lstZ (ns.take 7 ++ [v])) (fl := true)]
  · generalize (ns.take 7 ++ [v]).foldl (fun (s : Int × Sl) (e : Int) => ((s.1 * 69621 + e % 2147483563 + 23) % 2147483563, Sl.val (.int e))) (s0, .un) = q at f1 f2
    by_cases c1 : v < 0
    · simp [c1, binD_modI _ 10000000000000000000000000000000000000000000000000000000000000000 (by decide), p64]
      exact ⟨_, _, _, snoc_at st _, f1, f2⟩
    · by_cases c2 : 1000000000000000000 ≤ v
      · simp [c1, c2, binD_modI _ 10000000000000000000000000000000000000000000000000000000000000000 (by decide), p64, p18]
        exact ⟨_, _, _, snoc_at st _, f1, f2⟩
      · simp [c1, c2, p18]
        exact ⟨_, _, _, snoc_at st _, f1, f2⟩
  · simp [c7, add7]
  · simp
  · trivial
  · intro e _ s _
    refine ⟨?_, trivial⟩
    simp [binD_mulR _ 69621 (by decide), binD_modI _ 2147483563 (by decide)]
theorem e__law_pot (ns : List Int) (t : Int) (ht : 0 ≤ t ∧ t ≤ 1000) : ∃ st', cfN GG (n + 1) "_law_pot" [lstZ ns, .int t] st = some (.ref st.length, false, st') ∧ PotAt st' st.length ∧ st'.length = st.length + 1 := by
  rw [c__law_pot]
  have c3 : cutX ns none (some 3) = ns.take 3 := cutX_to ns 3
  have ed : m__law_pot GG (cfN GG n) = xq_cons _ (xq_cons _ potTail) := rfl
  rw [ed]
  by_cases c : t < ns.length
  · obtain ⟨v, ev, _⟩ := atI_some ns t ⟨ht.1, c⟩
    obtain ⟨st', h1, h2⟩ := pot_tail st ns t v (1001221 + 8789 * t)
    refine ⟨st', ?_, h2⟩
    rw [← h1]
    simp [c, ev, binD_mulI 8789 _ (by decide)]
  · obtain ⟨st', h1, h2⟩ := pot_tail st ns t (7907 * t + 37 + (ns.take 3).sum % 1000033) (1001221 + 8789 * t)
    refine ⟨st', ?_, h2⟩
    rw [← h1]
    simp [c, binD_mulI 8789 _ (by decide), binD_mulI 7907 _ (by decide), binD_modI _ 1000033 (by decide), c3]
end
end Rv

set_option Elab.async false
set_option linter.all false
set_option maxRecDepth 100000
set_option maxHeartbeats 4000000
/-! k78: rounds by two flips. -/
namespace Rv
open PySem L2
theorem while_run {c : Ss → St → Option (Bool × Ss × St)} {step : Ss → St → Option (Fl × Ss × St)} {st : St} (f : Nat → Ss) : ∀ (m k n : Nat), m < n → (∀ j, k ≤ j → j < k + m → c (f j) st = some (true, f j, st) ∧ step (f j) st = some (.nx, f (j + 1), st)) → c (f (k + m)) st = some (false, f (k + m), st) → whileL c step n (f k) st = some (.nx, f (k + m), st)
  | 0, k, n + 1, _, _, h => by
    simp only [Nat.add_zero] at h ⊢
    simp only [whileL, h]
  | m + 1, k, n + 1, hn, hs, h => by
    obtain ⟨h1, h2⟩ := hs k (Nat.le_refl _) (by omega)
    simp only [whileL, h1, h2]
    have := while_run f m (k + 1) n (by omega) (fun j a b => hs j (by omega) (by omega)) (by rw [show k + 1 + m = k + (m + 1) by omega]; exact h)
    rw [this, show k + 1 + m = k + (m + 1) by omega]
theorem while_ap {c : RE} {body : RS} {st : St} (f : Nat → Ss) (m k : Nat) (hm : m < 60) (hs : ∀ j, k ≤ j → j < k + m → (∃ fl, c (f j) st = some (.bl true, fl, f j, st)) ∧ body (f j) st = some (.nx, f (j + 1), st)) (h : ∃ fl, c (f (k + m)) st = some (.bl false, fl, f (k + m), st)) :
    xs_while_ GG c body (f k) st = some (.nx, f (k + m), st) := by
  rw [xs_while__ap]
  refine while_run f m k 60 hm (fun j h1 h2 => ?_) ?_
  · obtain ⟨⟨fl, e1⟩, e2⟩ := hs j h1 h2
    exact ⟨by simp only [e1], e2⟩
  · obtain ⟨fl, e1⟩ := h
    simp only [e1]
theorem threes_all {r a b : Int} {l : List Int} (h : l ∈ threesM r a b) : ∃ p, PtOk r p ∧ l = TP r a b p := by
  unfold threesM at h
  rw [mem_isort, List.mem_flatMap] at h
  obtain ⟨x, hx, h⟩ := h
  have hx' := mem_rng0.mp hx
  simp only [List.map_cons, List.map_nil, List.mem_cons, List.not_mem_nil, or_false, List.headD_cons, List.tail_cons] at h
  rcases h with rfl | rfl
  · exact ⟨(false, x), hx', by simp [TP, TT]⟩
  · exact ⟨(true, x), hx', by simp [TP, TT]⟩
theorem len_flat2 {α β : Type} (f g : α → β) : ∀ l : List α, (l.flatMap fun x => [f x, g x]).length = 2 * l.length
  | [] => rfl
  | a :: l => by
    rw [List.flatMap_cons, List.length_append, len_flat2 f g l]
    simp
    omega
theorem threes_len {r a b : Int} (hr : 0 < r) : ((threesM r a b).length : Int) = 2 * r := by
  unfold threesM
  rw [len_isort]
  have := len_flat2 (fun t => chordG r t a b) (fun t => chordG r t b a) (rng0 r)
  simp only [List.map_cons, List.map_nil, List.headD_cons, List.tail_cons]
  rw [this]
  simp
  omega
theorem threes_head {r a b : Int} (hr : 0 < r) : ∃ p k, PtOk r p ∧ threesM r a b = TP r a b p :: k := by
  have h := threes_len (a := a) (b := b) hr
  cases e : threesM r a b with
  | nil => rw [e] at h; simp at h; omega
  | cons l k =>
    obtain ⟨p, hp, rfl⟩ := threes_all (r := r) (a := a) (b := b) (l := l) (by rw [e]; simp)
    exact ⟨p, k, hp, rfl⟩
section
variable (n : Nat) (st : List D) {r a b : Int} (d : Dom r a b)
include d
theorem TP_inj {p q : Pt} (hp : PtOk r p) (hq : PtOk r q) : TP r a b p = TP r a b q ↔ p = q := by
  obtain ⟨o, x⟩ := p
  obtain ⟨o', x'⟩ := q
  unfold TP
  rw [TT_inj d hp hq, Prod.mk.injEq]
theorem e_flip {p : Pt} (hp : PtOk r p) {s : Nat} (hs : isSg s = true) : cfN GG (n + 2) "flipped_at" [.int r, tupZ (TP r a b p), .int (szZ r a b s)] st = some (tupZ (TP r a b (stP r a b p s)), false, st) := by
  obtain ⟨f1, f2⟩ := TT_flip d p.1 hp hs
  rw [e_flipped_at n st r (szZ r a b s) (TP r a b p) (by have := d.r6; omega) f1]
  unfold TP
  rw [f2]
  rfl
theorem e_round_by_two {s t : Nat} (hs : isSg s = true) (ht : isSg t = true) {p : Pt} (hp : PtOk r p) {k : List (List Int)} (hk : threesM r a b = TP r a b p :: k) :
    cfN GG (n + 3) "round_by_two" [.int r, .int a, .int b, .tup [sgD s, sgD t]] st = some (lstT ((rndL r a b s t p).map (TP r a b)), true, st) := by
  rw [c_round_by_two]
  simp [m_round_by_two, e_threes_by, d, hk, atI, ixN]
  rw [comp_Z [.val (.int r), .val (.int a), .val (.int b), .val (.tup [sgD s, sgD t]), .own (lstT [TP r a b p]), .un, .un, .un] [s, t] sgD (fun _ => true) (szZ r a b) (x := .tup [sgD s, sgD t]) (fl := false) (fe := false)]
  · have hr : 6 ≤ r ∧ r ≤ 12 := ⟨d.r6, d.r12⟩
    have hO := ord_ok hr (stE a b s t p.1)
    have h12 := hO.le
    have h1 := hO.pos
    generalize hL : 2 * ord r (stE a b s t p.1) = L
    have hw := while_ap (st := st) (c := xk_cmp Cop.ne (xk_var 7) (xk_idxO 4 (xk_lit (D.int 0))))
      (body := (xq_cons (xs_app 4 (xk_var 7)) (xq_cons (xs_tset (xt_var 7) (xk_call (cfN GG (n + 2)) (Str.ofString "flipped_at") (xl_cons (xk_var 0) (xl_cons (xk_var 7) (xl_cons (xk_idx (xk_var 5) (xk_bin Bop.sub (xk_bin Bop.mod (xk_lenO 4) (xk_lit (D.int 2))) (xk_lit (D.int 1)))) xl_nil))))) xq_nil)))
      (fun j => [.val (.int r), .val (.int a), .val (.int b), .val (.tup [sgD s, sgD t]), .own (lstT ((List.range j).map fun i => TP r a b (seqP r a b s t p i))), .val (lstZ [szZ r a b s, szZ r a b t]), .un, .val (tupZ (TP r a b (seqP r a b s t p j)))])
      (L - 1) 1 (by omega) (fun j hj1 hj2 => ?_) ?_
    · have e1 : lstT ((List.range 1).map fun i => TP r a b (seqP r a b s t p i)) = lstT [TP r a b p] := rfl
      have e2 : TP r a b (seqP r a b s t p 1) = TP r a b (stP r a b p s) := rfl
      simp only [e1, e2] at hw
      have e3 : 1 + (L - 1) = L := by omega
      simp [e_flip n st d hp hs, slotD, atI, ixN, hw, e3, rndL, hL, Function.comp_def]
    · obtain ⟨i, rfl⟩ : ∃ i, j = i + 1 := ⟨j - 1, by omega⟩
      refine ⟨⟨false, ?_⟩, ?_⟩
      · have hne := seqP_ne (a := a) (b := b) hr s t hp (i + 1) (by omega) (by omega)
        have hne' : ¬ TP r a b (seqP r a b s t p (i + 1)) = TP r a b p := fun e => hne ((TP_inj d (seqP_ok hr s t hp _) hp).mp e)
        have e0 : atI ((List.range (i + 1)).map fun i => TP r a b (seqP r a b s t p i)) 0 = some (TP r a b p) := by
          simp [atI, ixN, seqP]
        simp [slotD, e0, hne']
      · have hq := seqP_ok (a := a) (b := b) hr s t hp (i + 1)
        have e4 : (List.range (i + 1)).map (fun i => TP r a b (seqP r a b s t p i)) ++ [TP r a b (seqP r a b s t p (i + 1))] = (List.range (i + 1 + 1)).map fun i => TP r a b (seqP r a b s t p i) := by
          rw [List.range_succ (n := i + 1), List.map_append]
          rfl
        have hl : ((List.range (i + 1)).map fun i => TP r a b (seqP r a b s t p i)).length = i + 1 := by simp
        simp only [← e4]
        generalize (List.range (i + 1)).map (fun i => TP r a b (seqP r a b s t p i)) = F at hl
        have e7 : ∀ ds, lstD (lstT ds) = some (ds.map tupZ) := fun _ => rfl
        have e8 : i + 1 < 16777216 := by omega
        rcases Nat.mod_two_eq_zero_or_one (i + 1) with h | h
        · have e5 : (((i : Int) + 1 + 1) % 2 - 1) = 0 := by omega
          have e6 : seqP r a b s t p (i + 1 + 1) = stP r a b (seqP r a b s t p (i + 1)) s := by
            show stP r a b _ (if (i + 1) % 2 = 0 then s else t) = _
            rw [if_pos h]
          simp [slotD, ownD, setOwn, e7, e8, hl, e5, e6, atI, ixN, binD_modI, e_flip n st d hq hs]
        · have e5 : (((i : Int) + 1 + 1) % 2 - 1) = -1 := by omega
          have e6 : seqP r a b s t p (i + 1 + 1) = stP r a b (seqP r a b s t p (i + 1)) t := by
            show stP r a b _ (if (i + 1) % 2 = 0 then s else t) = _
            rw [if_neg (by omega)]
          simp [slotD, ownD, setOwn, e7, e8, hl, e5, e6, atI, ixN, binD_modI, e_flip n st d hq ht]
    · refine ⟨false, ?_⟩
      have e3 : 1 + (L - 1) = L := by omega
      have hb := seqP_back (a := a) (b := b) hr s t hp
      rw [hL] at hb
      obtain ⟨i, rfl⟩ : ∃ i, L = i + 1 := ⟨L - 1, by omega⟩
      have e0 : atI ((List.range (i + 1)).map fun i => TP r a b (seqP r a b s t p i)) 0 = some (TP r a b p) := by
        simp [atI, ixN, seqP]
      rw [e3]
      simp [slotD, e0, hb]
  all_goals simp [e_gap_told, hs, ht]
end
end Rv

set_option Elab.async false
set_option linter.all false
set_option maxRecDepth 100000
set_option maxHeartbeats 4000000
/-! k78: rounds of threes. -/
namespace Rv
open PySem L2
def pairsS : List (Nat × Nat) := [(97, 98), (97, 99), (98, 99)]
def fullB (r a b : Int) (o : Bool) (q : Nat × Nat) : Bool := decide ((ord r (stE a b q.1 q.2 o) : Int) = r)
def rndM (r a b : Int) (p : Pt) : Option (List Pt) := (pairsS.find? (fullB r a b p.1)).map fun q => rndL r a b q.1 q.2 p
/-- a tuple of tuples -/
def tupT (l : List (List Int)) : D := .tup (l.map tupZ)
@[simp] theorem itemsD_tupT (l : List (List Int)) : itemsD (tupT l) = some (l.map tupZ) := rfl
@[simp] theorem seqD_tupT (l : List (List Int)) : seqD (tupT l) = some (l.map tupZ) := rfl
@[simp] theorem lenD_tupT (l : List (List Int)) : lenD (tupT l) = some (l.length : Int) := by simp [tupT, lenD]
@[simp] theorem isCont_tupT (l : List (List Int)) : isCont (tupT l) = false := rfl
@[simp] theorem idxD_tupT (l : List (List Int)) (i : Int) : idxD (tupT l) (.int i) = (atI l i).map tupZ := by
  rw [← atI_mapX]
  rfl
@[simp] theorem isTy_tupT (t : Ty) (l : List (List Int)) : isTy t (tupT l) = some (match t with | .tuple => true | _ => false) := isTy_tup t _
@[simp] theorem blt_tuple_lstT' (l : List (List Int)) : bltD .tuple [lstT l] = some (tupT l, false) := rfl
@[simp] theorem blt_list_tupT (l : List (List Int)) : bltD .list [tupT l] = some (lstT l, true) := rfl
theorem blt_sorted_tupT (l : List (List Int)) (h : l.all (fun k => !k.isEmpty) = true) : bltD .sorted [tupT l] = some (lstT (sortT l), true) := blt_sorted_lstT l h
@[simp] theorem okD_lstT40 (l : List (List Int)) : okD 40 (lstT l) = true := okD_tups39 l
@[simp] theorem okD_tupT40 (l : List (List Int)) : okD 40 (tupT l) = true := okD_tups39 l
@[simp] theorem revD_tupT (l : List (List Int)) : revD (tupT l) = some (tupT l.reverse, false) := by simp [tupT, revD]
@[simp] theorem slcD_tupT (l : List (List Int)) (lo hi : Option Int) : slcD (tupT l) (some lo) (some hi) = some (tupT (cutX l lo hi), false) := by
  show some (D.tup (cutL (l.map tupZ) lo hi), false) = _
  rw [cutL_map]
  rfl
abbrev rndT (r a b : Int) (ps : List Pt) : D := tupT (ps.map (TP r a b))
def optT (r a b : Int) : Option (List Pt) → D
  | some ps => rndT r a b ps
  | none => .non
section
variable (n : Nat) (st : List D) {r a b : Int} (d : Dom r a b)
include d
theorem e_round_of_threes_by {p : Pt} (hp : PtOk r p) {k : List (List Int)} (hk : threesM r a b = TP r a b p :: k) :
    cfN GG (n + 4) "round_of_threes_by" [.int r, .int a, .int b] st = some (optT r a b (rndM r a b p), false, st) := by
  have hr : 0 < r := by have := d.r6; omega
  have h1 := e_round_by_two n st d (s := 97) (t := 98) rfl rfl hp hk
  have h2 := e_round_by_two n st d (s := 97) (t := 99) rfl rfl hp hk
  have h3 := e_round_by_two n st d (s := 98) (t := 99) rfl rfl hp hk
  have hl : ∀ s t, ((rndL r a b s t p).length : Int) = 2 * (ord r (stE a b s t p.1) : Int) := by
    intro s t
    simp [rndL]
  have hlt := threes_len (a := a) (b := b) hr
  have ht := e_threes_by (n + 1) st r a b d
  have e1 : sgD 97 = .str "a" := rfl
  have e2 : sgD 98 = .str "b" := rfl
  have e3 : sgD 99 = .str "c" := rfl
  rw [e1, e2] at h1
  rw [e1, e3] at h2
  rw [e2, e3] at h3
  rw [c_round_of_threes_by]
  have hd : ∀ q : Nat × Nat, fullB r a b p.1 q = decide ((2 * (ord r (stE a b q.1 q.2 p.1) : Int)) = 2 * r) := by
    intro q
    unfold fullB
    congr 1
    apply propext
    omega
  have hd' : ∀ s t : Nat, (fullB r a b p.1 (s, t) = true → 2 * (ord r (stE a b s t p.1) : Int) = 2 * r) ∧ (¬ fullB r a b p.1 (s, t) = true → ¬ 2 * (ord r (stE a b s t p.1) : Int) = 2 * r) := by
    intro s t
    rw [hd]
    simp
  by_cases c1 : fullB r a b p.1 (97, 98) = true
  · have c1' := (hd' _ _).1 c1
    simp [m_round_of_threes_by, xs_for__ap, turns, forS, -blt_tuple_lstT, h1, ht, hl, hlt, rndM, pairsS, c1, c1', optT]
  · have c1' := (hd' _ _).2 c1
    by_cases c2 : fullB r a b p.1 (97, 99) = true
    · have c2' := (hd' _ _).1 c2
      simp [m_round_of_threes_by, xs_for__ap, turns, forS, -blt_tuple_lstT, h1, h2, ht, hl, hlt, rndM, pairsS, c1, c1', c2, c2', optT]
    · have c2' := (hd' _ _).2 c2
      by_cases c3 : fullB r a b p.1 (98, 99) = true
      · have c3' := (hd' _ _).1 c3
        simp [m_round_of_threes_by, xs_for__ap, turns, forS, -blt_tuple_lstT, h1, h2, h3, ht, hl, hlt, rndM, pairsS, c1, c1', c2, c2', c3, c3', optT]
      · have c3' := (hd' _ _).2 c3
        simp [m_round_of_threes_by, xs_for__ap, turns, forS, -blt_tuple_lstT, h1, h2, h3, ht, hl, hlt, rndM, pairsS, c1, c1', c2, c2', c3, c3', optT]
end
end Rv

set_option Elab.async false
set_option linter.all false
set_option maxRecDepth 100000
set_option maxHeartbeats 4000000
/-! k78: the law's round. -/
namespace Rv
open PySem L2
theorem eqDs_tups : ∀ k l : List (List Int), eqDs (k.map tupZ) (l.map tupZ) = decide (k = l)
  | [], [] => rfl
  | [], _ :: _ => rfl
  | _ :: _, [] => rfl
  | a :: k, b :: l => by
    simp only [List.map_cons, eqDs, eqD_tupZ, eqDs_tups k l, List.cons.injEq]
    by_cases h : a = b <;> simp [h]
theorem eqD_lstT (k l : List (List Int)) : eqD (lstT k) (lstT l) = decide (k = l) := by
  unfold lstT
  simp only [eqD, eqDs_tups]
theorem atI_nat {α : Type} (l : List α) (i : Nat) : atI l (i : Int) = l[i]? := by
  unfold atI ixN
  rw [if_pos (by omega)]
  by_cases h : i < l.length
  · rw [if_pos (by omega)]
    simp
  · rw [if_neg (by omega), List.getElem?_eq_none (by omega)]
    rfl
theorem atI_prev {α : Type} (l : List α) (i : Nat) (h : i < l.length) : atI l ((i : Int) - 1) = l[if i = 0 then l.length - 1 else i - 1]? := by
  by_cases h0 : i = 0
  · subst h0
    unfold atI ixN
    rw [if_neg (by omega), if_pos (by omega), if_pos rfl]
    show l[_]? = _
    congr 1
    omega
  · rw [if_neg h0, show (i : Int) - 1 = ((i - 1 : Nat) : Int) by omega, atI_nat]
section
variable (n : Nat) (st : List D) {r a b : Int} (d : Dom r a b)
include d
theorem round_sorted {ps : List Pt} (h : Round r a b ps) : sortT (ps.map (TP r a b)) = lawThreesM r a b := by
  refine sortT_setL (List.pairwise_map.mpr (h.nd.imp_of_mem fun {p q} hp hq hne e => hne ((TP_inj d (h.ok p hp) (h.ok q hq)).mp e))) fun v => ?_
  have hm := @mem_lawThrees r a b v
  unfold lawThreesM at hm
  rw [mem_setL] at hm
  rw [hm, List.mem_map]
  constructor
  · rintro ⟨p, hp, rfl⟩
    have := h.ok p hp
    exact ⟨p.1, p.2, this.1, this.2, rfl⟩
  · rintro ⟨o, x, h1, h2, rfl⟩
    exact ⟨(o, x), h.all _ ⟨h1, h2⟩, rfl⟩
theorem e__law_is_round {ps : List Pt} (h : Round r a b ps) : cfN GG (n + 3) "_law_is_round" [.int r, .int a, .int b, rndT r a b ps] st = some (.bl true, false, st) := by
  have hl := h.len
  have h12 := d.r12
  have h6 := d.r6
  have hps : ps.length ≤ 1000 := by omega
  rw [c__law_is_round]
  have e4 : bltD .sorted [rndT r a b ps] = some (lstT (lawThreesM r a b), true) := by
    rw [← round_sorted d h]
    exact blt_sorted_tupT _ (by
      simp only [List.all_eq_true, List.mem_map]
      rintro _ ⟨p, _, rfl⟩
      have := TT_len r a b p.1 p.2
      unfold TP
      cases e : TT r a b p.1 p.2 with
      | nil => rw [e] at this; simp at this
      | cons => rfl)
  have hl2 : (ps.map (TP r a b)).length = ps.length := by simp
  have hne : ps.map (TP r a b) ≠ [] := by
    intro e
    rw [e] at hl2
    simp at hl2
    omega
  have hat : ∀ (i : Nat) (v : List Int), (ps.map (TP r a b))[i]? = some v → ∃ p, ps[i]? = some p ∧ v = TP r a b p := by
    intro i v e
    rw [List.getElem?_map, Option.map_eq_some_iff] at e
    obtain ⟨p, e, rfl⟩ := e
    exact ⟨p, e, rfl⟩
  unfold rndT at e4 ⊢
  generalize ps.map (TP r a b) = L at *
  have e2 : eqD (lstT L) (.lst []) = false := by
    cases L with
    | nil => exact absurd rfl hne
    | cons p k => rfl
  simp [m__law_is_round, e2]
  rw [comp_B [.val (.int r), .val (.int a), .val (.int b), .val (tupT L), .un, .un, .un] L tupZ (fun _ => true) (fun _ => true) (x := tupT L) (fl := false) (fe := false)]
  · simp [e4, e__law_threes, d, eqD_lstT]
    have e9 : (L.all fun _ => true) = true := by simp
    rw [e9]
    simp [e4, e__law_threes, d, eqD_lstT]
    rw [for_fold (σ := Sl) (List.range L.length) (fun i => D.int (i : Int)) (fun s => [.val (.int r), .val (.int a), .val (.int b), .val (tupT L), .un, s, .un]) (fun _ i => .val (.int (i : Int))) (fun _ => True) .un (x := lstZ (rng0 L.length)) (fl := true)]
    · simp
    · exact rng1_ap (f := false) (by simp) (by omega) (by omega)
    · simp [rng0]
    · trivial
    · intro i hi s _
      refine ⟨?_, trivial⟩
      rw [List.mem_range] at hi
      obtain ⟨v, hv⟩ : ∃ v, L[i]? = some v := ⟨_, List.getElem?_eq_getElem hi⟩
      obtain ⟨w, hw⟩ : ∃ w, L[if i = 0 then L.length - 1 else i - 1]? = some w := ⟨_, List.getElem?_eq_getElem (by split <;> omega)⟩
      obtain ⟨p, hp, rfl⟩ := hat _ _ hv
      obtain ⟨q, hq, rfl⟩ := hat _ _ hw
      rw [hl2] at hq
      obtain ⟨c, hc, rfl⟩ := h.adj i p q hp hq
      have hqo := h.ok q (List.mem_of_getElem? hq)
      have hw' := atI_prev L i hi
      rw [hw] at hw'
      simp [forS, atI_nat, hv]
      rw [comp_T [.val (.int r), .val (.int a), .val (.int b), .val (tupT L), .un, .val (.int (i : Int)), .un] [97, 98, 99] sgD (fun _ => true) (fun c => TP r a b (stP r a b q c)) (x := .str "abc") (fl := false) (fe := false)]
      · have hm : ([97, 98, 99].map fun c => TP r a b (stP r a b q c)).contains (TP r a b (stP r a b q c)) = true := by
          simp only [isSg, Bool.or_eq_true, beq_iff_eq] at hc
          rcases hc with (rfl | rfl) | rfl <;> simp
        simp only [filter_tt]
        rw [inD_lstT, hm]
        simp
      · simp
      · rfl
      · rfl
      · intro c _
        simp
      · intro c hc _
        have hc' : isSg c = true := by
          simp only [List.mem_cons, List.not_mem_nil, or_false] at hc
          rcases hc with rfl | rfl | rfl <;> rfl
        have := e__law_flip n st d q.1 hqo hc'
        rw [show TT r a b q.1 q.2 = TP r a b q from rfl, show TT r a b (!q.1) (stepX a b q.1 q.2 c % r) = TP r a b (stP r a b q c) from rfl] at this
        simp [hw', this]
      · simp
  all_goals simp [hps, hl2]
end
end Rv

set_option Elab.async false
set_option linter.all false
set_option maxRecDepth 100000
set_option maxHeartbeats 4000000
/-! k78: the law's right answers. -/
namespace Rv
open PySem L2
def commonL (r a b : Int) : List Int := (rngI 1 (r + 1)).filter fun k => decide (r % k = 0) && (decide (a % k = 0) && decide (b % k = 0))
def chkC (r a b : Int) : Bool := match atI (commonL r a b) (-1) with
  | some v => [false, true].all fun o => (pairsS.any (fullB r a b o)) == decide (v = 1)
  | none => false
theorem chkC_all : allDom chkC = true := by decide +kernel
section
variable {r a b : Int} (d : Dom r a b)
include d
theorem e__law_common : ∃ v, (∀ n st, cfN GG (n + 1) "_law_common" [.int r, .int a, .int b] st = some (.int v, false, st)) ∧ ∀ p : Pt, PtOk r p → if v = 1 then ∃ ps, rndM r a b p = some ps ∧ Round r a b ps else rndM r a b p = none := by
  have h := allDom_of chkC_all d
  have h12 := d.r12
  have h6 := d.r6
  unfold chkC at h
  cases e : atI (commonL r a b) (-1) with
  | none => rw [e] at h; cases h
  | some v =>
    rw [e] at h
    refine ⟨v, fun n st => ?_, fun p hp => ?_⟩
    · rw [c__law_common]
      simp [m__law_common]
      rw [comp_Z [.val (.int r), .val (.int a), .val (.int b), .un] (rngI 1 (r + 1)) D.int (fun k => decide (r % k = 0) && (decide (a % k = 0) && decide (b % k = 0))) id (x := lstZ (rngI 1 (r + 1))) (fl := true) (fe := false)]
      · simp
        unfold commonL at e
        rw [e]
        simp
      · exact rng2_ap (ρ' := [.val (.int r), .val (.int a), .val (.int b), .un]) (st' := st) (f := false) (g := false) (by simp) (by simp) (by omega) (by omega) (by omega) (by omega)
      · simp
      · simp
      · intro k hk
        have := mem_rngI.mp hk
        by_cases h1 : r % k = 0 <;> by_cases h2 : a % k = 0 <;> simp [binD_modI _ _ (show 0 < k by omega), h1, h2]
      · simp
      · simp
        omega
    · have hv := List.all_eq_true.mp h p.1 (by cases p.1 <;> simp)
      rw [beq_iff_eq] at hv
      unfold rndM
      split
      · rename_i h1
        rw [h1] at hv
        simp only [decide_true] at hv
        obtain ⟨q, hq⟩ := Option.isSome_iff_exists.mp (by rw [List.find?_isSome]; simpa using hv : (pairsS.find? (fullB r a b p.1)).isSome = true)
        have hf := List.find?_some hq
        have hm := List.mem_of_find?_eq_some hq
        refine ⟨_, by rw [hq]; rfl, rnd_round ⟨h6, h12⟩ q.1 q.2 hp ?_ ?_ (of_decide_eq_true hf)⟩
        · simp only [pairsS, List.mem_cons, List.not_mem_nil, or_false] at hm
          rcases hm with rfl | rfl | rfl <;> rfl
        · simp only [pairsS, List.mem_cons, List.not_mem_nil, or_false] at hm
          rcases hm with rfl | rfl | rfl <;> rfl
      · rename_i h1
        have hv' : pairsS.any (fullB r a b p.1) = false := by rw [hv]; simpa using h1
        rw [Option.map_eq_none_iff, List.find?_eq_none]
        intro q hq hq2
        have := List.any_eq_false.mp hv' q hq
        exact this hq2
theorem e_round_of_threes : ∃ o : Option (List Pt), (∀ n st, cfN GG (n + 6) "round_of_threes" [.int r, .int a, .int b] st = some (optT r a b o, false, st)) ∧
    ∃ v, (∀ n st, cfN GG (n + 1) "_law_common" [.int r, .int a, .int b] st = some (.int v, false, st)) ∧ ((v = 1 ∧ ∃ ps, o = some ps ∧ Round r a b ps) ∨ (v ≠ 1 ∧ o = none)) := by
  have hr : 0 < r := by have := d.r6; omega
  obtain ⟨p, k, hp, hk⟩ := threes_head (a := a) (b := b) hr
  obtain ⟨v, hv', hv⟩ := e__law_common d
  refine ⟨rndM r a b p, fun n st => ?_, v, hv', ?_⟩
  · rw [c_round_of_threes]
    simp [m_round_of_threes, e_check_threes, d, e_round_of_threes_by _ _ d hp hk]
  · have := hv p hp
    split at this
    · exact .inl ⟨by assumption, this⟩
    · exact .inr ⟨by assumption, this⟩
omit d in
theorem same_non (n : Nat) (st : List D) : cfN GG (n + 1) "_law_same" [.non, .non] st = some (.bl true, false, st) := by
  rw [c__law_same]
  simp [m__law_same]
omit d in
theorem same_nons (n : Nat) (st : List D) : cfN GG (n + 2) "_law_same" [.lst [.non, .non], .lst [.non, .non]] st = some (.bl true, false, st) := by
  rw [c__law_same]
  simp [m__law_same]
  rw [comp_B [.val (.lst [.non, .non]), .val (.lst [.non, .non]), .un] (rng0 2) D.int (fun _ => true) (fun _ => true) (x := lstZ (rng0 2)) (fl := true) (fe := false)]
  · simp
  · exact rng1_ap (f := false) (by simp) (by omega) (by omega)
  · simp
  · simp
  · simp
  · intro i hi _
    have := mem_rng0.mp hi
    have h2 : i = 0 ∨ i = 1 := by omega
    rcases h2 with rfl | rfl <;> simp [idxD, atI, ixN, same_non]
  · simp
theorem e__law_is_right (n : Nat) (st : List D) : cfN GG (n + 7) "_law_is_right" [.int r, .int a, .int b] st = some (.bl true, false, st) := by
  obtain ⟨o, ho, v, hv, h⟩ := e_round_of_threes d
  rw [c__law_is_right]
  have hk : pickV D.non [2, 1, 0] [D.int b, D.int a, D.int r] = [D.int r, D.int a, D.int b] := rfl
  rcases h with ⟨rfl, ps, rfl, hR⟩ | ⟨h1, rfl⟩
  · have h1 : idxD (.lst [rndT r a b ps, rndT r a b ps]) (.int 0) = some (rndT r a b ps) := rfl
    have h2 : idxD (.lst [rndT r a b ps, rndT r a b ps]) (.int 1) = some (rndT r a b ps) := rfl
    simp [m__law_is_right, hk, ho, hv, optT, h1, h2, e__law_is_round _ _ d hR]
  · simp [m__law_is_right, hk, ho, hv, optT, h1, same_nons]
end
end Rv

set_option Elab.async false
set_option linter.all false
set_option maxRecDepth 100000
set_option maxHeartbeats 8000000
/-! k78: the drawn part. -/
namespace Rv
open PySem L2
theorem Dom.swap {r a b : Int} (d : Dom r a b) : Dom r b a := by
  obtain ⟨h1, h2, h3, h4, h5, h6, h7, h8⟩ := d
  exact ⟨h1, h2, h4, h3, by omega, fun e => h6 e.symm, by omega, by omega⟩
theorem addTT (a b : List (List Int)) (h : a.length + b.length ≤ 100000) : binD .add (tupT a) (tupT b) = some (tupT (a ++ b), false) := by
  unfold tupT
  simp [binD]
  omega
theorem signs_in {r a b : Int} {p q : Pt} (h : Adj r a b q p) : ([97, 98, 99].map fun c => TP r a b (stP r a b p c)).contains (TP r a b q) = true := by
  obtain ⟨c, hc, rfl⟩ := h
  simp only [isSg, Bool.or_eq_true, beq_iff_eq] at hc
  rcases hc with (rfl | rfl) | rfl <;> simp
theorem atI_next {α : Type} (l : List α) (i : Nat) (h : i < l.length) : atI l (((i : Int) + 1) % (l.length : Int)) = l[if i + 1 = l.length then 0 else i + 1]? := by
  split
  · rename_i e
    rw [show ((i : Int) + 1) = (l.length : Int) by omega, Int.emod_self]
    exact atI_nat l 0
  · rw [Int.emod_eq_of_lt (by omega) (by omega), show ((i : Int) + 1) = ((i + 1 : Nat) : Int) by omega, atI_nat]
section
variable (n : Nat) (st : List D)
theorem e__law_right (h : Nat) (hp : PotAt st h) : ∃ st', cfN GG (n + 9) "_law_right" [.ref h] st = some (.bl true, false, st') := by
  rw [c__law_right]
  simp only [m__law_right]
  refine for_then (fun z => ∃ st', retOf z = some (D.bl true, false, st')) (rng0 5) D.int (fun ρ st => (∃ s1 s2 s3 s4 s5 s6 s7 s8 s9 s11, ρ = [.val (.ref h), s1, s2, s3, s4, s5, s6, s7, s8, s9, .un, s11, .un]) ∧ PotAt st h) (rng1_ap rfl (by decide) (by decide)) (itemsD_lstZ _) ⟨⟨_, _, _, _, _, _, _, _, _, _, rfl⟩, hp⟩ ?_ ?_
  · intro t ht ρ st ⟨⟨s1, s2, s3, s4, s5, s6, s7, s8, s9, s11, e⟩, hp⟩
    subst e
    obtain ⟨r, a, b, o, x, st1, e1, d, hx1, hx2, p1⟩ := e__law_some (n + 5) st h hp
    have h6 := d.r6
    have h12 := d.r12
    have hr : 0 < r := by omega
    have e2 := e__law_is_right d (n + 1) st1
    have e3 := e__law_is_right d.swap (n + 1) st1
    obtain ⟨o', ho, v, _, hv⟩ := e_round_of_threes d
    have e4 := ho (n + 2) st1
    rcases hv with ⟨_, ps, rfl, hR⟩ | ⟨_, rfl⟩
    · have hlen := hR.len
      obtain ⟨i, st2, e5, hi, p2⟩ := e__law_pickD (n + 6) st1 h (tupZ [1, r - 1]) 2 (fun i => .int (if i = 0 then 1 else r - 1)) rfl (by
        intro i hi
        have : i = 0 ∨ i = 1 := by omega
        rcases this with rfl | rfl <;> rfl) (by decide) p1.1
      obtain ⟨m, st3, e6, hm1, hm2, p3⟩ := e__law_draw (n + 7) st2 h r (by omega) p2.1
      obtain ⟨at', st4, e7, ha1, ha2, p4⟩ := e__law_draw (n + 7) st3 h (ps.length : Int) (by omega) p3.1
      obtain ⟨k, rfl⟩ : ∃ k : Nat, at' = (k : Int) := ⟨at'.toNat, by omega⟩
      have hk : k < ps.length := by omega
      obtain ⟨f, hf, hF⟩ : ∃ f : Pt → Pt, Round r a b (ps.map f) ∧ ∀ p, cfN GG (n + 8) "_law_moved" [.int r, tupZ (TP r a b p), tupZ [if i = 0 then 1 else r - 1, m]] st4 = some (tupZ (TP r a b (f p)), false, st4) := by
        by_cases c : i = 0
        · exact ⟨rais r m, hR.rais hr m, fun p => by rw [if_pos c]; exact e__law_moved1 (n + 6) st4 d p.1 p.2 m⟩
        · exact ⟨turnP r a b m, hR.turn hr m, fun p => by rw [if_neg c]; exact e__law_moved2 (n + 6) st4 d p.1 p.2 m⟩
      generalize (if i = 0 then (1 : Int) else r - 1) = u at e5 hF
      have hL : (ps.map (TP r a b)).length = ps.length := by simp
      have hget : ∀ (i : Nat) (p : Pt), ps[i]? = some p → (ps.map (TP r a b))[i]? = some (TP r a b p) := fun i p e => by rw [List.getElem?_map, e]; rfl
      have hC1 : xk_comp (xt_var 10) (xk_it (xk_var 6)) xi_nil (xk_call (cfN GG (n + 8)) "_law_moved" (xl_cons (xk_var 2) (xl_cons (xk_var 10) (xl_cons (xk_var 7) xl_nil)))) [10] [.val (.ref h), .val (.int t), .val (.int r), .val (.int a), .val (.int b), .val (tupZ (TT r a b o x)), .val (rndT r a b ps), .val (tupZ [u, m]), .val (.int (k : Int)), s9, .un, s11, .un] st4
          = some (lstT ((ps.map f).map (TP r a b)), true, [.val (.ref h), .val (.int t), .val (.int r), .val (.int a), .val (.int b), .val (tupZ (TT r a b o x)), .val (rndT r a b ps), .val (tupZ [u, m]), .val (.int (k : Int)), s9, .un, s11, .un], st4) := by
        rw [comp_T [.val (.ref h), .val (.int t), .val (.int r), .val (.int a), .val (.int b), .val (tupZ (TT r a b o x)), .val (rndT r a b ps), .val (tupZ [u, m]), .val (.int (k : Int)), s9, .un, s11, .un] ps (fun p => tupZ (TP r a b p)) (fun _ => true) (fun p => TP r a b (f p)) (x := rndT r a b ps) (fl := false) (fe := false)]
        · simp [Function.comp_def]
        · simp
        · simp [Function.comp_def]
        · rfl
        · simp
        · intro p hp _
          simp [hF]
        · omega
      have e8 := e__law_is_round (n + 5) st4 d hf
      have e9 := e__law_is_round (n + 5) st4 d (hR.rotate k (by omega))
      have e10 := e__law_is_round (n + 5) st4 d hR.rev
      rw [show rndT r a b (ps.drop k ++ ps.take k) = tupT ((ps.map (TP r a b)).drop k ++ (ps.map (TP r a b)).take k) by show tupT _ = tupT _; rw [List.map_append, List.map_drop, List.map_take]] at e9
      rw [show rndT r a b ps.reverse = tupT (ps.map (TP r a b)).reverse by show tupT _ = tupT _; rw [List.map_reverse]] at e10
      have hadd := addTT ((ps.map (TP r a b)).drop k) ((ps.map (TP r a b)).take k) (by simp; omega)
      have hc1 := cutX_from (ps.map (TP r a b)) k
      have hc2 := cutX_to (ps.map (TP r a b)) k
      obtain ⟨p, hp⟩ : ∃ p, ps[k]? = some p := ⟨_, List.getElem?_eq_getElem hk⟩
      obtain ⟨q, hq⟩ : ∃ q, ps[if k = 0 then ps.length - 1 else k - 1]? = some q := ⟨_, List.getElem?_eq_getElem (by split <;> omega)⟩
      obtain ⟨w, hw⟩ : ∃ w, ps[if k + 1 = ps.length then 0 else k + 1]? = some w := ⟨_, List.getElem?_eq_getElem (by split <;> omega)⟩
      have hpo := hR.ok p (List.mem_of_getElem? hp)
      have hqo := hR.ok q (List.mem_of_getElem? hq)
      have aq := signs_in ((hR.adj k p q hp hq).symm hqo)
      have aw : Adj r a b w p := by
        refine hR.adj _ w p hw ?_
        rw [← hp]
        congr 1
        split <;> split <;> omega
      have aw := signs_in aw
      have i1 : atI (ps.map (TP r a b)) (k : Int) = some (TP r a b p) := by rw [atI_nat]; exact hget _ _ hp
      have i2 : atI (ps.map (TP r a b)) ((k : Int) - 1) = some (TP r a b q) := by
        rw [atI_prev _ _ (by omega), hL]
        exact hget _ _ hq
      have i3 : atI (ps.map (TP r a b)) (((k : Int) + 1) % ((ps.map (TP r a b)).length : Int)) = some (TP r a b w) := by
        rw [atI_next _ _ (by omega), hL]
        exact hget _ _ hw
      have hmod : binD .mod (.int ((k : Int) + 1)) (.int ((ps.map (TP r a b)).length : Int)) = some (.int (((k : Int) + 1) % ((ps.map (TP r a b)).length : Int)), false) := binD_modI _ _ (by omega)
      have hC2 : xk_comp (xt_var 12) (xk_it (xk_lit (.str "abc"))) xi_nil (xk_call (cfN GG (n + 8)) "led" (xl_cons (xk_var 2) (xl_cons (xk_var 3) (xl_cons (xk_var 4) (xl_cons (xk_idx (xk_var 6) (xk_var 8)) (xl_cons (xk_var 12) xl_nil)))))) [12] [.val (.ref h), .val (.int t), .val (.int r), .val (.int a), .val (.int b), .val (tupZ (TT r a b o x)), .val (rndT r a b ps), .val (tupZ [u, m]), .val (.int (k : Int)), .val (rndT r a b (ps.map f)), .un, s11, .un] st4
          = some (lstT ([97, 98, 99].map fun c => TP r a b (stP r a b p c)), true, [.val (.ref h), .val (.int t), .val (.int r), .val (.int a), .val (.int b), .val (tupZ (TT r a b o x)), .val (rndT r a b ps), .val (tupZ [u, m]), .val (.int (k : Int)), .val (rndT r a b (ps.map f)), .un, s11, .un], st4) := by
        rw [comp_T [.val (.ref h), .val (.int t), .val (.int r), .val (.int a), .val (.int b), .val (tupZ (TT r a b o x)), .val (rndT r a b ps), .val (tupZ [u, m]), .val (.int (k : Int)), .val (rndT r a b (ps.map f)), .un, s11, .un] [97, 98, 99] sgD (fun _ => true) (fun c => TP r a b (stP r a b p c)) (x := .str "abc") (fl := false) (fe := false)]
        · rw [filter_tt]
        · simp
        · rfl
        · rfl
        · simp
        · intro c hc _
          have hc' : isSg c = true := by
            simp only [List.mem_cons, List.not_mem_nil, or_false] at hc
            rcases hc with rfl | rfl | rfl <;> rfl
          have e11 : cfN GG (n + 8) "led" [.int r, .int a, .int b, tupZ (TP r a b p), sgD c] st4 = some (tupZ (TP r a b (stP r a b p c)), false, st4) := e_led (n + 1) st4 d [c] (by simp [hc']) (by simp) p.1 p.2 hpo
          simp [i1, e11]
        · decide
      generalize ([97, 98, 99].map fun c => TP r a b (stP r a b p c)) = near at hC2 aq aw
      refine ⟨[.val (.ref h), .val (.int t), .val (.int r), .val (.int a), .val (.int b), .val (tupZ (TT r a b o x)), .val (rndT r a b ps), .val (tupZ [u, m]), .val (.int (k : Int)), .val (rndT r a b (ps.map f)), .un, .val (lstT near), .un], st4, ?_, ⟨_, _, _, _, _, _, _, _, _, _, rfl⟩, p4.1⟩
      rw [← hL] at e7
      simp only [optT] at e4
      unfold rndT at *
      have aq2 : TP r a b q ∈ near := by simpa using aq
      have aw2 : TP r a b w ∈ near := by simpa using aw
      have hisn : ∀ l, cmpD .isn (tupT l) .non = some true := fun _ => rfl
      generalize (ps.map f).map (TP r a b) = L2 at *
      generalize ps.map (TP r a b) = L at *
      simp [-blt_tuple_lstT, -cmpD_isn, hisn, e1, e2, e3, e4, e5, e6, e7, hC1, e8, hc1, hc2, hadd, e9, hC2, i1, i2, hmod, i3, aq2, aw2, e10]
    · refine ⟨[.val (.ref h), .val (.int t), .val (.int r), .val (.int a), .val (.int b), .val (tupZ (TT r a b o x)), .val .non, s7, s8, s9, .un, s11, .un], st1, ?_, ⟨_, _, _, _, _, _, _, _, _, _, rfl⟩, p1.1⟩
      simp [e1, e2, e3, e4, optT]
  · rintro ρ st ⟨⟨s1, s2, s3, s4, s5, s6, s7, s8, s9, s11, e⟩, hp⟩
    subst e
    simp
end
end Rv

set_option Elab.async false
set_option linter.all false
set_option maxRecDepth 100000
set_option maxHeartbeats 4000000
/-! Rounds of threes: the law. -/
namespace Rv
open PySem L2
theorem e_law (n : Nat) (ns : List Int) (hns : ns.length ≤ 63) : ∃ st', cfN GG (n + 10) "law" [lstZ ns] [] = some (.bl true, false, st') := by
  rw [c_law]
  simp only [m_law]
  refine for_then (fun z => ∃ st', retOf z = some (D.bl true, false, st')) (rngI 6 9) D.int (fun ρ st => ∃ s1, ρ = [.val (lstZ ns), s1, .un, .un, .un]) (rng2_ap rfl rfl (by decide) (by decide) (by decide) (by decide)) (itemsD_lstZ _) ⟨_, rfl⟩ ?_ ?_
  · intro r hr ρ st ⟨s1, e⟩
    subst e
    rw [mem_rngI] at hr
    have hr' : 6 ≤ r ∧ r ≤ 12 := by omega
    have hp := e__law_pairs (n + 7) st r hr'
    refine ⟨[.val (lstZ ns), .val (.int r), .un, .un, .un], st, ?_, _, rfl⟩
    have hC : xk_comp (xt_tup (xts_cons (xt_var 2) (xts_cons (xt_var 3) xts_nil))) (xk_it (xk_call (cfN GG (n + 9)) "_law_pairs" (xl_cons (xk_var 1) xl_nil))) xi_nil (xk_call (cfN GG (n + 9)) "_law_is_right" (xl_cons (xk_var 1) (xl_cons (xk_var 2) (xl_cons (xk_var 3) xl_nil)))) [2, 3] [.val (lstZ ns), .val (.int r), .un, .un, .un] st
        = some (lstB ((pairsM r).map fun _ => true), true, [.val (lstZ ns), .val (.int r), .un, .un, .un], st) := by
      have hl := pairs_len hr'
      rw [comp_ok (pairsM r) tupZ (fun p => [.val (lstZ ns), .val (.int r), .val (.int (p.headD 0)), .val (.int (p.tail.headD 0)), .un]) (fun _ => true) (fun _ => .bl true) (x := lstT (pairsM r)) (fl := true) (fe := false) (ρ1 := [.val (lstZ ns), .val (.int r), .un, .un, .un]) (R := [.val (lstZ ns), .val (.int r), .un, .un, .un])]
      · simp [lstB]
      · simp [hp]
      · rfl
      · intro p hp
        obtain ⟨a, b, rfl, d⟩ := pairs_dom hr' hp
        simp [wipeS]
      · intro p hp q hq
        obtain ⟨a, b, rfl, d⟩ := pairs_dom hr' hp
        simp [wipeS]
      · intro p hp
        simp
      · intro p hp _
        obtain ⟨a, b, rfl, d⟩ := pairs_dom hr' hp
        simp [e__law_is_right d (n + 2) st]
      · rfl
      · intro p hp
        rfl
      · simp only [lim_val]
        omega
    have h9 : ((pairsM r).all fun _ => true) = true := by simp
    simp [hC, h9]
  · rintro ρ st ⟨s1, e⟩
    subst e
    have d1 : Dom 12 4 3 := ⟨by decide, by decide, by decide, by decide, by decide, by decide, by decide, by decide⟩
    have d2 : Dom 12 4 2 := ⟨by decide, by decide, by decide, by decide, by decide, by decide, by decide, by decide⟩
    have f1 := fun st => e__law_is_right d1 (n + 2) st
    have f2 := fun st => e__law_is_right d2 (n + 2) st
    have hm : ∃ k : Int, 0 ≤ k ∧ k ≤ 4 ∧ xk_blt .max (xl_cons (xk_lit (.int 2)) (xl_cons (xk_blt .min (xl_cons (xk_blt .len (xl_cons (xk_var 0) xl_nil)) (xl_cons (xk_lit (.int 3)) xl_nil))) xl_nil)) [.val (lstZ ns), s1, .un, .un, .un] st = some (.int k, false, [.val (lstZ ns), s1, .un, .un, .un], st) := by
      refine ⟨_, ?_, ?_, by simp; rfl⟩
      · split <;> (try split) <;> omega
      · split <;> (try split) <;> omega
    obtain ⟨k, k1, k2, ek⟩ := hm
    obtain ⟨st', e1, _⟩ := comp_st (elt := xk_call (cfN GG (n + 9)) "_law_right" (xl_cons (xk_call (cfN GG (n + 9)) "_law_pot" (xl_cons (xk_var 0) (xl_cons (xk_var 4) xl_nil))) xl_nil)) (v := 4) [.val (lstZ ns), s1, .un, .un, .un] (rng0 k) D.int (fun _ => .bl true) (fun _ => True) (rng1_ap ek (by omega) (by omega)) (itemsD_lstZ _) rfl trivial (by
      intro t ht st _
      rw [mem_rng0] at ht
      obtain ⟨st1, e1, p1, _⟩ := e__law_pot (n + 8) st ns t (by omega)
      obtain ⟨st2, e2⟩ := e__law_right n st1 st.length p1
      exact ⟨false, st2, by simp [e1, e2], trivial⟩) (by simp; omega)
    refine ⟨st', ?_⟩
    have e5 : D.lst ((rng0 k).map fun _ => D.bl true) = lstB ((rng0 k).map fun _ => true) := by simp [lstB]
    rw [e5] at e1
    simp only [xq_cons_ap, xs_ife_ap, xk_bop_ap, xs_ret_ap, xk_blt_ap, xl_cons_ap, xl_nil_ap]
    simp [f1, f2, e1]
end Rv

set_option Elab.async false
set_option linter.all false
set_option maxRecDepth 100000
set_option maxHeartbeats 0
namespace Rv
open PySem PySem.Spec PyProof.Rows L2
def faL : List He.Fa := faOf defsL freeL gcL
def fnL : List He.DefD := fnOf' defsL
abbrev RR : PySem.W.OpenRow := PySem.W.OpenLaw.row PySem.Challenge.rw_ringtones_k78_whole_rounds_of_threes
abbrev QQ : PySem.Program := PySem.W.view RR.prog [64]
abbrev hkL : PySem.W.Hook := hookR 4 faL fnL gbL (tuOf gcL)
def obL (s : PySem.W.SharedT) : He.AlD × Bool := obsR 4 faL fnL gbL (tuOf gcL) (HandSHeadRun.getT s)
theorem obL_eq (s : PySem.W.SharedT) : obL s = hkL.obs s.abs := obsR_eq (HandSHeadRun.getT_eq s)
def looseL : List PySem.Str := (["is_whole", "is_between", "is_text_of", "is_ascending", "FEWEST", "MOST", "is_ring", "is_tone", "is_chorded", "gaps_by", "chord_with_gaps", "FIRST", "SECOND", "THIRD", "FLIPS", "MOST_FLIPS", "are_three_gaps", "threes_by", "is_three", "is_flip_word", "gap_told", "flipped_at", "led_by", "SIGN_PAIRS", "round_by_two", "round_of_threes_by", "ToneError", "InvalidNumber", "InvalidChord", "InvalidThrees"] : List PySem.Str) ++ (["InvalidWord", "check_ring", "check_threes", "check_three", "led", "round_of_threes", "_law_pot", "_law_draw", "_law_pick", "_law_same", "_law_rests", "_law_is_pair", "_law_pairs", "_law_threes", "_law_moved", "_law_flip", "_law_led", "_law_word", "_law_some", "_law_words", "_law_common", "_law_is_round", "_law_is_right", "_law_right"] : List PySem.Str)
theorem runL (w : World) : HandSHeadRun.RunEqI RR QQ hkL obL 20000 looseL w := by
  unfold HandSHeadRun.RunEqI
  kernel_rfl
end Rv

set_option Elab.async false
set_option linter.all false
set_option maxRecDepth 100000
set_option maxHeartbeats 0
namespace Rv
open PySem PySem.Spec PyProof.Rows L2
theorem b_is_whole : BindOk d_is_whole := fun _ _ _ _ _ _ us hl => match us, hl with | [_], _ => rfl
theorem b_is_between : BindOk d_is_between := fun _ _ _ _ _ _ us hl => match us, hl with | [_, _, _], _ => rfl
theorem b_is_text_of : BindOk d_is_text_of := fun _ _ _ _ _ _ us hl => match us, hl with | [_, _], _ => rfl
theorem b_is_ascending : BindOk d_is_ascending := fun _ _ _ _ _ _ us hl => match us, hl with | [_], _ => rfl
theorem b_is_ring : BindOk d_is_ring := fun _ _ _ _ _ _ us hl => match us, hl with | [_], _ => rfl
theorem b_is_tone : BindOk d_is_tone := fun _ _ _ _ _ _ us hl => match us, hl with | [_, _], _ => rfl
theorem b_is_chorded : BindOk d_is_chorded := fun _ _ _ _ _ _ us hl => match us, hl with | [_, _], _ => rfl
theorem b_gaps_by : BindOk d_gaps_by := fun _ _ _ _ _ _ us hl => match us, hl with | [_, _], _ => rfl
theorem b_chord_with_gaps : BindOk d_chord_with_gaps := fun _ _ _ _ _ _ us hl => match us, hl with | [_, _, _], _ => rfl
theorem b_are_three_gaps : BindOk d_are_three_gaps := fun _ _ _ _ _ _ us hl => match us, hl with | [_, _, _], _ => rfl
theorem b_threes_by : BindOk d_threes_by := fun _ _ _ _ _ _ us hl => match us, hl with | [_, _, _], _ => rfl
theorem b_is_three : BindOk d_is_three := fun _ _ _ _ _ _ us hl => match us, hl with | [_, _, _, _], _ => rfl
theorem b_is_flip_word : BindOk d_is_flip_word := fun _ _ _ _ _ _ us hl => match us, hl with | [_], _ => rfl
theorem b_gap_told : BindOk d_gap_told := fun _ _ _ _ _ _ us hl => match us, hl with | [_, _, _, _], _ => rfl
theorem b_flipped_at : BindOk d_flipped_at := fun _ _ _ _ _ _ us hl => match us, hl with | [_, _, _], _ => rfl
theorem b_led_by : BindOk d_led_by := fun _ _ _ _ _ _ us hl => match us, hl with | [_, _, _, _, _], _ => rfl
theorem b_round_by_two : BindOk d_round_by_two := fun _ _ _ _ _ _ us hl => match us, hl with | [_, _, _, _], _ => rfl
theorem b_round_of_threes_by : BindOk d_round_of_threes_by := fun _ _ _ _ _ _ us hl => match us, hl with | [_, _, _], _ => rfl
theorem b_check_ring : BindOk d_check_ring := fun _ _ _ _ _ _ us hl => match us, hl with | [_], _ => rfl
theorem b_check_threes : BindOk d_check_threes := fun _ _ _ _ _ _ us hl => match us, hl with | [_, _, _], _ => rfl
theorem b_check_three : BindOk d_check_three := fun _ _ _ _ _ _ us hl => match us, hl with | [_, _, _, _], _ => rfl
theorem b_led : BindOk d_led := fun _ _ _ _ _ _ us hl => match us, hl with | [_, _, _, _, _], _ => rfl
theorem b_round_of_threes : BindOk d_round_of_threes := fun _ _ _ _ _ _ us hl => match us, hl with | [_, _, _], _ => rfl
theorem b__law_pot : BindOk d__law_pot := fun _ _ _ _ _ _ us hl => match us, hl with | [_, _], _ => rfl
theorem b__law_draw : BindOk d__law_draw := fun _ _ _ _ _ _ us hl => match us, hl with | [_, _], _ => rfl
theorem b__law_pick : BindOk d__law_pick := fun _ _ _ _ _ _ us hl => match us, hl with | [_, _], _ => rfl
theorem b__law_same : BindOk d__law_same := fun _ _ _ _ _ _ us hl => match us, hl with | [_, _], _ => rfl
theorem b__law_rests : BindOk d__law_rests := fun _ _ _ _ _ _ us hl => match us, hl with | [_, _], _ => rfl
theorem b__law_is_pair : BindOk d__law_is_pair := fun _ _ _ _ _ _ us hl => match us, hl with | [_, _, _], _ => rfl
theorem b__law_pairs : BindOk d__law_pairs := fun _ _ _ _ _ _ us hl => match us, hl with | [_], _ => rfl
theorem b__law_threes : BindOk d__law_threes := fun _ _ _ _ _ _ us hl => match us, hl with | [_, _, _], _ => rfl
theorem b__law_moved : BindOk d__law_moved := fun _ _ _ _ _ _ us hl => match us, hl with | [_, _, _], _ => rfl
theorem b__law_flip : BindOk d__law_flip := fun _ _ _ _ _ _ us hl => match us, hl with | [_, _, _, _, _], _ => rfl
theorem b__law_some : BindOk d__law_some := fun _ _ _ _ _ _ us hl => match us, hl with | [_], _ => rfl
theorem b__law_common : BindOk d__law_common := fun _ _ _ _ _ _ us hl => match us, hl with | [_, _, _], _ => rfl
theorem b__law_is_round : BindOk d__law_is_round := fun _ _ _ _ _ _ us hl => match us, hl with | [_, _, _, _], _ => rfl
theorem b__law_is_right : BindOk d__law_is_right := fun _ _ _ _ _ _ us hl => match us, hl with | [_, _, _], _ => rfl
theorem b__law_right : BindOk d__law_right := fun _ _ _ _ _ _ us hl => match us, hl with | [_], _ => rfl
theorem b_law : BindOk d_law := fun _ _ _ _ _ _ us hl => match us, hl with | [_], _ => rfl
theorem bindsL : ∀ d ∈ defsL, BindOk d := by
  intro d hd
  simp only [defsL, List.mem_cons, List.not_mem_nil, or_false] at hd
  rcases hd with rfl | rfl | rfl | rfl | rfl | rfl | rfl | rfl | rfl | rfl | rfl | rfl | rfl | rfl | rfl | rfl | rfl | rfl | rfl | rfl | rfl | rfl | rfl | rfl | rfl | rfl | rfl | rfl | rfl | rfl | rfl | rfl | rfl | rfl | rfl | rfl | rfl | rfl | rfl
  · exact b_is_whole
  · exact b_is_between
  · exact b_is_text_of
  · exact b_is_ascending
  · exact b_is_ring
  · exact b_is_tone
  · exact b_is_chorded
  · exact b_gaps_by
  · exact b_chord_with_gaps
  · exact b_are_three_gaps
  · exact b_threes_by
  · exact b_is_three
  · exact b_is_flip_word
  · exact b_gap_told
  · exact b_flipped_at
  · exact b_led_by
  · exact b_round_by_two
  · exact b_round_of_threes_by
  · exact b_check_ring
  · exact b_check_threes
  · exact b_check_three
  · exact b_led
  · exact b_round_of_threes
  · exact b__law_pot
  · exact b__law_draw
  · exact b__law_pick
  · exact b__law_same
  · exact b__law_rests
  · exact b__law_is_pair
  · exact b__law_pairs
  · exact b__law_threes
  · exact b__law_moved
  · exact b__law_flip
  · exact b__law_some
  · exact b__law_common
  · exact b__law_is_round
  · exact b__law_is_right
  · exact b__law_right
  · exact b_law
theorem kb_0 : BindOkK d_round_of_threes (["b", "a", "number"] : List PySem.Str) [2, 1, 0] := fun _ _ _ _ _ _ ws hl => match ws, hl with | [_, _, _], _ => rfl
theorem kwsL : ∀ d ∈ defsL, ∀ ks pi, (d.name, ks, pi) ∈ kwL → BindOkK d ks pi := by
  intro d hd ks pi h
  simp only [defsL, List.mem_cons, List.not_mem_nil, or_false] at hd
  simp only [kwL, List.mem_cons, List.not_mem_nil, or_false, Prod.mk.injEq] at h
  rcases h with ⟨hn, rfl, rfl⟩
  · rcases hd with rfl | rfl | rfl | rfl | rfl | rfl | rfl | rfl | rfl | rfl | rfl | rfl | rfl | rfl | rfl | rfl | rfl | rfl | rfl | rfl | rfl | rfl | rfl | rfl | rfl | rfl | rfl | rfl | rfl | rfl | rfl | rfl | rfl | rfl | rfl | rfl | rfl | rfl | rfl <;> first | exact absurd hn (by decide +kernel) | exact kb_0
theorem chkL : defsL.all (chkD freeL gbL kwL) = true := by decide +kernel
end Rv
open PySem PySem.W PySem.Calls PyProof.Rows
theorem holds_of {W : Nat} (hlaw : ∀ ns : List Int, ns.length ≤ 63 → ∃ fr st', Rv.cfN (Rv.tabOf Rv.defsL (Rv.gcs Rv.gcL) W) 24 "law" [.lst (ns.map .int)] [] = some (.bl true, fr, st')) : PySem.Challenge.rw_ringtones_k78_whole_rounds_of_threes.Holds := by
  w_on; o_law
  refine HandSHeadRun.head_imp (r := Rv.RR) (q := Rv.QQ) (H := Rv.hkL) (ob := Rv.obL) (M := 20000) (loose := Rv.looseL) (d := HandSHeadRun.topDef (OpenLaw.row PySem.Challenge.rw_ringtones_k78_whole_rounds_of_threes).prog 64) (kwd := []) Rv.obL_eq
    Rv.runL (by kernel_rfl) (by kernel_rfl) (by rfl) (by first | assumption | decide +kernel) (by decide +kernel) (by decide +kernel) ⟨rfl, rfl, rfl, rfl, rfl, by decide +kernel⟩ ?hw ?hc
  case hw => w_witness2
  case hc =>
    refine L2.walk_ofE (l := PySem.Challenge.rw_ringtones_k78_whole_rounds_of_threes) (n := 63) (k := 24) (x := "script") (CX := C8.CX0) rfl (by decide) (by kernel_rfl) ⟨rfl, by decide, by decide⟩ ?F (fun _ _ _ _ z => z)
    intro w mg fa h Y G hmg0
    obtain ⟨K, KX, c, eb, et⟩ := Y
    have hmg : mg ("law" : PySem.Str) = some (.ref fa) := by
      have e : (HandSHeadRun.topDef (OpenLaw.row PySem.Challenge.rw_ringtones_k78_whole_rounds_of_threes).prog 64).name = ("law" : PySem.Str) := by kernel_rfl
      rw [← e]
      exact hmg0
    obtain ⟨fd, sp, h1, h2, h3⟩ := Rv.law_fn (P := (PySem.Challenge.rw_ringtones_k78_whole_rounds_of_threes).prog) (w := w) (W := W) (n := 24) (d := Rv.d_law) KX G c eb et Rv.chkL Rv.bindsL Rv.kwsL (by kernel_rfl) rfl hlaw hmg
    exact ⟨K, fd, sp, KX, h1, h2, h3⟩

theorem PySem.Challenge.cw_ringtones_k78_whole_rounds_of_threes_holds : PySem.Challenge.rw_ringtones_k78_whole_rounds_of_threes.Holds := by
  exact holds_of (W := 60) fun ns h => (Rv.e_law 14 ns h).elim fun st' e => ⟨false, st', e⟩
