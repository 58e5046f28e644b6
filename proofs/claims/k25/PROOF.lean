import PyProof.Rows.All
import Wide.All
import OpenK.AllK
import Wide.FinOn
import KE.DataEq
import KE.DataFind
import KE.SortData
import KE.DataMinMax
import HandS.ForMost
import HandS.TupAny
import HandS.Text
import HandS.Style
import HandS.DictComp
import HandS.TupLen
import HandS.IsInst
import HandS.Conv
import HandS.More
import HandS.ListItems
import KE.KTupSum
import HandS.Words
import HandS.Defaults
import HandS.Zip
import HandS.Ends
import HandS.HeadHook1
import HandS.HeadHook2
import HandS.SetFor
import HandS.SetKeys
import KE.KDictList
import KE.KStateDown
import Lean
import HandS.Base
import HandS.Call
import HandS.WordsExc
import HandS.Head0
import HandS.Head1
import HandS.Head2
import HandS.HeadEnd
import PySem.Challenge.RW_linkwright_k25_groups_that_many_bring
set_option Elab.async false
set_option linter.all false
set_option maxRecDepth 100000
set_option maxHeartbeats 0
/-! PP1: a pure evaluator over plain data (PyData) for a small part of Python: deep syntax E, S. -/
namespace PP
open PySem PySem.Spec PyProof.Rows L2

inductive Fl where | sh | fr
  deriving DecidableEq
inductive Sl where | no | fz (d : PyData) | ow (d : PyData)
abbrev PEnv := List Sl

/-- built-in calls, fused forms too -/
inductive BI where
  | len | abs | int | str | sum | any | all | sorted | min | max | tuple | list | dict
  | isI (t : String)
  | lenSet | lenSetK | sortedSet | listRange | listItems | listVals | notInRange
  | get | index | join | mk (n : Nat)
  deriving DecidableEq

inductive G where
  | nm (i : Nat)
  | tp (gs : List G)

mutual
inductive E where
  | non | bl (b : Bool) | int (i : Int) | str (s : Str)
  | var (i : Nat) | io (i : Nat) | glob (g : Nat)
  | inG (neg : Bool) (a : E) (g : Nat) | ixG (g : Nat) (k : E)
  | box (e : E)
  | un (op : UnaryOp) (a : E)
  | bin (op : Operator) (a b : E)
  | cmp (op : CmpOp) (a b : E)
  | chain (op op' : CmpOp) (a b c : E)
  | bop (op : BoolOp) (a b : E)
  | ite (c a b : E)
  | tup (es : Es) | lst (es : Es) | dic (es : Es)
  | ix (a b : E)
  | sl (a : E) (lo hi : O)
  | rev (a : E)
  | bi (f : BI) (es : Es)
  | call (f : Nat) (es : Es)
  | comp (vs : List Nat) (g : G) (it : I) (c e : E)
  | comp2 (vs vs1 : List Nat) (g : G) (it : I) (c : E) (g1 : G) (it1 : I) (c1 e : E)
inductive O where | no | so (e : E)
inductive Es where | nil | cons (e : E) (es : Es)
inductive I where | seq (e : E) | dk (i : Nat) | glob (g : Nat) | rng (es : Es) | zip (a b : E) | enum (e : E)
end

mutual
inductive S where
  | asg (i : Nat) (e : E)
  | asgT (g : G) (e : E)
  | asgO (i j f : Nat) (es : Es)
  | asgD (is : List Nat) (es : Es)
  | setIx (i : Nat) (k e : E)
  | asgDS (i : Nat) (k : E) (j : Nat) (a b : E)
  | aug (i : Nat) (op : Operator) (e : E)
  | augIx (i : Nat) (k : E) (op : Operator) (e : E)
  | mut (m : String) (i : Nat) (e : E)
  | pop (g : G) (i : Nat)
  | ifs (c : E) (a b : Ss)
  | for_ (g : G) (it : I) (b : Ss) (dead : List Nat)
  | whil (c : E) (b : Ss) (dead : List Nat)
  | ret (e : E) | brk | frz (is : List Nat)
inductive Ss where | nil | cons (s : S) (ss : Ss)
end

/-! ### data -/
abbrev mxD : Nat := 40
/-- no dict within, not deep -/
def okD (d : PyData) : Bool := d.plain && decide (d.depth ≤ mxD)
mutual
/-- nothing mutable within -/
def immD : PyData → Bool
  | .none | .bool _ | .int _ | .str _ => true
  | .tuple xs => immAll xs
  | _ => false
def immAll : List PyData → Bool
  | [] => true
  | x :: xs => immD x && immAll xs
end
mutual
/-- no list within that begins with an int, no dict -/
def noIL : PyData → Bool
  | .list (.int _ :: _) => false
  | .list xs => noILs xs
  | .tuple xs => noILs xs
  | .dict _ => false
  | _ => true
def noILs : List PyData → Bool
  | [] => true
  | x :: xs => noIL x && noILs xs
end
def immTop : PyData → Bool
  | .list xs => immAll xs
  | .dict kvs => immAll (kvs.map (·.2))
  | d => immD d

def unV : UnaryOp → PyData → Option PyData
  | .USub, .int i => some (.int (-i))
  | .Not, .bool b => some (.bool (!b))
  | _, _ => none
def mulOk (i j : Int) : Bool := (decide (-(2 ^ 64) < i) && decide (i < 2 ^ 64)) || (decide (-(2 ^ 64) < j) && decide (j < 2 ^ 64))
def binV : Operator → PyData → PyData → Option (PyData × Fl)
  | .Add, .int i, .int j => some (.int (i + j), .sh)
  | .Add, .str a, .str b => if a.length + b.length ≤ sizeLine then some (.str (a ++ b), .sh) else none
  | .Add, .tuple xs, .tuple ys => if xs.length + ys.length ≤ sizeLine then some (.tuple (xs ++ ys), .sh) else none
  | .Add, .list xs, .list ys => if xs.length + ys.length ≤ sizeLine then some (.list (xs ++ ys), .fr) else none
  | .Sub, .int i, .int j => some (.int (i - j), .sh)
  | .Mult, .int i, .int j => if mulOk i j then some (.int (i * j), .sh) else none
  | .Mult, .list xs, .int j => if decide (-(2 ^ 63) ≤ j) && decide (j < 2 ^ 63) && decide (xs.length * j.toNat ≤ sizeLine) then some (.list (List.replicate j.toNat xs).flatten, .fr) else none
  | .FloorDiv, .int i, .int j => if decide (0 < j) && decide (j < 1073741824) then some (.int (i / j), .sh) else none
  | .Mod, .int i, .int j => if 0 < j then some (.int (i % j), .sh) else none
  | .Pow, .int i, .int j => if decide (0 ≤ j) && decide (j ≤ 1000000) && decide (i.natAbs < 2 ^ 64) then some (.int (i ^ j.toNat), .sh) else none
  | _, _, _ => none

/-! keys of dicts -/
def keyD : PyData → Option (Sum Int Str)
  | .int i => some (.inl i)
  | .str s => some (.inr s)
  | _ => none
def keysD : List PyData → Option (List (Sum Int Str))
  | [] => some []
  | x :: xs => do return (← keyD x) :: (← keysD xs)
abbrev DK := (Sum Int Str) ⊕ (List (Sum Int Str))
def dkey : PyData → Option DK
  | .tuple xs => (keysD xs).map .inr
  | d => (keyD d).map .inl
def dlook (kvs : List (PyData × PyData)) (k : DK) : Option PyData := (kvs.find? fun p => decide (dkey p.1 = some k)).map (·.2)
def dhas (kvs : List (PyData × PyData)) (k : DK) : Bool := kvs.any fun p => decide (dkey p.1 = some k)
def dput (kvs : List (PyData × PyData)) (k : DK) (kd v : PyData) : List (PyData × PyData) :=
  if dhas kvs k then kvs.map fun p => if dkey p.1 = some k then (p.1, v) else p else kvs ++ [(kd, v)]
/-- all keys of one kind with k -/
def dfits (kvs : List (PyData × PyData)) (k : DK) : Bool := kvs.all fun p => match dkey p.1, k with
  | some (.inl _), .inl _ => true
  | some (.inr _), .inr _ => true
  | _, _ => false

def eqV (a b : PyData) : Option Bool := if okD a && okD b then some (PyData.eqv a b) else none
/-- a key that is an int or a text -/
def plainKey (p : PyData × PyData) : Bool := match dkey p.1 with
  | some (.inl _) => true
  | _ => false
def dictEq (xs ys : List (PyData × PyData)) : Option Bool :=
  if xs.length = ys.length && xs.all plainKey && ys.all plainKey && xs.all (fun p => match dkey p.1 with
    | some k => (match dlook ys k with
      | some v => okD v && okD p.2 && PyData.eqv p.2 v
      | none => false)
    | none => false) then some true else none
def notNone : PyData → Bool
  | .none => false
  | _ => true
def ordOk (a b : PyData) : Bool := PySem.W.alike a b && okD a && okD b && notNone a
def inV (x : PyData) : PyData → Option Bool
  | .list xs => if okD x && okD (.list xs) then some (xs.any fun y => PyData.eqv y x) else none
  | .tuple xs => if okD x && okD (.list xs) then some (xs.any fun y => PyData.eqv y x) else none
  | .str s => (match x with
    | .str t => some (!(Builtin.Str.occurrences s t 0 s.length 1).isEmpty)
    | _ => none)
  | .dict kvs => (match dkey x with
    | some k => if dfits kvs k then some (dhas kvs k) else none
    | none => none)
  | _ => none
def cmpV : CmpOp → PyData → PyData → Option Bool
  | .Is, a, .none => some (match a with | .none => true | _ => false)
  | .IsNot, a, .none => some (match a with | .none => false | _ => true)
  | .Eq, .dict xs, .dict ys => dictEq xs ys
  | .NotEq, .dict xs, .dict ys => (dictEq xs ys).map (!·)
  | .Eq, .list (_ :: _), .list [] => some false
  | .NotEq, .list (_ :: _), .list [] => some true
  | .Eq, a, b => eqV a b
  | .NotEq, a, b => (eqV a b).map (!·)
  | .In, a, b => inV a b
  | .NotIn, a, b => (inV a b).map (!·)
  | .Lt, .int i, .int j => some (decide (i < j))
  | .LtE, .int i, .int j => some (decide (i ≤ j))
  | .Gt, .int i, .int j => some (decide (j < i))
  | .GtE, .int i, .int j => some (decide (j ≤ i))
  | .Lt, .str a, .str b => some (decide (a.cps.toList < b.cps.toList))
  | .GtE, .str a, .str b => some (!decide (a.cps.toList < b.cps.toList))
  | .Lt, a, b => if ordOk a b then some (PySem.W.dataLt a b) else none
  | _, _, _ => none

def ixV : PyData → PyData → Option PyData
  | .list xs, .int i => atI xs i
  | .tuple xs, .int i => atI xs i
  | .str s, .int i => if s.length ≤ sizeLine then (atI s.cps.toList i).map fun c => .str ⟨#[c]⟩ else none
  | .dict kvs, k => (match dkey k with
    | some kk => if dfits kvs kk then dlook kvs kk else none
    | none => none)
  | _, _ => none
def cutL {α : Type} (xs : List α) (lo hi : Option Int) : List α := (xs.drop (HT.sIx xs.length 0 lo)).take (HT.sIx xs.length xs.length hi - HT.sIx xs.length 0 lo)
def optI : Option PyData → Option (Option Int)
  | none => some none
  | some (.int i) => some (some i)
  | _ => none
def slV : PyData → Option Int → Option Int → Option (PyData × Fl)
  | .list xs, lo, hi => some (.list (cutL xs lo hi), .fr)
  | .tuple xs, lo, hi => some (.tuple (cutL xs lo hi), .sh)
  | .str s, lo, hi => if s.length ≤ sizeLine then some (.str ⟨(cutL s.cps.toList lo hi).toArray⟩, .sh) else none
  | _, _, _ => none
def revV : PyData → Option (PyData × Fl)
  | .list xs => some (.list xs.reverse, .fr)
  | .tuple xs => some (.tuple xs.reverse, .sh)
  | _ => none

def intsD : List PyData → Option (List Int)
  | [] => some []
  | .int i :: xs => (intsD xs).map (i :: ·)
  | _ => none
def boolsD : List PyData → Option (List Bool)
  | [] => some []
  | .bool i :: xs => (boolsD xs).map (i :: ·)
  | _ => none
def strsD : List PyData → Option (List Str)
  | [] => some []
  | .str i :: xs => (strsD xs).map (i :: ·)
  | _ => none
/-- what is walked: a list, tuple, the signs of a text, the keys of a dict -/
def itemsD : PyData → Option (List PyData)
  | .list xs => some xs
  | .tuple xs => some xs
  | .str s => some (s.cps.toList.map fun c => .str ⟨#[c]⟩)
  | _ => none
def lenD : PyData → Option Nat
  | .list xs => some xs.length
  | .tuple xs => some xs.length
  | .str s => if s.length ≤ sizeLine then some s.length else none
  | .dict kvs => some kvs.length
  | _ => none
def rngOk (i j : Int) : Bool := decide (-(2 ^ 62) ≤ i) && decide (i < 2 ^ 62) && decide (-(2 ^ 62) ≤ j) && decide (j < 2 ^ 62)
def rngD : List PyData → Option (List PyData)
  | [.int j] => if rngOk 0 j then some ((List.range j.toNat).map fun k => .int ((0 : Int) + (k : Nat))) else none
  | [.int i, .int j] => if rngOk i j then some ((List.range (j - i).toNat).map fun k => .int (i + (k : Nat))) else none
  | [.int i, .int j, .int c] => if rngOk i j && decide (c = -1) then some ((List.range (i - j).toNat).map fun k => .int (i + (k : Nat) * (-1))) else none
  | _ => none
def strV (s : Str) : PyData := .str s
/-- pairwise alike, all -/
def alikeAllD : List PyData → Bool
  | xs => xs.all fun x => xs.all fun y => PySem.W.alike x y
/-- may be sorted -/
def sortOk (xs : List PyData) : Bool := alikeAllD xs && okD (.list xs) && (xs.all (fun x => match x with | .tuple (_ :: _) => true | _ => false) || xs.all (fun x => match x with | .none => false | .tuple _ => false | _ => true)) && decide (xs.length ≤ sizeLine)
def leD (x y : PyData) : Bool := !PySem.W.dataLt y x
def sortD (xs : List PyData) : List PyData := xs.mergeSort leD
def pairsD : List PyData → Option (List (PyData × PyData))
  | [] => some []
  | .tuple [k, v] :: xs => (pairsD xs).map ((k, v) :: ·)
  | _ => none
def dictOf (ps : List (PyData × PyData)) : Option (List (PyData × PyData)) := ps.foldlM (init := []) fun acc p => do
  match dkey p.1 with
  | some (.inl k) => some (dput acc (.inl k) p.1 p.2)
  | _ => none
def pairUp : List PyData → List (PyData × PyData)
  | k :: v :: r => (k, v) :: pairUp r
  | _ => []
def isT (t : String) : PyData → Option Bool
  | .none => if t ∈ ["int", "str", "tuple", "list", "dict", "bool"] then some false else none
  | .bool _ => if t ∈ ["int", "str", "tuple", "list", "dict", "bool"] then some (t == "bool" || t == "int") else none
  | .int _ => if t ∈ ["int", "str", "tuple", "list", "dict", "bool"] then some (t == "int") else none
  | .str _ => if t ∈ ["int", "str", "tuple", "list", "dict", "bool"] then some (t == "str") else none
  | .tuple _ => if t ∈ ["int", "str", "tuple", "list", "dict", "bool"] then some (t == "tuple") else none
  | .list _ => if t ∈ ["int", "str", "tuple", "list", "dict", "bool"] then some (t == "list") else none
  | .dict _ => if t ∈ ["int", "str", "tuple", "list", "dict", "bool"] then some (t == "dict") else none
def mmV (b : Bool) : List PyData → Option (PyData × Fl)
  | [.list (x :: xs)] => if sortOk (x :: xs) then some (if b then PySem.W.minD x xs else PySem.W.maxD x xs, .sh) else none
  | [.tuple (x :: xs)] => if sortOk (x :: xs) then some (if b then PySem.W.minD x xs else PySem.W.maxD x xs, .sh) else none
  | [.int i, .int j] => some (if b then .int (if j < i then j else i) else .int (if j > i then j else i), .sh)
  | _ => none
def v_len : List PyData → Option (PyData × Fl)
  | [d] => (lenD d).map fun n => (.int n, .sh)
  | _ => none
def v_abs : List PyData → Option (PyData × Fl)
  | [.int i] => some (.int (if i < 0 then -i else i), .sh)
  | _ => none
def v_int : List PyData → Option (PyData × Fl)
  | [.int i] => some (.int i, .sh)
  | _ => none
def v_str : List PyData → Option (PyData × Fl)
  | [.int i] => if i.natAbs.log2 < 1920 then some (.str (toString i), .sh) else none
  | _ => none
def v_sum : List PyData → Option (PyData × Fl)
  | [.list xs] => (intsD xs).map fun ns => (.int ns.sum, .sh)
  | [.tuple xs] => (intsD xs).map fun ns => (.int ns.sum, .sh)
  | _ => none
def v_any : List PyData → Option (PyData × Fl)
  | [.list xs] => (boolsD xs).map fun bs => (.bool (bs.any id), .sh)
  | _ => none
def v_all : List PyData → Option (PyData × Fl)
  | [.list xs] => (boolsD xs).map fun bs => (.bool (bs.all id), .sh)
  | _ => none
def v_sorted : List PyData → Option (PyData × Fl)
  | [.list xs] => if sortOk xs then some (.list (sortD xs), .fr) else none
  | [.tuple xs] => if sortOk xs then some (.list (sortD xs), .fr) else none
  | [.dict kvs] => if sortOk (kvs.map (·.1)) then some (.list (sortD (kvs.map (·.1))), .fr) else none
  | _ => none
def v_tuple : List PyData → Option (PyData × Fl)
  | [.list xs] => some (.tuple xs, .sh)
  | [.tuple xs] => some (.tuple xs, .sh)
  | _ => none
def v_list : List PyData → Option (PyData × Fl)
  | [.list xs] => some (.list xs, .fr)
  | [.tuple xs] => some (.list xs, .fr)
  | [.dict kvs] => some (.list (kvs.map (·.1)), .fr)
  | _ => none
def v_dict : List PyData → Option (PyData × Fl)
  | [.dict kvs] => if kvs.all plainKey then some (.dict kvs, .fr) else none
  | [.list xs] => do return (.dict (← dictOf (← pairsD xs)), .fr)
  | _ => none
def v_isI (t : String) : List PyData → Option (PyData × Fl)
  | [d] => (isT t d).map fun b => (.bool b, .sh)
  | _ => none
/-- one of each, as first met -/
def dedupI (ns : List Int) : List Int := ns.foldl (fun acc x => if acc.any (· == x) then acc else acc ++ [x]) []
def v_lenSet : List PyData → Option (PyData × Fl)
  | [.list xs] => do
    let ns ← intsD xs
    if ns.length ≤ 4000 then some (.int (dedupI ns).length, .sh) else none
  | _ => none
def keyDat : Sum Int Str → PyData
  | .inl i => .int i
  | .inr s => .str s
def dedupK : List (Sum Int Str) → List (Sum Int Str)
  | [] => []
  | k :: ks => k :: (dedupK ks).filter fun j => !decide (j = k)
/-- len(set(xs)) of ints or texts -/
def v_lenSetK : List PyData → Option (PyData × Fl)
  | [.list xs] => do
    let ks ← keysD xs
    if xs.length < 4000 then some (.int (dedupK ks).length, .sh) else none
  | _ => none
/-- sorted(set(xs)) of ints or texts -/
def v_sortedSet : List PyData → Option (PyData × Fl)
  | [.list xs] => do
    let ks ← keysD xs
    if sortOk xs && decide (xs.length < 4000) then some (.list (sortD ((dedupK ks).map keyDat)), .fr) else none
  | _ => none
def v_listRange : List PyData → Option (PyData × Fl)
  | ds => do
    let xs ← rngD ds
    if xs.length ≤ sizeLine then some (.list xs, .fr) else none
def v_listItems : List PyData → Option (PyData × Fl)
  | [.dict kvs] => some (.list (kvs.map fun p => .tuple [p.1, p.2]), .fr)
  | _ => none
def v_listVals : List PyData → Option (PyData × Fl)
  | [.dict kvs] => if kvs.all plainKey then some (.list (kvs.map (·.2)), .fr) else none
  | _ => none
def v_notInRange : List PyData → Option (PyData × Fl)
  | [.int i, .int n] => if rngOk 0 n then some (.bool (!(decide (0 ≤ i) && decide (i < n))), .sh) else none
  | _ => none
def v_get : List PyData → Option (PyData × Fl)
  | [.dict kvs, k] => do
    let kk ← dkey k
    if dfits kvs kk then some ((dlook kvs kk).getD .none, .sh) else none
  | [.dict kvs, k, v] => do
    let kk ← dkey k
    if dfits kvs kk then some ((dlook kvs kk).getD v, .sh) else none
  | _ => none
def v_index : List PyData → Option (PyData × Fl)
  | [.tuple xs, x] => if okD (.list xs) && okD x then (xs.findIdx? fun y => PyData.eqv y x).map fun j => (.int (j : Nat), .sh) else none
  | [.list xs, x] => if okD (.list xs) && okD x then (xs.findIdx? fun y => PyData.eqv y x).map fun j => (.int (j : Nat), .sh) else none
  | _ => none
def v_join : List PyData → Option (PyData × Fl)
  | [.str sep, .list xs] => do
    let ss ← strsD xs
    if (ss.map (·.length)).sum + ss.length * sep.length ≤ 16777216 then some (.str (Str.join sep ss), .sh) else none
  | _ => none
def biV : BI → List PyData → Option (PyData × Fl)
  | .len, ds => v_len ds
  | .abs, ds => v_abs ds
  | .int, ds => v_int ds
  | .str, ds => v_str ds
  | .sum, ds => v_sum ds
  | .any, ds => v_any ds
  | .all, ds => v_all ds
  | .sorted, ds => v_sorted ds
  | .min, ds => mmV true ds
  | .max, ds => mmV false ds
  | .tuple, ds => v_tuple ds
  | .list, ds => v_list ds
  | .dict, ds => v_dict ds
  | .isI t, ds => v_isI t ds
  | .lenSet, ds => v_lenSet ds
  | .lenSetK, ds => v_lenSetK ds
  | .sortedSet, ds => v_sortedSet ds
  | .listRange, ds => v_listRange ds
  | .listItems, ds => v_listItems ds
  | .listVals, ds => v_listVals ds
  | .notInRange, ds => v_notInRange ds
  | .get, ds => v_get ds
  | .index, ds => v_index ds
  | .join, ds => v_join ds
  | .mk _, _ => none

/-! ### environments -/
def getS (ρ : PEnv) (i : Nat) : Option PyData := match ρ[i]? with
  | some (.fz d) => some d
  | some (.ow d) => some d
  | _ => none
def getO (ρ : PEnv) (i : Nat) : Option PyData := match ρ[i]? with
  | some (.ow d) => some d
  | _ => none
def setF (ρ : PEnv) (i : Nat) (d : PyData) (f : Fl) : PEnv := ρ.set i (match f with | .sh => .fz d | .fr => .ow d)
def wipeP (ρ : PEnv) : List Nat → PEnv
  | [] => ρ
  | v :: vs => (wipeP ρ vs).set v .no
def noOwn (ρ : PEnv) (vs : List Nat) : Bool := vs.all fun i => match ρ[i]? with | some (.ow _) => false | _ => true
/-- the slots vs as in ρ, else as in ρ' -/
def backP (ρ ρ' : PEnv) : List Nat → PEnv
  | [] => ρ'
  | v :: vs => match ρ[v]? with
    | some x => (backP ρ ρ' vs).set v x
    | none => backP ρ ρ' vs
/-- all slots read only -/
def frzS : Sl → Sl
  | .ow d => .fz d
  | x => x
def frzAll (ρ : PEnv) : PEnv := ρ.map frzS
def frz (ρ : PEnv) (is : List Nat) : PEnv := is.foldl (fun (ρ : PEnv) (i : Nat) => match ρ[i]? with | some (.ow d) => ρ.set i (.fz d) | _ => ρ) ρ

mutual
def asgG : G → PyData → PEnv → Option PEnv
  | .nm i, d, ρ => if i < ρ.length then some (ρ.set i (.fz d)) else none
  | .tp gs, .tuple ds, ρ => asgGs gs ds ρ
  | .tp _, _, _ => none
def asgGs : List G → List PyData → PEnv → Option PEnv
  | [], [], ρ => some ρ
  | g :: gs, d :: ds, ρ => do asgGs gs ds (← asgG g d ρ)
  | _, _, _ => none
end

/-- a comprehension's loop over the items: inner hands on the list so far -/
def compL2 (asgn : PyData → PEnv → Option PEnv) (tst : PEnv → Option (PyData × Fl × PEnv)) (inner : List PyData → PEnv → Option (List PyData × PEnv)) (vs : List Nat) : List PyData → List PyData → PEnv → Option (List PyData × PEnv)
  | [], acc, ρ => some (acc, ρ)
  | d :: ds, acc, ρ => do
    let ρ1 ← asgn d ρ
    let (b, _, ρ2) ← tst ρ1
    match b with
    | .bool true => do
      let (acc', ρ3) ← inner acc ρ2
      compL2 asgn tst inner vs ds acc' (wipeP ρ3 vs)
    | .bool false => compL2 asgn tst inner vs ds acc (wipeP ρ2 vs)
    | _ => none

/-- .. of one clause -/
def addV (elt : PEnv → Option (PyData × Fl × PEnv)) (acc : List PyData) (ρ : PEnv) : Option (List PyData × PEnv) := do
  let (v, _, ρ') ← elt ρ
  if acc.length < sizeLine then some (acc ++ [v], ρ') else none
def compL (asgn : PyData → PEnv → Option PEnv) (tst : PEnv → Option (PyData × Fl × PEnv)) (elt : PEnv → Option (PyData × Fl × PEnv)) (vs : List Nat) (ds acc : List PyData) (ρ : PEnv) : Option (List PyData × PEnv) := compL2 asgn tst (addV elt) vs ds acc ρ

/-- the io arguments' contents behind all arguments -/
def fillIo (ρ : PEnv) : Es → List PyData → Option (List PyData)
  | .nil, [] => some []
  | .cons (.io i) es, _ :: ds => do return (← getO ρ i) :: (← fillIo ρ es ds)
  | .cons _ es, d :: ds => do return d :: (← fillIo ρ es ds)
  | _, _ => none
def ioSlots : Es → List Nat
  | .nil => []
  | .cons (.io i) es => i :: ioSlots es
  | .cons _ es => ioSlots es
def putIo : List Nat → List PyData → PEnv → Option PEnv
  | [], [], ρ => some ρ
  | i :: is, d :: ds, ρ => putIo is ds (ρ.set i (.ow d))
  | _, _, _ => none

section
variable (Φ : Nat → List PyData → Option (PyData × List PyData)) (gl : List PyData)
mutual
def ev : E → PEnv → Option (PyData × Fl × PEnv)
  | .non, ρ => some (.none, .sh, ρ)
  | .bl b, ρ => some (.bool b, .sh, ρ)
  | .int i, ρ => some (.int i, .sh, ρ)
  | .str s, ρ => some (.str s, .sh, ρ)
  | .var i, ρ => (getS ρ i).map fun d => (d, .sh, ρ)
  | .io i, ρ => (getO ρ i).map fun _ => (.none, .sh, ρ)
  | .glob g, ρ => (match gl[g]? with
    | some (.str s) => some (.str s, .sh, ρ)
    | _ => none)
  | .inG neg a g, ρ => do
    let (x, _, ρ1) ← ev a ρ
    let b ← inV x (← gl[g]?)
    return (.bool (if neg then !b else b), .sh, ρ1)
  | .ixG g k, ρ => do
    let (x, _, ρ1) ← ev k ρ
    return (← ixV (← gl[g]?) x, .sh, ρ1)
  | .box e, ρ => do
    let (d, f, _) ← ev e (frzAll ρ)
    match f with
    | .sh => if immD d then some (d, .sh, ρ) else none
    | .fr => if immTop d then some (d, .fr, ρ) else none
  | .un op a, ρ => do
    let (d, _, ρ1) ← ev a ρ
    return (← unV op d, .sh, ρ1)
  | .bin op a b, ρ => do
    let (x, _, ρ1) ← ev a ρ
    let (y, _, ρ2) ← ev b ρ1
    let (d, f) ← binV op x y
    return (d, f, ρ2)
  | .cmp op a b, ρ => do
    let (x, _, ρ1) ← ev a ρ
    let (y, _, ρ2) ← ev b ρ1
    return (.bool (← cmpV op x y), .sh, ρ2)
  | .chain op op' a b c, ρ => do
    let (x, _, ρ1) ← ev a ρ
    let (y, _, ρ2) ← ev b ρ1
    match ← cmpV op x y with
    | true => do
      let (z, _, ρ3) ← ev c ρ2
      return (.bool (← cmpV op' y z), .sh, ρ3)
    | false => some (.bool false, .sh, ρ2)
  | .bop .And a b, ρ => do
    let (x, _, ρ1) ← ev a ρ
    match x with
    | .bool true => ev b ρ1
    | .bool false => some (.bool false, .sh, ρ1)
    | _ => none
  | .bop .Or a b, ρ => do
    let (x, _, ρ1) ← ev a ρ
    match x with
    | .bool true => some (.bool true, .sh, ρ1)
    | .bool false => ev b ρ1
    | _ => none
  | .ite c a b, ρ => do
    let (x, _, ρ1) ← ev c ρ
    match x with
    | .bool true => ev a ρ1
    | .bool false => ev b ρ1
    | _ => none
  | .tup es, ρ => do
    let (ds, ρ1) ← evs es ρ
    if ds.length ≤ sizeLine then some (.tuple ds, .sh, ρ1) else none
  | .lst es, ρ => do
    let (ds, ρ1) ← evs es ρ
    if ds.length ≤ sizeLine then some (.list ds, .fr, ρ1) else none
  | .dic es, ρ => do
    let (ds, ρ1) ← evs es ρ
    if ds.length ≤ 30 then return (.dict (← dictOf (pairUp ds)), .fr, ρ1) else none
  | .ix a b, ρ => do
    let (x, _, ρ1) ← ev a ρ
    let (y, _, ρ2) ← ev b ρ1
    return (← ixV x y, .sh, ρ2)
  | .sl a lo hi, ρ => do
    let (x, _, ρ1) ← ev a ρ
    let (l, ρ2) ← evo lo ρ1
    let (h, ρ3) ← evo hi ρ2
    let (d, f) ← slV x (← optI l) (← optI h)
    return (d, f, ρ3)
  | .rev a, ρ => do
    let (x, _, ρ1) ← ev a ρ
    let (d, f) ← revV x
    return (d, f, ρ1)
  | .bi f es, ρ => do
    let (ds, ρ1) ← evs es ρ
    let (d, fl) ← biV f ds
    return (d, fl, ρ1)
  | .call f es, ρ => do
    let (ds, ρ1) ← evs es ρ
    let (d, outs) ← Φ f (← fillIo ρ1 es ds)
    return (d, .sh, ← putIo (ioSlots es) outs ρ1)
  | .comp vs g it c e, ρ => do
    let (ds, ρ1) ← evi it ρ
    if noOwn ρ1 vs then do
      let (acc, ρ2) ← compL (asgG g) (fun ρ => ev c ρ) (fun ρ => ev e ρ) vs ds [] (wipeP ρ1 vs)
      return (.list acc, .fr, backP ρ1 ρ2 vs)
    else none
  | .comp2 vs vs1 g it c g1 it1 c1 e, ρ => do
    let (ds, ρ1) ← evi it ρ
    if noOwn ρ1 vs then do
      let (acc, ρ2) ← compL2 (asgG g) (fun ρ => ev c ρ) (fun acc ρ => do
        let (ds1, ρ3) ← evi it1 ρ
        compL (asgG g1) (fun ρ => ev c1 ρ) (fun ρ => ev e ρ) vs1 ds1 acc (wipeP ρ3 vs1)) vs ds [] (wipeP ρ1 vs)
      return (.list acc, .fr, backP ρ1 ρ2 vs)
    else none
def evo : O → PEnv → Option (Option PyData × PEnv)
  | .no, ρ => some (none, ρ)
  | .so e, ρ => do
    let (d, _, ρ1) ← ev e ρ
    return (some d, ρ1)
def evs : Es → PEnv → Option (List PyData × PEnv)
  | .nil, ρ => some ([], ρ)
  | .cons e es, ρ => do
    let (d, _, ρ1) ← ev e ρ
    let (ds, ρ2) ← evs es ρ1
    return (d :: ds, ρ2)
def evi : I → PEnv → Option (List PyData × PEnv)
  | .glob g, ρ => do return (← itemsD (← gl[g]?), ρ)
  | .seq e, ρ => do
    let (d, _, ρ1) ← ev e ρ
    return (← itemsD d, ρ1)
  | .dk i, ρ => (match getS ρ i with
    | some (.dict kvs) => some (kvs.map (·.1), ρ)
    | _ => none)
  | .rng es, ρ => do
    let (ds, ρ1) ← evs es ρ
    return (← rngD ds, ρ1)
  | .zip a b, ρ => do
    let (x, _, ρ1) ← ev a ρ
    let (y, _, ρ2) ← ev b ρ1
    match x, y with
    | .list xs, .list ys => some ((xs.zip ys).map fun p => .tuple [p.1, p.2], ρ2)
    | .tuple xs, .tuple ys => some ((xs.zip ys).map fun p => .tuple [p.1, p.2], ρ2)
    | _, _ => none
  | .enum a, ρ => do
    let (x, _, ρ1) ← ev a ρ
    match x with
    | .list xs => some ((List.range xs.length).zipWith (fun k d => .tuple [.int (k : Nat), d]) xs, ρ1)
    | _ => none
end
end

/-! ### what an expression reads as it stands, what it changes -/
/-- a mark among the slots that are read: a dict is walked -/
abbrev lkM : Nat := 1000000
def notDict : PyData → Bool
  | .dict _ => false
  | _ => true
mutual
def als : E → List Nat
  | .var i => [i]
  | .un _ a | .rev a | .inG _ a _ | .ixG _ a => als a
  | .bin _ a b | .cmp _ a b | .bop _ a b | .ix a b => als a ++ als b
  | .chain _ _ a b c | .ite a b c => als a ++ (als b ++ als c)
  | .tup es | .lst es | .bi _ es | .call _ es | .dic es => alss es
  | .sl a lo hi => als a ++ (alsO lo ++ alsO hi)
  | .comp _ _ it c e => alsI it ++ (als c ++ als e)
  | .comp2 _ _ _ it c _ it1 c1 e => alsI it ++ (als c ++ (alsI it1 ++ (als c1 ++ als e)))
  | _ => []
def alsO : O → List Nat
  | .no => []
  | .so e => als e
def alss : Es → List Nat
  | .nil => []
  | .cons e es => als e ++ alss es
def alsI : I → List Nat
  | .glob _ => []
  | .seq e => als e
  | .dk i => [i, lkM]
  | .rng es => alss es
  | .zip a b => als a ++ als b
  | .enum a => als a
end
mutual
def mods : E → List Nat
  | .io i => [i]
  | .un _ a | .rev a | .inG _ a _ | .ixG _ a => mods a
  | .bin _ a b | .cmp _ a b | .bop _ a b | .ix a b => mods a ++ mods b
  | .chain _ _ a b c | .ite a b c => mods a ++ (mods b ++ mods c)
  | .tup es | .lst es | .bi _ es | .call _ es | .dic es => modss es
  | .sl a lo hi => mods a ++ (modsO lo ++ modsO hi)
  | .comp _ _ it c e => modsI it ++ (mods c ++ mods e)
  | .comp2 _ _ _ it c _ it1 c1 e => modsI it ++ (mods c ++ (modsI it1 ++ (mods c1 ++ mods e)))
  | _ => []
def modsO : O → List Nat
  | .no => []
  | .so e => mods e
def modss : Es → List Nat
  | .nil => []
  | .cons e es => mods e ++ modss es
def modsI : I → List Nat
  | .glob _ => []
  | .seq e => mods e
  | .dk _ => []
  | .rng es => modss es
  | .zip a b => mods a ++ mods b
  | .enum a => mods a
end
def isOwn (ρ : PEnv) (i : Nat) : Bool := match ρ[i]? with | some (.ow _) => true | _ => false
/-- what is changed is one's own, and not read as it stands -/
def okM (ρ : PEnv) (as ms : List Nat) : Bool := (ms.all fun i => isOwn ρ i && !as.contains i) &&
  (!as.contains lkM || as.all fun i => match ρ[i]? with | some (.ow d) => notDict d | _ => true)
def immF (d : PyData) : Fl → Bool
  | .sh => immD d
  | .fr => immTop d
/-- ρ: ahead of the expression, ρ1: behind it -/
def frzIf (ρ ρ1 : PEnv) (as ms : List Nat) (b : Bool) : PEnv := if b && ms.isEmpty then ρ else frz ρ1 as

/-- kvs, with all of more put into it -/
def mergeD (kvs more : List (PyData × PyData)) : List (PyData × PyData) := more.foldl (fun acc p => match dkey p.1 with
  | some k => dput acc k p.1 p.2
  | none => acc) kvs
def mutV : String → PyData → PyData → Option PyData
  | "append", .list xs, d => if xs.length < sizeLine then some (.list (xs ++ [d])) else none
  | "extend", .list xs, .list ys => if xs.length + ys.length ≤ sizeLine then some (.list (xs ++ ys)) else none
  | "update", .dict kvs, .dict more => if kvs.all plainKey && more.all plainKey && decide (kvs.length + more.length ≤ sizeLine) then some (.dict (mergeD kvs more)) else none
  | "remove", .list xs, d => if okD (.list xs) && okD d && (xs.any fun y => PyData.eqv y d) then some (.list (xs.eraseP fun y => PyData.eqv y d)) else none
  | _, _, _ => none
def augV : Operator → PyData → PyData → Option PyData
  | .Add, .int a, .int b => some (.int (a + b))
  | .Sub, .int a, .int b => some (.int (a - b))
  | _, _, _ => none
def mKind : String → PyData → Bool
  | "update", .dict _ => true
  | "update", _ => false
  | _, .list _ => true
  | _, _ => false
def setV : PyData → PyData → PyData → Option PyData
  | .list xs, .int i, v => (ixN xs.length i).map fun j => .list (xs.set j v)
  | .dict kvs, kd, v => do
    let k ← dkey kd
    if dfits kvs k && decide (kvs.length < sizeLine) then some (.dict (dput kvs k kd v)) else none
  | _, _, _ => none

inductive Out where
  | nx (ρ : PEnv) | bk (ρ : PEnv) | rt (d : PyData) (ρ : PEnv)
def forL (asgn : PyData → PEnv → Option PEnv) (body : PEnv → Option Out) (dead : List Nat) : List PyData → PEnv → Option Out
  | [], ρ => some (.nx (wipeP ρ dead))
  | d :: ds, ρ => do
    let ρ1 ← asgn d (wipeP ρ dead)
    match ← body ρ1 with
    | .nx ρ2 => forL asgn body dead ds ρ2
    | .bk ρ2 => some (.nx (wipeP ρ2 dead))
    | .rt d ρ2 => some (.rt d ρ2)
def whileL (tst : PEnv → Option (Bool × PEnv)) (body : PEnv → Option Out) (dead : List Nat) : Nat → PEnv → Option Out
  | 0, _ => none
  | n + 1, ρ => do
    let (b, ρ1) ← tst (wipeP ρ dead)
    match b with
    | false => some (.nx ρ1)
    | true => do
      match ← body ρ1 with
      | .nx ρ2 => whileL tst body dead n ρ2
      | .bk ρ2 => some (.nx (wipeP ρ2 dead))
      | .rt d ρ2 => some (.rt d ρ2)

section
variable (Φ : Nat → List PyData → Option (PyData × List PyData)) (gl : List PyData) (ios : List Nat)
/-- an expression of a statement: its value, its flag, the environment behind it -/
def evE (e : E) (ρ : PEnv) : Option (PyData × Fl × PEnv) := if okM ρ (als e) (mods e) then do
    let (d, f, ρ1) ← ev Φ gl e ρ
    return (d, f, frzIf ρ ρ1 (als e) (mods e) (immF d f))
  else none
def evT (e : E) (ρ : PEnv) : Option (Bool × PEnv) := do
  let (d, _, ρ1) ← evE Φ gl e ρ
  match d with
  | .bool b => some (b, ρ1)
  | _ => none
def evIt (it : I) (ρ : PEnv) : Option (List PyData × PEnv) := if okM ρ (alsI it) (modsI it) then do
    let (ds, ρ1) ← evi Φ gl it ρ
    return (ds, match it with | .rng _ => frzIf ρ ρ1 (alsI it) (modsI it) true | _ => frz ρ1 (alsI it))
  else none
def asgDs : List Nat → Es → PEnv → Option (List (PyData × Fl) × PEnv)
  | [], .nil, ρ => some ([], ρ)
  | _ :: is, .cons e es, ρ => do
    let (d, f, ρ1) ← evE Φ gl e ρ
    let (r, ρ2) ← asgDs is es ρ1
    return ((d, f) :: r, ρ2)
  | _, _, _ => none
def setAll : List Nat → List (PyData × Fl) → PEnv → PEnv
  | i :: is, (d, f) :: r, ρ => setAll is r (setF ρ i d f)
  | _, _, ρ => ρ
mutual
def run : S → PEnv → Option Out
  | .asg i e, ρ => do
    let (d, f, ρ1) ← evE Φ gl e ρ
    if decide (i < ρ.length) && !ios.contains i then some (.nx (setF ρ1 i d f)) else none
  | .asgT g e, ρ => do
    let (d, _, ρ1) ← evE Φ gl e ρ
    return .nx (← asgG g d ρ1)
  | .asgO i j f es, ρ => if okM ρ (alss es) [] && (modss es).isEmpty then do
      let (ds, _) ← evs Φ gl es ρ
      if noILs ds then do
        match ← Φ f ds with
        | (.tuple [.list (.int x :: xs), .int y], _) => if immAll xs && decide (i < ρ.length) && !ios.contains i && decide (j < ρ.length) && !ios.contains j && !decide (i = j) then some (.nx ((ρ.set i (.ow (.list (.int x :: xs)))).set j (.fz (.int y)))) else none
        | _ => none
      else none
    else none
  | .asgD is es, ρ => do
    let (r, ρ1) ← asgDs Φ gl is es ρ
    if is.all fun i => decide (i < ρ.length) && !ios.contains i then some (.nx (setAll is r ρ1)) else none
  | .setIx i k e, ρ => do
    let (v, _, ρ1) ← evE Φ gl e ρ
    let _ ← getO ρ1 i
    let (kd, _, ρ2) ← evE Φ gl k ρ1
    return .nx (ρ2.set i (.ow (← setV (← getO ρ2 i) kd v)))
  | .asgDS i k j a b, ρ => do
    let (x, _, ρ1) ← evE Φ gl a ρ
    let (y, _, ρ2) ← evE Φ gl b ρ1
    let _ ← getO ρ2 i
    let (kd, _, ρ3) ← evE Φ gl k ρ2
    let ρ4 := ρ3.set i (.ow (← setV (← getO ρ3 i) kd x))
    if decide (j < ρ.length) && !ios.contains j then some (.nx (ρ4.set j (.fz y))) else none
  | .aug i op e, ρ => do
    let (y, _, ρ1) ← evE Φ gl e ρ
    let d ← augV op (← getS ρ i) y
    if ios.contains i then none else some (.nx (ρ1.set i (.fz d)))
  | .augIx i k op e, ρ => do
    let _ ← getO ρ i
    let (kd, _, ρ1) ← evE Φ gl k ρ
    match ← getO ρ1 i, dkey kd with
    | .dict kvs, some (.inl _) => do
      match ← ixV (.dict kvs) kd with
      | .int a => do
        let (y, _, ρ2) ← evE Φ gl e ρ1
        match y with
        | .int b => do
          match ← getO ρ2 i with
          | .dict c => do
            let z ← augV op (.int a) (.int b)
            return .nx (ρ2.set i (.ow (← setV (.dict c) kd z)))
          | _ => none
        | _ => none
      | _ => none
    | _, _ => none
  | .mut m i e, ρ => do
    if mKind m (← getO ρ i) then do
      let (v, _, ρ1) ← evE Φ gl e ρ
      return .nx (ρ1.set i (.ow (← mutV m (← getO ρ1 i) v)))
    else none
  | .pop g i, ρ => do
    match ← getO ρ i with
    | .list xs => do
      let x ← xs[xs.length - 1]?
      return .nx (← asgG g x (ρ.set i (.ow (.list xs.dropLast))))
    | _ => none
  | .ifs c a b, ρ => do
    match ← evT Φ gl c ρ with
    | (true, ρ1) => runs a ρ1
    | (false, ρ1) => runs b ρ1
  | .for_ g it b dead, ρ => do
    let (ds, ρ1) ← evIt Φ gl it ρ
    forL (asgG g) (fun ρ => runs b ρ) dead ds ρ1
  | .whil c b dead, ρ => whileL (fun ρ => evT Φ gl c ρ) (fun ρ => runs b ρ) dead 1000000 ρ
  | .ret e, ρ => do
    let (d, _, ρ1) ← evE Φ gl e ρ
    return .rt d ρ1
  | .brk, ρ => some (.bk ρ)
  | .frz is, ρ => if is.contains lkM then none else some (.nx (frz ρ is))
def runs : Ss → PEnv → Option Out
  | .nil, ρ => some (.nx ρ)
  | .cons s ss, ρ => do
    match ← run s ρ with
    | .nx ρ1 => runs ss ρ1
    | o => some o
end
end

structure Def where
  np : Nat
  ns : Nat
  ios : List Nat
  body : Ss
def envOf (D : Def) (ds : List PyData) : PEnv := (ds.zipIdx.map fun p => if D.ios.contains p.2 then Sl.ow p.1 else .fz p.1) ++ List.replicate (D.ns - D.np) .no
def outsOf (ρ : PEnv) : List Nat → Option (List PyData)
  | [] => some []
  | i :: is => do return (← getO ρ i) :: (← outsOf ρ is)
def phi (tbl : List Def) (gl : List PyData) : Nat → Nat → List PyData → Option (PyData × List PyData)
  | 0, _, _ => none
  | n + 1, f, ds => match tbl[f]? with
    | some D => if ds.length = D.np then do
        match ← runs (phi tbl gl n) gl D.ios D.body (envOf D ds) with
        | .rt d ρ => return (d, ← outsOf ρ D.ios)
        | .nx ρ => return (.none, ← outsOf ρ D.ios)
        | .bk _ => none
      else none
    | none => none
end PP

/-! PP2: how plain data stands in the abstract heap; what is kept. -/
namespace PP
open PySem PySem.Spec PyProof.Rows L2

def keyPD : L2.Key → PyData
  | .inl i => .int i
  | .inr s => .str s
/-- a dict that is read: locked only if it is not empty -/
def RdK (H : Hp) (a : Addr) (kvs : List (L2.Key × V)) : Prop := H a = some (.dK kvs) ∨ (kvs ≠ [] ∧ ∃ o, H a = some (.frz o (.dK kvs)))
def RdT (H : Hp) (a : Addr) (kvs : List (List L2.Key × V)) : Prop := kvs ≠ [] ∧ Rd H a (.dT kvs)
theorem RdK.rd {H : Hp} {a : Addr} {kvs : List (L2.Key × V)} (h : RdK H a kvs) : Rd H a (.dK kvs) := h.elim .inl fun z => .inr z.2
theorem RdT.rd {H : Hp} {a : Addr} {kvs : List (List L2.Key × V)} (h : RdT H a kvs) : Rd H a (.dT kvs) := h.2
mutual
/-- v stands for d, all of it outside of P -/
inductive Rp (K : PySem.W.Frag) (H : Hp) (P : Addr → Prop) : V → PyData → Prop
  | non : Rp K H P .non .none
  | bl (b : Bool) : Rp K H P (.bl b) (.bool b)
  | int (i : Int) : Rp K H P (.int i) (.int i)
  | str (x : Str) : Rp K H P (.str x) (.str x)
  | lst {a : Addr} {xs : List V} {ds : List PyData} : ¬ P a → H a = some (.lst xs) → RpAll K H P xs ds → Rp K H P (.ref a) (.list ds)
  | tup {a : Addr} {xs : List V} {ds : List PyData} : H a = some (.tup xs) → RpAll K H P xs ds → Rp K H P (.ref a) (.tuple ds)
  | dk {a : Addr} {kvs : List (L2.Key × V)} {ds : List (PyData × PyData)} : ¬ P a → RdK H a kvs → RpK K H P kvs ds → Rp K H P (.ref a) (.dict ds)
  | dt {a : Addr} {kvs : List (List L2.Key × V)} {ds : List (PyData × PyData)} : ¬ P a → RdT H a kvs → RpT K H P kvs ds → Rp K H P (.ref a) (.dict ds)
inductive RpAll (K : PySem.W.Frag) (H : Hp) (P : Addr → Prop) : List V → List PyData → Prop
  | nil : RpAll K H P [] []
  | cons {v : V} {vs : List V} {d : PyData} {ds : List PyData} : Rp K H P v d → RpAll K H P vs ds → RpAll K H P (v :: vs) (d :: ds)
inductive RpK (K : PySem.W.Frag) (H : Hp) (P : Addr → Prop) : List (L2.Key × V) → List (PyData × PyData) → Prop
  | nil : RpK K H P [] []
  | cons {k : L2.Key} {v : V} {vs : List (L2.Key × V)} {d : PyData} {ds : List (PyData × PyData)} : Rp K H P v d → RpK K H P vs ds → RpK K H P ((k, v) :: vs) ((keyPD k, d) :: ds)
inductive RpT (K : PySem.W.Frag) (H : Hp) (P : Addr → Prop) : List (List L2.Key × V) → List (PyData × PyData) → Prop
  | nil : RpT K H P [] []
  | cons {k : List L2.Key} {v : V} {vs : List (List L2.Key × V)} {d : PyData} {ds : List (PyData × PyData)} : Rp K H P v d → RpT K H P vs ds → RpT K H P ((k, v) :: vs) ((.tuple (k.map keyPD), d) :: ds)
end

/-- what is kept: all that is tracked outside of P; P' hides no more than P and what is new -/
structure Ext (P P' : Addr → Prop) (H H' : Hp) : Prop where
  keep : ∀ a o, H a = some o → ¬ P a → H' a = some o
  tups : ∀ a xs, H a = some (.tup xs) → H' a = some (.tup xs)
  sub : ∀ a, P' a → P a ∨ H a = none
theorem Ext.rd {P P' : Addr → Prop} {H H' : Hp} (e : Ext P P' H H') {a : Addr} {u : HO} (h : ¬ P a) (r : Rd H a u) : Rd H' a u := by
  rcases r with r | ⟨o, r⟩
  · exact .inl (e.keep _ _ r h)
  · exact .inr ⟨o, e.keep _ _ r h⟩
theorem Ext.rdK {P P' : Addr → Prop} {H H' : Hp} (e : Ext P P' H H') {a : Addr} {u : List (L2.Key × V)} (h : ¬ P a) (r : RdK H a u) : RdK H' a u := by
  rcases r with r | ⟨n, o, r⟩
  · exact .inl (e.keep _ _ r h)
  · exact .inr ⟨n, o, e.keep _ _ r h⟩
theorem Ext.rdT {P P' : Addr → Prop} {H H' : Hp} (e : Ext P P' H H') {a : Addr} {u : List (List L2.Key × V)} (h : ¬ P a) (r : RdT H a u) : RdT H' a u := ⟨r.1, e.rd h r.2⟩
theorem Ext.not {P P' : Addr → Prop} {H H' : Hp} (e : Ext P P' H H') {a : Addr} {o : HO} (h : ¬ P a) (r : H a = some o) : ¬ P' a := fun q => by
  rcases e.sub a q with z | z
  · exact h z
  · rw [r] at z; cases z
theorem Ext.notR {P P' : Addr → Prop} {H H' : Hp} (e : Ext P P' H H') {a : Addr} {o : HO} (h : ¬ P a) (r : Rd H a o) : ¬ P' a := by
  rcases r with r | ⟨q, r⟩
  · exact e.not h r
  · exact e.not h r
theorem Ext.refl {P : Addr → Prop} {H : Hp} : Ext P P H H := ⟨fun _ _ h _ => h, fun _ _ h => h, fun _ h => .inl h⟩
theorem Ext.new {P : Addr → Prop} {H : Hp} {p : Addr} {o : HO} (h : H p = none) : Ext P P H (upd H p o) :=
  ⟨fun a u e _ => by rw [upd_ne (ne_of_none e h)]; exact e, fun a u e => by rw [upd_ne (ne_of_none e h)]; exact e, fun _ h => .inl h⟩
theorem Ext.newP {P : Addr → Prop} {H : Hp} {p : Addr} {o : HO} (h : H p = none) : Ext P (fun a => P a ∨ a = p) H (upd H p o) :=
  ⟨fun a u e _ => by rw [upd_ne (ne_of_none e h)]; exact e, fun a u e => by rw [upd_ne (ne_of_none e h)]; exact e, fun a z => z.elim .inl fun e => .inr (e ▸ h)⟩
theorem Ext.addP {P : Addr → Prop} {H : Hp} {p : Addr} (h : H p = none) : Ext P (fun a => P a ∨ a = p) H H :=
  ⟨fun a u e _ => e, fun a u e => e, fun a z => z.elim .inl fun e => .inr (e ▸ h)⟩
theorem Ext.less {P P' : Addr → Prop} {H : Hp} (h : ∀ a, P' a → P a) : Ext P P' H H := ⟨fun _ _ e _ => e, fun _ _ e => e, fun a z => .inl (h a z)⟩
theorem Ext.same {P : Addr → Prop} {H H' : Hp} (h : ∀ a o, H a = some o → H' a = some o) : Ext P P H H' := ⟨fun a o e _ => h a o e, fun a xs e => h a _ e, fun _ z => .inl z⟩
theorem immAll_cons {x : PyData} {xs : List PyData} (q : immAll (x :: xs) = true) : immD x = true ∧ immAll xs = true := by rw [immAll, Bool.and_eq_true] at q; exact q
theorem plainAll_cons {x : PyData} {xs : List PyData} (q : PyData.plainAll (x :: xs) = true) : x.plain = true ∧ PyData.plainAll xs = true := by rw [PyData.plainAll, Bool.and_eq_true] at q; exact q
section
variable {K : PySem.W.Frag} {P P' : Addr → Prop} {H H' : Hp}
mutual
theorem Rp.ext (e : Ext P P' H H') : ∀ {v : V} {d : PyData}, Rp K H P v d → Rp K H' P' v d
  | _, _, .non => .non
  | _, _, .bl b => .bl b
  | _, _, .int i => .int i
  | _, _, .str x => .str x
  | _, _, .lst n h r => .lst (e.not n h) (e.keep _ _ h n) (RpAll.ext e r)
  | _, _, .tup h r => .tup (e.tups _ _ h) (RpAll.ext e r)
  | _, _, .dk n h r => .dk (e.notR n h.rd) (e.rdK n h) (RpK.ext e r)
  | _, _, .dt n h r => .dt (e.notR n h.rd) (e.rdT n h) (RpT.ext e r)
theorem RpAll.ext (e : Ext P P' H H') : ∀ {v : List V} {d : List PyData}, RpAll K H P v d → RpAll K H' P' v d
  | _, _, .nil => .nil
  | _, _, .cons r rs => .cons (Rp.ext e r) (RpAll.ext e rs)
theorem RpK.ext (e : Ext P P' H H') : ∀ {v : List (L2.Key × V)} {d : List (PyData × PyData)}, RpK K H P v d → RpK K H' P' v d
  | _, _, .nil => .nil
  | _, _, .cons r rs => .cons (Rp.ext e r) (RpK.ext e rs)
theorem RpT.ext (e : Ext P P' H H') : ∀ {v : List (List L2.Key × V)} {d : List (PyData × PyData)}, RpT K H P v d → RpT K H' P' v d
  | _, _, .nil => .nil
  | _, _, .cons r rs => .cons (Rp.ext e r) (RpT.ext e rs)
end
mutual
/-- data with nothing mutable within stands wherever tuples stay -/
theorem Rp.imm (ht : ∀ a xs, H a = some (.tup xs) → H' a = some (.tup xs)) : ∀ {v : V} {d : PyData}, immD d = true → Rp K H P v d → Rp K H' P' v d
  | _, _, _, .non => .non
  | _, _, _, .bl b => .bl b
  | _, _, _, .int i => .int i
  | _, _, _, .str x => .str x
  | _, _, q, .lst n h r => by simp [immD] at q
  | _, _, q, .tup h r => .tup (ht _ _ h) (RpAll.imm ht (by simpa [immD] using q) r)
  | _, _, q, .dk n h r => by simp [immD] at q
  | _, _, q, .dt n h r => by simp [immD] at q
theorem RpAll.imm (ht : ∀ a xs, H a = some (.tup xs) → H' a = some (.tup xs)) : ∀ {v : List V} {d : List PyData}, immAll d = true → RpAll K H P v d → RpAll K H' P' v d
  | _, _, _, .nil => .nil
  | _, _, q, .cons r rs => by
    have q' := immAll_cons q
    exact .cons (Rp.imm ht q'.1 r) (RpAll.imm ht q'.2 rs)
end
theorem RpK.imm (ht : ∀ a xs, H a = some (.tup xs) → H' a = some (.tup xs)) : ∀ {v : List (L2.Key × V)} {d : List (PyData × PyData)}, immAll (d.map (·.2)) = true → RpK K H P v d → RpK K H' P' v d
  | _, _, _, .nil => .nil
  | _, _, q, .cons r rs => by
    have q' := immAll_cons q
    exact .cons (Rp.imm ht q'.1 r) (RpK.imm ht q'.2 rs)
theorem RpT.imm (ht : ∀ a xs, H a = some (.tup xs) → H' a = some (.tup xs)) : ∀ {v : List (List L2.Key × V)} {d : List (PyData × PyData)}, immAll (d.map (·.2)) = true → RpT K H P v d → RpT K H' P' v d
  | _, _, _, .nil => .nil
  | _, _, q, .cons r rs => by
    have q' := immAll_cons q
    exact .cons (Rp.imm ht q'.1 r) (RpT.imm ht q'.2 rs)

theorem RpAll.length : ∀ {vs : List V} {ds : List PyData}, RpAll K H P vs ds → vs.length = ds.length
  | _, _, .nil => rfl
  | _, _, .cons _ r => by simp [RpAll.length r]
theorem RpK.length : ∀ {vs : List (L2.Key × V)} {ds : List (PyData × PyData)}, RpK K H P vs ds → vs.length = ds.length
  | _, _, .nil => rfl
  | _, _, .cons _ r => by simp [RpK.length r]
theorem RpT.length : ∀ {vs : List (List L2.Key × V)} {ds : List (PyData × PyData)}, RpT K H P vs ds → vs.length = ds.length
  | _, _, .nil => rfl
  | _, _, .cons _ r => by simp [RpT.length r]
theorem RpAll.append : ∀ {vs ws : List V} {ds es : List PyData}, RpAll K H P vs ds → RpAll K H P ws es → RpAll K H P (vs ++ ws) (ds ++ es)
  | _, _, _, _, .nil, s => s
  | _, _, _, _, .cons r rs, s => .cons r (RpAll.append rs s)
theorem RpAll.get : ∀ {vs : List V} {ds : List PyData} {i : Nat} {d : PyData}, RpAll K H P vs ds → ds[i]? = some d → ∃ v, vs[i]? = some v ∧ Rp K H P v d
  | _, _, _, _, .nil, e => by simp at e
  | _, _, 0, _, .cons r rs, e => by simp at e; subst e; exact ⟨_, rfl, r⟩
  | _, _, i + 1, _, .cons r rs, e => by
    obtain ⟨v, h1, h2⟩ := RpAll.get (i := i) rs (by simpa using e)
    exact ⟨v, by simpa using h1, h2⟩
theorem RpAll.getV : ∀ {vs : List V} {ds : List PyData} {i : Nat} {v : V}, RpAll K H P vs ds → vs[i]? = some v → ∃ d, ds[i]? = some d ∧ Rp K H P v d
  | _, _, _, _, .nil, e => by simp at e
  | _, _, 0, _, .cons r rs, e => by simp at e; subst e; exact ⟨_, rfl, r⟩
  | _, _, i + 1, _, .cons r rs, e => by
    obtain ⟨v, h1, h2⟩ := RpAll.getV (i := i) rs (by simpa using e)
    exact ⟨v, by simpa using h1, h2⟩
theorem RpAll.take : ∀ {vs : List V} {ds : List PyData} (n : Nat), RpAll K H P vs ds → RpAll K H P (vs.take n) (ds.take n)
  | _, _, 0, _ => .nil
  | _, _, _ + 1, .nil => .nil
  | _, _, n + 1, .cons r rs => .cons r (RpAll.take n rs)
theorem RpAll.drop : ∀ {vs : List V} {ds : List PyData} (n : Nat), RpAll K H P vs ds → RpAll K H P (vs.drop n) (ds.drop n)
  | _, _, 0, r => r
  | _, _, _ + 1, .nil => .nil
  | _, _, n + 1, .cons r rs => RpAll.drop n rs
theorem RpAll.reverse {vs : List V} {ds : List PyData} (r : RpAll K H P vs ds) : RpAll K H P vs.reverse ds.reverse := by
  induction vs generalizing ds with
  | nil => cases r; exact .nil
  | cons v vs ih =>
    cases r with
    | cons r rs =>
      rw [List.reverse_cons, List.reverse_cons]
      exact (ih rs).append (.cons r .nil)
theorem RpAll.set : ∀ {vs : List V} {ds : List PyData} {v : V} {d : PyData} (i : Nat), RpAll K H P vs ds → Rp K H P v d → RpAll K H P (vs.set i v) (ds.set i d)
  | _, _, _, _, _, .nil, _ => .nil
  | _, _, _, _, 0, .cons _ rs, r => .cons r rs
  | _, _, _, _, i + 1, .cons q rs, r => .cons q (RpAll.set i rs r)
theorem RpAll.rep {vs : List V} {ds : List PyData} (r : RpAll K H P vs ds) : ∀ k : Nat, RpAll K H P (List.replicate k vs).flatten (List.replicate k ds).flatten
  | 0 => .nil
  | k + 1 => by
    rw [List.replicate_succ, List.replicate_succ, List.flatten_cons, List.flatten_cons]
    exact r.append (RpAll.rep r k)

/-! to the layer's own relation -/
mutual
theorem Rp.dp : ∀ {d : PyData} {v : V}, d.plain = true → Rp K H P v d → Dp K H v d
  | _, _, _, .non => .non
  | _, _, _, .bl b => .bl b
  | _, _, _, .int i => .int i
  | _, _, _, .str x => .str x
  | _, _, q, .lst n h r => .lst (.inl (.inl h)) (RpAll.dp (by simpa [PyData.plain] using q) r)
  | _, _, q, .tup h r => .tup (.inl (.inl h)) (RpAll.dp (by simpa [PyData.plain] using q) r)
  | _, _, q, .dk n h r => by simp [PyData.plain] at q
  | _, _, q, .dt n h r => by simp [PyData.plain] at q
theorem RpAll.dp : ∀ {ds : List PyData} {vs : List V}, PyData.plainAll ds = true → RpAll K H P vs ds → DpAll K H vs ds
  | _, _, _, .nil => .nil
  | _, _, q, .cons r rs => by
    have q' := plainAll_cons q
    exact .cons (Rp.dp q'.1 r) (RpAll.dp q'.2 rs)
end
end
section
variable {X : Cx} {pins : List (Addr × Obj)} {σ : L2.St} {H : Hp} {s : Shared} {P : Addr → Prop}
theorem Rp.reads (I : Inv X pins σ H s) {d : PyData} {v : V} {u : Value} (q : d.plain = true) (h : Rp X.K H P v d) (r : RelV v u) : ∃ as, Reads s.heap u d as := Dp.reads I d v u (h.dp q) r
theorem RpAll.readsAll (I : Inv X pins σ H s) {ds : List PyData} {vs : List V} {us : List Value} (q : PyData.plainAll ds = true) (h : RpAll X.K H P vs ds) (r : Vals vs us) : ∃ as, ReadsAll s.heap us ds as := Dp.readsAll I ds vs us (h.dp q) r
end

/-- one's own object at a -/
inductive Own (K : PySem.W.Frag) (H : Hp) (P : Addr → Prop) (a : Addr) : PyData → Prop
  | lst {xs : List V} {ds : List PyData} : H a = some (.lst xs) → RpAll K H P xs ds → Own K H P a (.list ds)
  | dk {kvs : List (L2.Key × V)} {ds : List (PyData × PyData)} : H a = some (.dK kvs) → RpK K H P kvs ds → Own K H P a (.dict ds)
  | dt {kvs : List (List L2.Key × V)} {ds : List (PyData × PyData)} : kvs ≠ [] → H a = some (.dT kvs) → RpT K H P kvs ds → Own K H P a (.dict ds)
section
variable {K : PySem.W.Frag} {P P' : Addr → Prop} {H H' : Hp} {a : Addr} {d : PyData}
theorem Own.rp (o : Own K H P a d) (h : ¬ P a) : Rp K H P (.ref a) d := by
  cases o with
  | lst e r => exact .lst h e r
  | dk e r => exact .dk h (.inl e) r
  | dt n e r => exact .dt h ⟨n, .inl e⟩ r
theorem Own.ext (e : Ext P P' H H') (ha : ∀ o, H a = some o → H' a = some o) (o : Own K H P a d) : Own K H' P' a d := by
  cases o with
  | lst h r => exact .lst (ha _ h) (r.ext e)
  | dk h r => exact .dk (ha _ h) (r.ext e)
  | dt n h r => exact .dt n (ha _ h) (r.ext e)
theorem Own.imm (ht : ∀ a xs, H a = some (.tup xs) → H' a = some (.tup xs)) (ha : ∀ o, H a = some o → H' a = some o) (q : immTop d = true) (o : Own K H P a d) : Own K H' P' a d := by
  cases o with
  | lst h r => exact .lst (ha _ h) (r.imm ht (by simpa [immTop] using q))
  | dk h r => exact .dk (ha _ h) (r.imm ht (by simpa [immTop] using q))
  | dt n h r => exact .dt n (ha _ h) (r.imm ht (by simpa [immTop] using q))
/-- what may be one's own: a list, a dict -/
def isM : HO → Prop
  | .lst _ => True
  | .dK _ => True
  | .dT _ => True
  | .frz _ _ => True
  | _ => False
theorem Own.there (o : Own K H P a d) : ∃ u, H a = some u ∧ isM u := by
  cases o with
  | lst h r => exact ⟨_, h, trivial⟩
  | dk h r => exact ⟨_, h, trivial⟩
  | dt n h r => exact ⟨_, h, trivial⟩
end

/-! ### readings over data: two values in -/
/-- a value handed on: shared, or a new object -/
inductive ValP (K : PySem.W.Frag) (P : Addr → Prop) (H H' : Hp) : V → PyData → Fl → Prop
  | sh {v : V} {d : PyData} : (∀ a o, H a = some o → H' a = some o) → Rp K H' P v d → ValP K P H H' v d .sh
  | fr {a : Addr} {d : PyData} {o : HO} : H a = none → H' = upd H a o → Own K H' (fun b => P b ∨ b = a) a d → ValP K P H H' (.ref a) d .fr
/-- the wish: Q at every such value -/
def WantP (K : PySem.W.Frag) (P : Addr → Prop) (H : Hp) (Q : VK) (d : PyData) (f : Fl) : Prop := ∀ v H', ValP K P H H' v d f → Q v H'
theorem WantP.sh {K : PySem.W.Frag} {P : Addr → Prop} {H : Hp} {Q : VK} {d : PyData} {v : V} (h : WantP K P H Q d .sh) (r : Rp K H P v d) : Q v H := h _ _ (.sh (fun _ _ e => e) r)
theorem WantP.tup {K : PySem.W.Frag} {P : Addr → Prop} {H : Hp} {Q : VK} {vs : List V} {ds : List PyData} (h : WantP K P H Q (.tuple ds) .sh) (r : RpAll K H P vs ds) : ∀ p, H p = none → Q (.ref p) (upd H p (.tup vs)) := fun p hp =>
  h _ _ (.sh (fun a o e => by rw [upd_ne (ne_of_none e hp)]; exact e) (.tup upd_same (r.ext (.new hp))))
theorem WantP.lst {K : PySem.W.Frag} {P : Addr → Prop} {H : Hp} {Q : VK} {vs : List V} {ds : List PyData} (h : WantP K P H Q (.list ds) .fr) (r : RpAll K H P vs ds) : ∀ p, H p = none → Q (.ref p) (upd H p (.lst vs)) := fun p hp =>
  h _ _ (.fr hp rfl (.lst upd_same (r.ext (.newP hp))))
theorem WantP.dk {K : PySem.W.Frag} {P : Addr → Prop} {H : Hp} {Q : VK} {vs : List (L2.Key × V)} {ds : List (PyData × PyData)} (h : WantP K P H Q (.dict ds) .fr) (r : RpK K H P vs ds) : ∀ p, H p = none → Q (.ref p) (upd H p (.dK vs)) := fun p hp =>
  h _ _ (.fr hp rfl (.dk upd_same (r.ext (.newP hp))))
theorem WantP.dt {K : PySem.W.Frag} {P : Addr → Prop} {H : Hp} {Q : VK} {vs : List (List L2.Key × V)} {ds : List (PyData × PyData)} (h : WantP K P H Q (.dict ds) .fr) (n : vs ≠ []) (r : RpT K H P vs ds) : ∀ p, H p = none → Q (.ref p) (upd H p (.dT vs)) := fun p hp =>
  h _ _ (.fr hp rfl (.dt n upd_same (r.ext (.newP hp))))

def rU (K : PySem.W.Frag) (f : PyData → Option (PyData × Fl)) : V → Hp → VK → Prop := fun x H Q => ∃ P dx d fl, Rp K H P x dx ∧ f dx = some (d, fl) ∧ WantP K P H Q d fl
def rB (K : PySem.W.Frag) (f : PyData → PyData → Option (PyData × Fl)) : R2 := fun x y H Q => ∃ P dx dy d fl, Rp K H P x dx ∧ Rp K H P y dy ∧ f dx dy = some (d, fl) ∧ WantP K P H Q d fl
def rC (K : PySem.W.Frag) (f : PyData → PyData → Option Bool) : R2 := rB K fun x y => (f x y).map fun b => (.bool b, .sh)
end PP

/-! PP3: operators by value. -/
namespace PP
open PySem PySem.Spec PyProof.Rows L2
theorem mulOk_ok {i j : Int} (h : mulOk i j = true) : CMul i j := by
  simp only [mulOk, Bool.or_eq_true, Bool.and_eq_true, decide_eq_true_eq] at h
  exact h
section
variable {X : Cx}
theorem opBin (op : Operator) : OpR X (binaryOp op) (rB X.K (binV op)) := by
  intro pins s σ H x y v u Q I rx ry ⟨P, dx, dy, d, fl, hx, hy, e, w⟩
  cases hx with
  | int i =>
    cases hy with
    | int j =>
      cases op with
      | Add =>
        simp only [binV, Option.some.injEq, Prod.mk.injEq] at e
        obtain ⟨rfl, rfl⟩ := e
        exact op_add pins s σ H _ _ v u Q I rx ry ⟨i, j, rfl, rfl, w.sh (.int _)⟩
      | Sub =>
        simp only [binV, Option.some.injEq, Prod.mk.injEq] at e
        obtain ⟨rfl, rfl⟩ := e
        exact op_sub pins s σ H _ _ v u Q I rx ry ⟨i, j, rfl, rfl, w.sh (.int _)⟩
      | Mult =>
        simp only [binV] at e
        split at e
        · rename_i c
          simp only [Option.some.injEq, Prod.mk.injEq] at e
          obtain ⟨rfl, rfl⟩ := e
          exact op_mul pins s σ H _ _ v u Q I rx ry ⟨i, j, rfl, rfl, mulOk_ok c, w.sh (.int _)⟩
        · cases e
      | FloorDiv =>
        simp only [binV] at e
        split at e
        · rename_i c
          simp only [Bool.and_eq_true, decide_eq_true_eq] at c
          simp only [Option.some.injEq, Prod.mk.injEq] at e
          obtain ⟨rfl, rfl⟩ := e
          exact op_fdiv pins s σ H _ _ v u Q I rx ry ⟨i, j, rfl, rfl, c, w.sh (.int _)⟩
        · cases e
      | Mod =>
        simp only [binV] at e
        split at e
        · rename_i c
          simp only [Option.some.injEq, Prod.mk.injEq] at e
          obtain ⟨rfl, rfl⟩ := e
          exact op_mod pins s σ H _ _ v u Q I rx ry ⟨i, j, rfl, rfl, c, w.sh (.int _)⟩
        · cases e
      | Pow =>
        simp only [binV] at e
        split at e
        · rename_i c
          simp only [Bool.and_eq_true, decide_eq_true_eq] at c
          simp only [Option.some.injEq, Prod.mk.injEq] at e
          obtain ⟨rfl, rfl⟩ := e
          exact op_pow pins s σ H _ _ v u Q I rx ry ⟨i, j, rfl, rfl, ⟨c.1.1, c.1.2, c.2⟩, w.sh (.int _)⟩
        · cases e
      | _ => simp [binV] at e
    | _ => cases op <;> simp [binV] at e
  | str a =>
    cases hy with
    | str b =>
      cases op with
      | Add =>
        simp only [binV] at e
        split at e
        · rename_i c
          simp only [Option.some.injEq, Prod.mk.injEq] at e
          obtain ⟨rfl, rfl⟩ := e
          exact op_add_str pins s σ H _ _ v u Q I rx ry ⟨a, b, rfl, rfl, c, w.sh (.str _)⟩
        · cases e
      | _ => simp [binV] at e
    | _ => cases op <;> simp [binV] at e
  | tup ha ra =>
    rename_i a xs das
    cases hy with
    | tup hb rb =>
      rename_i b ys dbs
      cases op with
      | Add =>
        simp only [binV] at e
        split at e
        · rename_i c
          simp only [Option.some.injEq, Prod.mk.injEq] at e
          obtain ⟨rfl, rfl⟩ := e
          have rr := ra.append rb
          refine op_catA pins s σ H _ _ v u Q I rx ry ⟨a, b, xs, ys, rfl, rfl, SqT.of ha, SqT.of hb, by rw [ra.length, rb.length]; exact c, fun e => ?_, fun _ e => ?_, fun _ _ => w.tup rr⟩
          · subst e
            exact w.sh (.tup hb rr)
          · subst e
            rw [List.append_nil] at rr
            exact w.sh (.tup ha rr)
        · cases e
      | _ => simp [binV] at e
    | _ => cases op <;> simp [binV] at e
  | lst na ha ra =>
    rename_i a xs das
    cases hy with
    | lst nb hb rb =>
      rename_i b ys dbs
      cases op with
      | Add =>
        simp only [binV] at e
        split at e
        · rename_i c
          simp only [Option.some.injEq, Prod.mk.injEq] at e
          obtain ⟨rfl, rfl⟩ := e
          exact op_cat pins s σ H _ _ v u Q I rx ry ⟨a, b, xs, ys, rfl, rfl, ha, hb, by rw [ra.length, rb.length]; exact c, w.lst (ra.append rb)⟩
        · cases e
      | _ => simp [binV] at e
    | int j =>
      cases op with
      | Mult =>
        simp only [binV] at e
        split at e
        · rename_i c
          simp only [Bool.and_eq_true, decide_eq_true_eq] at c
          simp only [Option.some.injEq, Prod.mk.injEq] at e
          obtain ⟨rfl, rfl⟩ := e
          exact op_rep pins s σ H _ _ v u Q I rx ry ⟨a, j, xs, rfl, rfl, ha, c.1.1, c.1.2, by rw [ra.length]; exact c.2, w.lst (ra.rep _)⟩
        · cases e
      | _ => simp [binV] at e
    | _ => cases op <;> simp [binV] at e
  | _ => cases op <;> (cases hy <;> simp [binV] at e)

theorem opUn (op : UnaryOp) : UnR X (unaryOp op) (rU X.K fun d => (unV op d).map fun z => (z, .sh)) ∨ op = .Not ∨ op ≠ .USub := by
  cases op with
  | USub =>
    refine .inl ?_
    intro pins s σ H x v Q I rx ⟨P, dx, d, fl, hx, e, w⟩
    cases hx with
    | int i =>
      simp only [unV, Option.map_some, Option.some.injEq, Prod.mk.injEq] at e
      obtain ⟨rfl, rfl⟩ := e
      exact un_neg pins s σ H _ v Q I rx ⟨i, rfl, w.sh (.int _)⟩
    | _ => simp [unV] at e
  | _ => exact .inr (.inr (by decide))

theorem okD_and {a : PyData} (h : okD a = true) : a.plain = true ∧ a.depth ≤ mxD := by
  simpa [okD] using h
theorem room_eq {A : Around} {a b : PyData} (hu : A.units + 64 < cLine) (h : a.depth ≤ mxD) : A.units + min a.depth b.depth < cLine := by
  have : min a.depth b.depth ≤ a.depth := Nat.min_le_left _ _
  have : mxD = 40 := rfl
  omega
theorem wbool {K : PySem.W.Frag} {P : Addr → Prop} {H : Hp} {Q : VK} {b : Bool} (w : WantP K P H Q (.bool b) .sh) : Q (.bl b) H := w.sh (.bl b)

theorem eqP (hu : X.A.units + 64 < cLine) {pins : List (Addr × Obj)} {s : Shared} {σ : L2.St} {H : Hp} {x y : V} {v u : Value} {Q : VK} {P : Addr → Prop} {dx dy : PyData} {b : Bool} (I : Inv X pins σ H s) (rx : RelV x v) (ry : RelV y u)
    (hx : Rp X.K H P x dx) (hy : Rp X.K H P y dy) (e : eqV dx dy = some b) (q : Q (.bl b) H) : wpAny (model X.prog X.w) X.A (compareOp .Eq v u) (EP X pins σ Q) X.xe s := by
  unfold eqV at e
  split at e
  · rename_i c
    rw [Bool.and_eq_true] at c
    obtain ⟨c1, c2⟩ := c
    obtain ⟨p1, d1⟩ := okD_and c1
    obtain ⟨p2, d2⟩ := okD_and c2
    obtain ⟨as, r1⟩ := hx.reads I p1 rx
    obtain ⟨bs, r2⟩ := hy.reads I p2 ry
    cases e
    exact SeqAt.eq_plain r1 r2 p1 p2 (room_eq hu d1) ⟨.bl _, H, I, rfl, q⟩
  · cases e
theorem neP (hu : X.A.units + 64 < cLine) {pins : List (Addr × Obj)} {s : Shared} {σ : L2.St} {H : Hp} {x y : V} {v u : Value} {Q : VK} {P : Addr → Prop} {dx dy : PyData} {b : Bool} (I : Inv X pins σ H s) (rx : RelV x v) (ry : RelV y u)
    (hx : Rp X.K H P x dx) (hy : Rp X.K H P y dy) (e : eqV dx dy = some b) (q : Q (.bl (!b)) H) : wpAny (model X.prog X.w) X.A (compareOp .NotEq v u) (EP X pins σ Q) X.xe s := by
  unfold eqV at e
  split at e
  · rename_i c
    rw [Bool.and_eq_true] at c
    obtain ⟨c1, c2⟩ := c
    obtain ⟨p1, d1⟩ := okD_and c1
    obtain ⟨p2, d2⟩ := okD_and c2
    obtain ⟨as, r1⟩ := hx.reads I p1 rx
    obtain ⟨bs, r2⟩ := hy.reads I p2 ry
    cases e
    exact SeqAt.ne_plain r1 r2 p1 p2 (room_eq hu d1) ⟨.bl _, H, I, rfl, q⟩
  · cases e

/-! keys -/
theorem dkey_k (k : L2.Key) : dkey (keyPD k) = some (.inl k) := by cases k <;> rfl
theorem keysD_map : ∀ ks : List L2.Key, keysD (ks.map keyPD) = some ks
  | [] => rfl
  | k :: ks => by
    rw [List.map_cons, keysD, keysD_map ks]
    cases k <;> rfl
theorem dkey_t (ks : List L2.Key) : dkey (.tuple (ks.map keyPD)) = some (.inr ks) := by
  show (keysD (ks.map keyPD)).map Sum.inr = _
  rw [keysD_map]; rfl
theorem keyD_inv {d : PyData} {k : L2.Key} (h : keyD d = some k) : d = keyPD k := by
  cases d <;> simp only [keyD, Option.some.injEq, reduceCtorEq] at h <;> subst h <;> rfl
theorem keysD_inv : ∀ {ds : List PyData} {ks : List L2.Key}, keysD ds = some ks → ds = ks.map keyPD
  | [], ks, h => by
    have : ks = [] := by simpa [keysD] using h.symm
    subst this; rfl
  | d :: ds, ks, h => by
    rw [keysD] at h
    cases h1 : keyD d with
    | none => simp [h1] at h
    | some k =>
      cases h2 : keysD ds with
      | none => simp [h1, h2] at h
      | some r =>
        simp only [h1, h2, Option.pure_def, Option.bind_eq_bind, Option.bind_some, Option.some.injEq] at h
        subst h
        rw [List.map_cons, ← keyD_inv h1, ← keysD_inv h2]
theorem dkey_inv {d : PyData} {k : DK} (h : dkey d = some k) : match k with
    | .inl k => d = keyPD k
    | .inr ks => d = .tuple (ks.map keyPD) := by
  cases d with
  | tuple xs =>
    have h' : (keysD xs).map Sum.inr = some k := h
    cases q : keysD xs with
    | none => rw [q] at h'; cases h'
    | some ks =>
      rw [q] at h'
      cases h'
      show PyData.tuple xs = _
      rw [keysD_inv q]
  | int i => cases h; rfl
  | str i => cases h; rfl
  | _ => simp [dkey, keyD] at h
section
variable {K : PySem.W.Frag} {P : Addr → Prop} {H : Hp}
theorem key_val {v : V} {k : L2.Key} (r : Rp K H P v (keyPD k)) : v = kV k := by
  cases k with
  | inl i => cases r; rfl
  | inr i => cases r; rfl
theorem keys_val : ∀ {vs : List V} {ks : List L2.Key}, RpAll K H P vs (ks.map keyPD) → vs = ks.map kV
  | _, [], .nil => rfl
  | _, k :: ks, .cons r rs => by rw [key_val r, keys_val rs]; rfl
theorem dfits_nil {k : DK} : dfits [] k = true := rfl
theorem dlook_cons {p : PyData × PyData} {ps : List (PyData × PyData)} {k : DK} : dlook (p :: ps) k = if dkey p.1 = some k then some p.2 else dlook ps k := by
  unfold dlook
  rw [List.find?_cons]
  by_cases h : dkey p.1 = some k
  · simp [h]
  · simp [h]
theorem look_k {k : L2.Key} : ∀ {kvs : List (L2.Key × V)} {ds : List (PyData × PyData)}, RpK K H P kvs ds → (∀ d, dlook ds (.inl k) = some d → ∃ v, valV kvs k = some v ∧ Rp K H P v d) ∧ (dlook ds (.inl k) = none → valV kvs k = none)
  | _, _, .nil => ⟨fun d h => by simp [dlook] at h, fun _ => rfl⟩
  | _, _, .cons (k := k') (v := v) r rs => by
    rw [dlook_cons]
    obtain ⟨h1, h2⟩ := look_k (k := k) rs
    show (∀ d, (if dkey (keyPD k') = some (Sum.inl k) then _ else _) = some d → _) ∧ _
    rw [dkey_k]
    by_cases h : k' = k
    · subst h
      simp only [if_true]
      exact ⟨fun d e => by cases e; exact ⟨v, valV_pos rfl, r⟩, fun e => by cases e⟩
    · have h' : ¬ (some (Sum.inl k') : Option DK) = some (Sum.inl k) := fun e => h (Sum.inl.inj (Option.some.inj e))
      simp only [if_neg h']
      rw [valV_neg (show ¬ (k', v).1 = k from h)]
      exact ⟨h1, h2⟩
theorem look_t {k : List L2.Key} : ∀ {kvs : List (List L2.Key × V)} {ds : List (PyData × PyData)}, RpT K H P kvs ds → (∀ d, dlook ds (.inr k) = some d → ∃ v, valV kvs k = some v ∧ Rp K H P v d) ∧ (dlook ds (.inr k) = none → valV kvs k = none)
  | _, _, .nil => ⟨fun d h => by simp [dlook] at h, fun _ => rfl⟩
  | _, _, .cons (k := k') (v := v) r rs => by
    rw [dlook_cons]
    obtain ⟨h1, h2⟩ := look_t (k := k) rs
    show (∀ d, (if dkey (PyData.tuple (k'.map keyPD)) = some (Sum.inr k) then _ else _) = some d → _) ∧ _
    rw [dkey_t]
    by_cases h : k' = k
    · subst h
      simp only [if_true]
      exact ⟨fun d e => by cases e; exact ⟨v, valV_pos rfl, r⟩, fun e => by cases e⟩
    · have h' : ¬ (some (Sum.inr k') : Option DK) = some (Sum.inr k) := fun e => h (Sum.inr.inj (Option.some.inj e))
      simp only [if_neg h']
      rw [valV_neg (show ¬ (k', v).1 = k from h)]
      exact ⟨h1, h2⟩
theorem dhas_look : ∀ (ds : List (PyData × PyData)) (k : DK), dhas ds k = (dlook ds k).isSome
  | [], k => rfl
  | p :: ds, k => by
    rw [dlook_cons]
    show (decide (dkey p.1 = some k) || dhas ds k) = _
    rw [dhas_look ds k]
    by_cases h : dkey p.1 = some k
    · simp [h]
    · simp [h]
theorem fit_k {kvs : List (L2.Key × V)} {ds : List (PyData × PyData)} (r : RpK K H P kvs ds) {k : List L2.Key} (h : dfits ds (.inr k) = true) : kvs = [] ∧ ds = [] := by
  cases r with
  | nil => exact ⟨rfl, rfl⟩
  | cons r rs =>
    rename_i k' _ _ _ _
    have h' : (match dkey (keyPD k'), (Sum.inr k : DK) with | some (.inl _), .inl _ => true | some (.inr _), .inr _ => true | _, _ => false) = true := by
      unfold dfits at h
      rw [List.all_cons, Bool.and_eq_true] at h
      exact h.1
    rw [dkey_k] at h'
    cases h'
theorem fit_t {kvs : List (List L2.Key × V)} {ds : List (PyData × PyData)} (r : RpT K H P kvs ds) {k : L2.Key} (h : dfits ds (.inl k) = true) : kvs = [] ∧ ds = [] := by
  cases r with
  | nil => exact ⟨rfl, rfl⟩
  | cons r rs =>
    rename_i k' _ _ _ _
    have h' : (match dkey (PyData.tuple (k'.map keyPD)), (Sum.inl k : DK) with | some (.inl _), .inl _ => true | some (.inr _), .inr _ => true | _, _ => false) = true := by
      unfold dfits at h
      rw [List.all_cons, Bool.and_eq_true] at h
      exact h.1
    rw [dkey_t] at h'
    cases h'
end
end
end PP

/-! PP4: dicts read; comparisons; subscripts, slices. -/
namespace PP
open PySem PySem.Spec PyProof.Rows L2
section
variable {X : Cx} {pins : List (Addr × Obj)} {σ : L2.St} {H : Hp} {s : Shared} {a : Addr} {P : Addr → Prop}
theorem upd_self {H : Hp} {a : Addr} {o : HO} (h : H a = some o) : upd H a o = H := by
  funext b
  unfold upd
  split
  · rename_i e; rw [e]; exact h.symm
  · rfl
/-- an empty dict may be taken for either kind -/
theorem to_dT (I : Inv X pins σ H s) (h : H a = some (.dK [])) : Inv X pins σ (upd H a (.dT [])) s := by
  obtain ⟨z, y, vs, r, ob, es, ep, e, c1, c2, c3, c4, c5⟩ := (show ObjOk X.prog X.w H s.heap a (.dK []) from I.hok a _ h)
  cases r
  refine I.write (x := a) (e := a) (h' := s.heap) (t' := s.toks) (by rw [h]; exact True.intro) (.inl rfl) (fun _ _ _ e => e) ⟨_, e⟩ ⟨Nat.zero_le _, y, [], .nil, ob, es, ep, e, c1, c2, ?_, List.nodup_nil⟩
  cases hl : es.toList with
  | nil => rfl
  | cons q qs => rw [hl] at c4; cases c4
theorem to_dK (I : Inv X pins σ H s) (h : H a = some (.dT [])) : Inv X pins σ (upd H a (.dK [])) s := by
  obtain ⟨z, y, vs, r, ob, es, ep, e, c1, c2, c3, c5⟩ := (show ObjOk X.prog X.w H s.heap a (.dT []) from I.hok a _ h)
  cases r
  have he : es.toList = [] := c3
  refine I.write (x := a) (e := a) (h' := s.heap) (t' := s.toks) (by rw [h]; exact True.intro) (.inl rfl) (fun _ _ _ e => e) ⟨_, e⟩ ⟨Nat.zero_le _, y, [], .nil, ob, es, ep, e, c1, c2, ?_, ?_, List.nodup_nil⟩
  · intro q hq
    have : q ∈ es.toList := by simpa using hq
    rw [he] at this; cases this
  · rw [he]; exact .nil

variable {A : Around} {E : Value → Shared → Prop}
/-- what a dict that is read holds at a key: over a heap where it is of the key's kind -/
theorem dget_of (I : Inv X pins σ H s) {x y : V} {ds : List (PyData × PyData)} {dk : PyData} {k : DK} (hx : Rp X.K H P x (.dict ds)) (hy : Rp X.K H P y dk) (hk : dkey dk = some k) (hf : dfits ds k = true) :
    ∃ (a : Addr) (o : Option V) (H1 : Hp), x = .ref a ∧ Inv X pins σ H1 s ∧ (∀ s', Inv X pins σ H1 s' → Inv X pins σ H s') ∧ DGet H1 a y o ∧ (∀ d, dlook ds k = some d → ∃ v, o = some v ∧ Rp X.K H P v d) ∧ (dlook ds k = none → o = none) := by
  cases hx with
  | dk n h r =>
    rename_i a kvs
    cases k with
    | inl k =>
      have e : dk = keyPD k := dkey_inv hk
      subst e
      obtain ⟨h1, h2⟩ := look_k (k := k) r
      exact ⟨a, valV kvs k, H, rfl, I, fun _ z => z, .inl ⟨kvs, k, h.rd, key_val hy, rfl⟩, h1, h2⟩
    | inr ks =>
      have e : dk = .tuple (ks.map keyPD) := dkey_inv hk
      subst e
      obtain ⟨rfl, rfl⟩ := fit_k r hf
      have ha : H a = some (.dK []) := by
        rcases h with h | ⟨h, _⟩
        · exact h
        · exact absurd rfl h
      cases hy with
      | tup hb rb =>
        rename_i b vs
        rw [keys_val rb] at hb
        refine ⟨a, none, upd H a (.dT []), rfl, to_dT I ha, fun s' z => ?_, .inr ⟨[], ks, b, .inl upd_same, rfl, ?_, rfl⟩, fun d e => ?_, fun _ => rfl⟩
        · have q := to_dK z upd_same
          rw [upd_upd, upd_self ha] at q
          exact q
        · rw [upd_ne (ne_of hb ha (fun z => nomatch z))]
          exact hb
        · simp [dlook] at e
  | dt n h r =>
    rename_i a kvs
    cases k with
    | inr ks =>
      have e : dk = .tuple (ks.map keyPD) := dkey_inv hk
      subst e
      obtain ⟨h1, h2⟩ := look_t (k := ks) r
      cases hy with
      | tup hb rb =>
        rename_i b vs
        rw [keys_val rb] at hb
        exact ⟨a, valV kvs ks, H, rfl, I, fun _ z => z, .inr ⟨kvs, ks, b, h.rd, rfl, hb, rfl⟩, h1, h2⟩
    | inl k =>
      have e : dk = keyPD k := dkey_inv hk
      subst e
      obtain ⟨z, _⟩ := fit_t r hf
      exact absurd z h.1
end

section
variable {X : Cx}
theorem inP (neg : Bool) (hu : X.A.units + 64 < cLine) {pins : List (Addr × Obj)} {s : Shared} {σ : L2.St} {H : Hp} {x y : V} {v u : Value} {Q : VK} {P : Addr → Prop} {dx dy : PyData} {b : Bool} (I : Inv X pins σ H s) (rx : RelV x v) (ry : RelV y u)
    (hx : Rp X.K H P x dx) (hy : Rp X.K H P y dy) (e : inV dx dy = some b) (q : Q (.bl (if neg then !b else b)) H) : wpAny (model X.prog X.w) X.A (compareOp (if neg then .NotIn else .In) v u) (EP X pins σ Q) X.xe s := by
  have hd : mxD = 40 := rfl
  cases hy with
  | lst n h r =>
    simp only [inV] at e
    split at e
    · rename_i c
      rw [Bool.and_eq_true] at c
      obtain ⟨p1, d1⟩ := okD_and c.1
      obtain ⟨p2, d2⟩ := okD_and c.2
      obtain ⟨as, r1⟩ := hx.reads I p1 rx
      obtain ⟨bs, r2⟩ := (Rp.lst n h r).reads I p2 ry
      cases e
      have hm := Nat.min_le_right (PyData.depthAll ‹List PyData›) dx.depth
      cases neg with
      | false => exact SeqAt.in_list_data r2 r1 (by simpa [PyData.plain] using p2) p1 (by omega) ⟨.bl _, H, I, rfl, q⟩
      | true => exact SeqAt.notIn_list_data r2 r1 (by simpa [PyData.plain] using p2) p1 (by omega) ⟨.bl _, H, I, rfl, q⟩
    · cases e
  | tup h r =>
    simp only [inV] at e
    split at e
    · rename_i c
      rw [Bool.and_eq_true] at c
      obtain ⟨p1, d1⟩ := okD_and c.1
      obtain ⟨p2, d2⟩ := okD_and c.2
      obtain ⟨as, r1⟩ := hx.reads I p1 rx
      obtain ⟨bs, r2⟩ := (Rp.tup h r).reads I (by simpa [PyData.plain] using p2) ry
      cases e
      have hm := Nat.min_le_right (PyData.depthAll ‹List PyData›) dx.depth
      cases neg with
      | false => exact SeqAt.in_tuple_data r2 r1 (by simpa [PyData.plain] using p2) p1 (by omega) ⟨.bl _, H, I, rfl, q⟩
      | true => exact SeqAt.notIn_tuple_data r2 r1 (by simpa [PyData.plain] using p2) p1 (by omega) ⟨.bl _, H, I, rfl, q⟩
    · cases e
  | str t =>
    cases hx with
    | str z =>
      simp only [inV, Option.some.injEq] at e
      subst e
      cases neg with
      | false => exact op_in_str pins s σ H _ _ v u Q I rx ry ⟨z, t, rfl, rfl, q⟩
      | true => exact L2.op_notin_str pins s σ H _ _ v u Q I rx ry ⟨z, t, rfl, rfl, q⟩
    | _ => simp [inV] at e
  | dk n h r =>
    simp only [inV] at e
    split at e
    · rename_i k hk
      split at e
      · rename_i hf
        obtain ⟨a, o, H1, ex, I1, back, g, h1, h2⟩ := dget_of I (Rp.dk n h r) hx hk hf
        cases ex
        cases (show u = Value.ref _ from ry)
        rw [dhas_look] at e
        have eo : o.isSome = b := by
          cases hq : dlook ‹List (PyData × PyData)› k with
          | none => rw [hq] at e; cases e; rw [h2 hq]; rfl
          | some d =>
            rw [hq] at e; cases e
            obtain ⟨v', e', _⟩ := h1 d hq
            rw [e']; rfl
        subst eo
        cases neg with
        | false => exact d_in (by omega) I1 g rx fun s' I' => ⟨.bl _, H, back s' I', rfl, q⟩
        | true => exact d_notIn (by omega) I1 g rx fun s' I' => ⟨.bl _, H, back s' I', rfl, q⟩
      · cases e
    · cases e
  | dt n h r =>
    simp only [inV] at e
    split at e
    · rename_i k hk
      split at e
      · rename_i hf
        obtain ⟨a, o, H1, ex, I1, back, g, h1, h2⟩ := dget_of I (Rp.dt n h r) hx hk hf
        cases ex
        cases (show u = Value.ref _ from ry)
        rw [dhas_look] at e
        have eo : o.isSome = b := by
          cases hq : dlook ‹List (PyData × PyData)› k with
          | none => rw [hq] at e; cases e; rw [h2 hq]; rfl
          | some d =>
            rw [hq] at e; cases e
            obtain ⟨v', e', _⟩ := h1 d hq
            rw [e']; rfl
        subst eo
        cases neg with
        | false => exact d_in (by omega) I1 g rx fun s' I' => ⟨.bl _, H, back s' I', rfl, q⟩
        | true => exact d_notIn (by omega) I1 g rx fun s' I' => ⟨.bl _, H, back s' I', rfl, q⟩
      · cases e
    · cases e
  | _ => simp [inV] at e

/-! == of dicts -/
theorem hitsP {A : Around} {s : Shared} {pins : List (Addr × Obj)} {σ : L2.St} {H : Hp} {P : Addr → Prop} (I : Inv X pins σ H s) (hu : A.units + 64 < cLine) {ls : List (L2.Key × V)} {ys : List (PyData × PyData)} {vb : List (L2.Key × Value)} (rb : KV ls vb) (rl : RpK X.K H P ls ys) :
    ∀ {ks : List (L2.Key × V)} {xs : List (PyData × PyData)} {va : List (L2.Key × Value)}, KV ks va → RpK X.K H P ks xs → (xs.all (fun p => match dkey p.1 with
      | some k => (match dlook ys k with
        | some v => okD v && okD p.2 && PyData.eqv p.2 v
        | none => false)
      | none => false)) = true → PySem.W.KeqHits A s vb va true := by
  intro ks xs va ra rk
  induction ra generalizing xs with
  | nil => intro _; exact .nil
  | @cons p q ps qs h t ih =>
    intro hh
    cases rk with
    | @cons k v _ d ds rv rs =>
      rw [List.all_cons, Bool.and_eq_true] at hh
      obtain ⟨hh, ht⟩ := hh
      have hh' : (match dkey (keyPD k) with
        | some k => (match dlook ys k with
          | some v => okD v && okD d && PyData.eqv d v
          | none => false)
        | none => false) = true := hh
      rw [dkey_k] at hh'
      cases hq : dlook ys (.inl k) with
      | none =>
        have : (match dlook ys (.inl k) with
          | some v => okD v && okD d && PyData.eqv d v
          | none => false) = true := hh'
        rw [hq] at this; cases this
      | some d' =>
        have hh2 : (match dlook ys (.inl k) with
          | some v => okD v && okD d && PyData.eqv d v
          | none => false) = true := hh'
        rw [hq] at hh2
        simp only [Bool.and_eq_true] at hh2
        obtain ⟨⟨o1, o2⟩, ev⟩ := hh2
        obtain ⟨u, eu, ru⟩ := (look_k (k := k) rl).1 d' hq
        obtain ⟨h1, h2⟩ := h
        have rr : RelO (some u) (valueAt vb k) := by rw [← eu]; exact rb.val k
        obtain ⟨y, hy, ry⟩ := rr.some_of
        obtain ⟨key, vv⟩ := q
        have h1' : k = key := h1
        subst h1'
        obtain ⟨p1, d1⟩ := okD_and o1
        obtain ⟨p2, d2⟩ := okD_and o2
        obtain ⟨as, r1⟩ := rv.reads I p2 h2
        obtain ⟨bs, r2⟩ := ru.reads I p1 ry
        have := SeqAt.eqAt_plain d d' A s _ _ _ _ r1 r2 p2 p1 (by
          have : min d.depth d'.depth ≤ d.depth := Nat.min_le_left _ _
          have : mxD = 40 := rfl
          omega)
        rw [ev] at this
        show PySem.W.KeqHits A s vb ((k, vv) :: qs) (true && true)
        exact .hit hy this (ih rs ht)
theorem dictP (neg : Bool) (hu : X.A.units + 70 < cLine) {pins : List (Addr × Obj)} {s : Shared} {σ : L2.St} {H : Hp} {x y : V} {v u : Value} {Q : VK} {P : Addr → Prop} {xs ys : List (PyData × PyData)} {b : Bool} (I : Inv X pins σ H s) (rx : RelV x v) (ry : RelV y u)
    (hx : Rp X.K H P x (.dict xs)) (hy : Rp X.K H P y (.dict ys)) (e : dictEq xs ys = some b) (q : Q (.bl (if neg then !b else b)) H) : wpAny (model X.prog X.w) X.A (compareOp (if neg then .NotEq else .Eq) v u) (EP X pins σ Q) X.xe s := by
  unfold dictEq at e
  split at e
  · rename_i c
    rw [Bool.and_eq_true, Bool.and_eq_true, Bool.and_eq_true, decide_eq_true_eq] at c
    obtain ⟨⟨⟨hl, hkx⟩, hky⟩, hall⟩ := c
    cases e
    cases hx with
    | dk n h r =>
      cases hy with
      | dk n' h' r' =>
        cases (show v = Value.ref _ from rx)
        cases (show u = Value.ref _ from ry)
        obtain ⟨_, ya, va, ra, da⟩ := dk_rd I.hok h.rd
        obtain ⟨_, yb, vb, rb, db⟩ := dk_rd I.hok h'.rd
        have hlen : va.length = vb.length := by rw [← ra.length, ← rb.length, r.length, r'.length]; exact hl
        have hits := hitsP (A := X.A.in1) I (by show X.A.units + 1 + 64 < cLine; omega) rb r' ra r hall
        cases neg with
        | false => exact PySem.W.keq_eq (knd := mixKind X.prog X.w) (r := true) ya yb da db (by omega) (fun _ => hits) (fin_bl I q (by simp [hlen]))
        | true => exact PySem.W.keq_ne (knd := mixKind X.prog X.w) (r := true) ya yb da db (by omega) (fun _ => hits) (fin_bl I q (by simp [hlen]))
      | dt n' h' r' =>
        exfalso
        cases r' with
        | nil => exact h'.1 rfl
        | cons r rs =>
          rename_i k _ _ _ _
          rw [List.all_cons, Bool.and_eq_true] at hky
          have := hky.1
          unfold plainKey at this
          rw [show dkey (PyData.tuple (List.map keyPD k), _).1 = _ from dkey_t k] at this
          cases this
    | dt n' h' r' =>
      exfalso
      cases r' with
      | nil => exact h'.1 rfl
      | cons r rs =>
        rename_i k _ _ _ _
        rw [List.all_cons, Bool.and_eq_true] at hkx
        have := hkx.1
        unfold plainKey at this
        rw [show dkey (PyData.tuple (List.map keyPD k), _).1 = _ from dkey_t k] at this
        cases this
  · cases e

theorem sizes_ne {I : Inv X pins σ H s} {b : Addr} {v : V} {vs : List V} (h : SqL X.K H a (v :: vs)) (h2 : SqL X.K H b []) : ∃ i1 i2 : Array Value, s.heap.IsList a i1 ∧ s.heap.IsList b i2 ∧ (i1.size != i2.size) = true := by
  obtain ⟨l1, r1, p1, _⟩ := I.list h
  obtain ⟨l2, r2, p2, _⟩ := I.list h2
  refine ⟨_, _, p1.isList, p2.isList, ?_⟩
  have e1 := r1.length
  have e2 := r2.length
  simp at e1 e2
  simp [List.size_toArray]
  omega
theorem eq0P (hu : X.A.units < cLine) {x y : V} {v u : Value} {Q : VK} {d0 : PyData} {ds : List PyData} (I : Inv X pins σ H s) (rx : RelV x v) (ry : RelV y u)
    (hx : Rp X.K H P x (.list (d0 :: ds))) (hy : Rp X.K H P y (.list [])) (q : Q (.bl false) H) : wpAny (model X.prog X.w) X.A (compareOp .Eq v u) (EP X pins σ Q) X.xe s := by
  cases hx with
  | lst na ha ra =>
    cases hy with
    | lst nb hb rb =>
      cases ra
      cases rb
      cases rx
      cases ry
      obtain ⟨i1, i2, h1, h2, h3⟩ := sizes_ne (I := I) (.inl (.of ha)) (.inl (.of hb))
      exact SeqAt.RcAt.lists_lengths h1 h2 h3 hu _ _ _ _ ⟨.bl _, H, I, rfl, q⟩
theorem ne0P (hu : X.A.units < cLine) {x y : V} {v u : Value} {Q : VK} {d0 : PyData} {ds : List PyData} (I : Inv X pins σ H s) (rx : RelV x v) (ry : RelV y u)
    (hx : Rp X.K H P x (.list (d0 :: ds))) (hy : Rp X.K H P y (.list [])) (q : Q (.bl true) H) : wpAny (model X.prog X.w) X.A (compareOp .NotEq v u) (EP X pins σ Q) X.xe s := by
  cases hx with
  | lst na ha ra =>
    cases hy with
    | lst nb hb rb =>
      cases ra
      cases rb
      cases rx
      cases ry
      obtain ⟨i1, i2, h1, h2, h3⟩ := sizes_ne (I := I) (.inl (.of ha)) (.inl (.of hb))
      exact SeqAt.RcNeAt.lists_lengths h1 h2 h3 hu _ _ _ _ ⟨.bl _, H, I, rfl, q⟩
theorem opCmp (op : CmpOp) (hu : X.A.units + 70 < cLine) : OpR X (compareOp op) (rC X.K (cmpV op)) := by
  intro pins s σ H x y v u Q I rx ry ⟨P, dx, dy, d, fl, hx, hy, e0, w⟩
  obtain ⟨b, e, ed⟩ := Option.map_eq_some_iff.mp e0
  cases ed
  clear e0
  have q : Q (.bl b) H := w.sh (.bl b)
  have hd : mxD = 40 := rfl
  cases op with
  | Is =>
    cases hy with
    | non =>
      simp only [cmpV, Option.some.injEq] at e
      refine op_isN pins s σ H _ _ v u Q I rx ry ⟨rfl, ?_⟩
      cases hx <;> (simp only at e; subst e; exact q)
    | _ => cases hx <;> simp [cmpV] at e
  | IsNot =>
    cases hy with
    | non =>
      simp only [cmpV, Option.some.injEq] at e
      refine op_notN pins s σ H _ _ v u Q I rx ry ⟨rfl, ?_⟩
      cases hx <;> (simp only at e; subst e; exact q)
    | _ => cases hx <;> simp [cmpV] at e
  | In => exact inP false (by omega) I rx ry hx hy (by simpa [cmpV] using e) q
  | NotIn =>
    obtain ⟨b', e2, ed⟩ := Option.map_eq_some_iff.mp (show (inV dx dy).map (!·) = some b by simpa [cmpV] using e)
    subst ed
    exact inP true (by omega) I rx ry hx hy e2 q
  | Eq =>
    by_cases hdd : ∃ xs ys, dx = .dict xs ∧ dy = .dict ys
    · obtain ⟨xs, ys, rfl, rfl⟩ := hdd
      exact dictP false hu I rx ry hx hy (by simpa [cmpV] using e) q
    · by_cases h0 : ∃ z zs, dx = .list (z :: zs) ∧ dy = .list []
      · obtain ⟨z, zs, rfl, rfl⟩ := h0
        cases (show some false = some b from e)
        exact eq0P (by omega) I rx ry hx hy q
      · have e' : eqV dx dy = some b := by
          cases dx <;> first
            | (cases dy <;> first | exact absurd ⟨_, _, rfl, rfl⟩ hdd | simpa [cmpV] using e | (rename_i xs ys; cases xs <;> cases ys <;> first | exact absurd ⟨_, _, rfl, rfl⟩ h0 | simpa [cmpV] using e))
        exact eqP (by omega) I rx ry hx hy e' q
  | NotEq =>
    by_cases hdd : ∃ xs ys, dx = .dict xs ∧ dy = .dict ys
    · obtain ⟨xs, ys, rfl, rfl⟩ := hdd
      obtain ⟨b', e2, ed⟩ := Option.map_eq_some_iff.mp (show (dictEq xs ys).map (!·) = some b by simpa [cmpV] using e)
      subst ed
      exact dictP true hu I rx ry hx hy e2 q
    · by_cases h0 : ∃ z zs, dx = .list (z :: zs) ∧ dy = .list []
      · obtain ⟨z, zs, rfl, rfl⟩ := h0
        cases (show some true = some b from e)
        exact ne0P (by omega) I rx ry hx hy q
      · have e' : (eqV dx dy).map (!·) = some b := by
          cases dx <;> first
            | (cases dy <;> first | exact absurd ⟨_, _, rfl, rfl⟩ hdd | simpa [cmpV] using e | (rename_i xs ys; cases xs <;> cases ys <;> first | exact absurd ⟨_, _, rfl, rfl⟩ h0 | simpa [cmpV] using e))
        obtain ⟨b', e2, ed⟩ := Option.map_eq_some_iff.mp e'
        subst ed
        exact neP (by omega) I rx ry hx hy e2 q
  | Lt =>
    by_cases hi : (∃ i j, dx = .int i ∧ dy = .int j) ∨ ∃ i j, dx = .str i ∧ dy = .str j
    · rcases hi with ⟨i, j, rfl, rfl⟩ | ⟨i, j, rfl, rfl⟩
      · simp only [cmpV, Option.some.injEq] at e
        subst e
        cases hx
        cases hy
        exact op_lt pins s σ H _ _ v u Q I rx ry ⟨i, j, rfl, rfl, q⟩
      · simp only [cmpV, Option.some.injEq] at e
        subst e
        cases hx
        cases hy
        exact op_lt_str pins s σ H _ _ v u Q I rx ry ⟨i, j, rfl, rfl, q⟩
    · have e' : (if ordOk dx dy then some (PySem.W.dataLt dx dy) else none) = some b := by
        cases dx <;> first
          | (cases dy <;> first | exact absurd (.inl ⟨_, _, rfl, rfl⟩) hi | exact absurd (.inr ⟨_, _, rfl, rfl⟩) hi | exact e)
      split at e'
      · rename_i c
        unfold ordOk at c
        simp only [Bool.and_eq_true] at c
        obtain ⟨⟨⟨c1, c2⟩, c3⟩, c4⟩ := c
        obtain ⟨p1, d1⟩ := okD_and c2
        obtain ⟨p2, d2⟩ := okD_and c3
        obtain ⟨as, r1⟩ := hx.reads I p1 rx
        obtain ⟨bs, r2⟩ := hy.reads I p2 ry
        have hn : dx ≠ .none := fun z => by subst z; cases c4
        have hm : min dx.depth dy.depth ≤ dx.depth := Nat.min_le_left _ _
        cases e'
        exact PySem.W.rcLt_alike dx dy X.A s v u _ _ r1 r2 c1 hn (by omega) X.prog X.w X.xe _ ⟨.bl _, H, I, rfl, q⟩
      · cases e'
  | LtE =>
    cases hx with
    | int i =>
      cases hy with
      | int j =>
        simp only [cmpV, Option.some.injEq] at e
        subst e
        exact op_le pins s σ H _ _ v u Q I rx ry ⟨i, j, rfl, rfl, q⟩
      | _ => simp [cmpV] at e
    | _ => cases hy <;> simp [cmpV] at e
  | Gt =>
    cases hx with
    | int i =>
      cases hy with
      | int j =>
        simp only [cmpV, Option.some.injEq] at e
        subst e
        exact op_gt pins s σ H _ _ v u Q I rx ry ⟨i, j, rfl, rfl, q⟩
      | _ => simp [cmpV] at e
    | _ => cases hy <;> simp [cmpV] at e
  | GtE =>
    cases hx with
    | int i =>
      cases hy with
      | int j =>
        simp only [cmpV, Option.some.injEq] at e
        subst e
        exact op_ge pins s σ H _ _ v u Q I rx ry ⟨i, j, rfl, rfl, q⟩
      | _ => simp [cmpV] at e
    | str i =>
      cases hy with
      | str j =>
        simp only [cmpV, Option.some.injEq] at e
        subst e
        exact op_ge_str pins s σ H _ _ v u Q I rx ry ⟨i, j, rfl, rfl, q⟩
      | _ => simp [cmpV] at e
    | _ => cases hy <;> simp [cmpV] at e

/-! subscripts -/
theorem atI_rp {P : Addr → Prop} {K : PySem.W.Frag} {H : Hp} {xs : List V} {ds : List PyData} {i : Int} {d : PyData} (r : RpAll K H P xs ds) (e : atI ds i = some d) : ∃ v, atI xs i = some v ∧ Rp K H P v d := by
  unfold atI at e ⊢
  rw [r.length]
  cases h : ixN ds.length i with
  | none => rw [h] at e; cases e
  | some j =>
    rw [h] at e
    exact r.get e
theorem ixP (hu : X.A.units + 70 < cLine) : IxR X (rB X.K fun x y => (ixV x y).map fun d => (d, .sh)) := by
  intro value slice pins s σ H x y v u Q I rx ry ⟨P, dx, dy, d, fl, hx, hy, e0, w⟩ hs
  obtain ⟨d', e, ed⟩ := Option.map_eq_some_iff.mp e0
  cases ed
  clear e0
  have dic : ∀ ds, dx = .dict ds → wpAny (model X.prog X.w) X.A (subscriptTail value slice v u) (EP X pins σ Q) X.xe s := by
    intro ds edx
    subst edx
    simp only [ixV] at e
    split at e
    · rename_i k hk
      split at e
      · rename_i hf
        obtain ⟨a, o, H1, ex, I1, back, g, h1, h2⟩ := dget_of I hx hy hk hf
        cases ex
        cases (show v = Value.ref _ from rx)
        obtain ⟨z, ez, rz⟩ := h1 _ e
        subst ez
        exact tail_any (dict_typeIs I1 g) PySem.F.slot_dict_getitem.lookup (d_getItem (by omega) I1 g ry fun w' s' I' rw' => ⟨z, H, back s' I', rw', w.sh rz⟩) hs
      · cases e
    · cases e
  cases hx with
  | lst n h r =>
    cases hy with
    | int i =>
      obtain ⟨z, ez, rz⟩ := atI_rp r e
      exact ix_list value slice pins s σ H _ _ v u Q I rx ry ⟨_, _, i, z, rfl, rfl, .inl (.inl h), ez, w.sh rz⟩ hs
    | _ => simp [ixV] at e
  | tup h r =>
    cases hy with
    | int i =>
      obtain ⟨z, ez, rz⟩ := atI_rp r e
      exact ix_tup value slice pins s σ H _ _ v u Q I rx ry ⟨_, _, i, z, rfl, rfl, .inl (.inl h), ez, w.sh rz⟩ hs
    | _ => simp [ixV] at e
  | str t =>
    cases hy with
    | int i =>
      simp only [ixV] at e
      split at e
      · rename_i hz
        obtain ⟨c, ec, rfl⟩ := Option.map_eq_some_iff.mp e
        exact ix_str value slice pins s σ H _ _ v u Q I rx ry ⟨t, i, c, rfl, rfl, hz, ec, w.sh (.str _)⟩ hs
      · cases e
    | _ => simp [ixV] at e
  | dk n h r => exact dic _ rfl
  | dt n h r => exact dic _ rfl
  | _ => cases hy <;> simp [ixV] at e

/-- cuts -/
def rS (K : PySem.W.Frag) : V → Option Int → Option Int → Hp → VK → Prop := fun x lo hi H Q => ∃ P dx d fl, Rp K H P x dx ∧ slV dx lo hi = some (d, fl) ∧ WantP K P H Q d fl
theorem cut_rp {P : Addr → Prop} {K : PySem.W.Frag} {H : Hp} {xs : List V} {ds : List PyData} {lo hi : Option Int} (r : RpAll K H P xs ds) : RpAll K H P (cutV xs lo hi) (cutL ds lo hi) := by
  unfold cutV cutL
  rw [r.length]
  exact (r.drop _).take _
theorem slP : SlR X (rS X.K) := by
  intro pins s σ H x v vl vu lo hi sl Q I rx hs pl pu ⟨P, dx, d, fl, hx, e, w⟩
  cases hx with
  | lst n h r =>
    simp only [slV, Option.some.injEq, Prod.mk.injEq] at e
    obtain ⟨rfl, rfl⟩ := e
    exact sl_list pins s σ H _ v vl vu lo hi sl Q I rx hs pl pu ⟨_, _, rfl, .inl (.inl h), w.lst (cut_rp r)⟩
  | tup h r =>
    simp only [slV, Option.some.injEq, Prod.mk.injEq] at e
    obtain ⟨rfl, rfl⟩ := e
    refine sl_tupA pins s σ H _ v vl vu lo hi sl Q I rx hs pl pu ⟨_, _, rfl, .inl (.inl h), fun z => ?_, fun _ => w.tup (cut_rp r)⟩
    have ec : cutL ‹List PyData› lo hi = ‹List PyData› := by
      unfold cutL
      rw [← r.length, z.1, z.2, List.drop_zero, Nat.sub_zero, r.length, List.take_length]
    rw [ec] at w
    exact w.sh (.tup h r)
  | str t =>
    simp only [slV] at e
    split at e
    · rename_i hz
      simp only [Option.some.injEq, Prod.mk.injEq] at e
      obtain ⟨rfl, rfl⟩ := e
      refine sl_str pins s σ H _ v vl vu lo hi sl Q I rx hs pl pu ⟨t, rfl, hz, ?_⟩
      exact w.sh (.str _)
    · cases e
  | _ => simp [slV] at e
end
end PP

/-! PP5: built-in calls by value. -/
namespace PP
open PySem PySem.Spec PyProof.Rows L2
def rA (K : PySem.W.Frag) (f : List PyData → Option (PyData × Fl)) : List V → Hp → VK → Prop := fun vs H Q => ∃ P ds d fl, RpAll K H P vs ds ∧ f ds = some (d, fl) ∧ WantP K P H Q d fl
section
variable {K : PySem.W.Frag} {P : Addr → Prop} {H : Hp}
theorem ints_rp : ∀ {ds : List PyData} {ns : List Int} {vs : List V}, intsD ds = some ns → RpAll K H P vs ds → vs = ns.map V.int
  | [], ns, _, e, .nil => by
    have : ns = [] := by simpa [intsD] using e.symm
    subst this; rfl
  | d :: ds, ns, _, e, .cons r rs => by
    cases r with
    | int i =>
      simp only [intsD] at e
      obtain ⟨ms, e1, rfl⟩ := Option.map_eq_some_iff.mp e
      rw [ints_rp e1 rs]; rfl
    | _ => simp [intsD] at e
theorem bools_rp : ∀ {ds : List PyData} {ns : List Bool} {vs : List V}, boolsD ds = some ns → RpAll K H P vs ds → vs = ns.map V.bl
  | [], ns, _, e, .nil => by
    have : ns = [] := by simpa [boolsD] using e.symm
    subst this; rfl
  | d :: ds, ns, _, e, .cons r rs => by
    cases r with
    | bl i =>
      simp only [boolsD] at e
      obtain ⟨ms, e1, rfl⟩ := Option.map_eq_some_iff.mp e
      rw [bools_rp e1 rs]; rfl
    | _ => simp [boolsD] at e
theorem strs_rp : ∀ {ds : List PyData} {ns : List Str} {vs : List V}, strsD ds = some ns → RpAll K H P vs ds → vs = ns.map V.str
  | [], ns, _, e, .nil => by
    have : ns = [] := by simpa [strsD] using e.symm
    subst this; rfl
  | d :: ds, ns, _, e, .cons r rs => by
    cases r with
    | str i =>
      simp only [strsD] at e
      obtain ⟨ms, e1, rfl⟩ := Option.map_eq_some_iff.mp e
      rw [strs_rp e1 rs]; rfl
    | _ => simp [strsD] at e
theorem keys_rp : ∀ {kvs : List (L2.Key × V)} {ds : List (PyData × PyData)}, RpK K H P kvs ds → RpAll K H P (kvs.map fun kv => kV kv.1) (ds.map (·.1))
  | _, _, .nil => .nil
  | _, _, .cons (k := k) r rs => .cons (by cases k <;> constructor) (keys_rp rs)
end
section
variable {X : Cx}
theorem crLen : CallR X (.builtin "len") (rA X.K (biV .len)) := by
  intro pins s σ H xs us Q I r ⟨P, ds, d, fl, hr, e, w⟩
  cases hr with
  | nil => simp [biV, v_len, v_abs, v_int, v_str, v_sum, v_any, v_all] at e
  | cons h1 h2 =>
    cases h2 with
    | cons _ _ => simp [biV, v_len, v_abs, v_int, v_str, v_sum, v_any, v_all] at e
    | nil =>
      simp only [biV, v_len, v_abs, v_int, v_str, v_sum, v_any, v_all] at e
      obtain ⟨n, en, ed⟩ := Option.map_eq_some_iff.mp e
      cases ed
      have q : Q (.int n) H := w.sh (.int _)
      cases h1 with
      | lst n h r1 =>
        cases en
        rw [← r1.length] at q
        exact call_len_seq pins s σ H _ us Q I r ⟨_, _, rfl, .inl (.inl (.inl h)), q⟩
      | tup h r1 =>
        cases en
        rw [← r1.length] at q
        exact call_len_seq pins s σ H _ us Q I r ⟨_, _, rfl, .inr (.inl (.inl h)), q⟩
      | str t =>
        simp only [lenD] at en
        split at en
        · cases en
          exact call_len_str pins s σ H _ us Q I r ⟨t, rfl, by assumption, q⟩
        · cases en
      | dk n h r1 =>
        cases en
        rw [← r1.length] at q
        obtain ⟨u, rfl, rx⟩ := vals1 r
        cases (show u = Value.ref _ from rx)
        exact d_len I h.rd fun t s' I' => ⟨.int _, H, I', ⟨_, rfl⟩, q⟩
      | dt n h r1 =>
        cases en
        rw [← r1.length] at q
        obtain ⟨u, rfl, rx⟩ := vals1 r
        cases (show u = Value.ref _ from rx)
        obtain ⟨z, hd, ys, rel, dd⟩ := dt_rd I.hok h.rd
        have hl := Paired.length rel
        have h63 := line63
        exact call_len_dictH hd dd (by omega) ⟨.int _, H, I.tok _, ⟨_, by rw [hl]⟩, q⟩
      | _ => simp [lenD] at en
/-- one int in, an int out -/
theorem cr1 {f : Value} {b : BI} {hb : ∀ ds p, biV b ds = some p → ∃ i, ds = [.int i]} (rule : ∀ (pins : List (Addr × Obj)) (s : Shared) (σ : L2.St) (H : Hp) (us : List Value) (Q : VK) (i : Int) (P : Addr → Prop) (d : PyData) (fl : Fl), Inv X pins σ H s → Vals [.int i] us → biV b [.int i] = some (d, fl) → WantP X.K P H Q d fl →
    wpAny (model X.prog X.w) X.A (call f us) (EP X pins σ Q) X.xe s) : CallR X f (rA X.K (biV b)) := by
  intro pins s σ H xs us Q I r ⟨P, ds, d, fl, hr, e, w⟩
  obtain ⟨i, rfl⟩ := hb ds _ e
  cases hr with
  | cons h1 h2 =>
    cases h1
    cases h2
    exact rule pins s σ H us Q i P d fl I r e w
theorem one_int {ds : List PyData} {b : BI} {p : PyData × Fl} (hb : b = .abs ∨ b = .int ∨ b = .str) (e : biV b ds = some p) : ∃ i, ds = [.int i] := by
  rcases hb with rfl | rfl | rfl <;> (cases ds with
    | nil => simp [biV, v_len, v_abs, v_int, v_str, v_sum, v_any, v_all] at e
    | cons x xs => cases xs with
      | nil => cases x <;> first | exact ⟨_, rfl⟩ | simp [biV, v_len, v_abs, v_int, v_str, v_sum, v_any, v_all] at e
      | cons y ys => cases x <;> simp [biV, v_len, v_abs, v_int, v_str, v_sum, v_any, v_all] at e)
theorem crAbs : CallR X (.builtin "abs") (rA X.K (biV .abs)) := cr1 (hb := fun ds p e => one_int (.inl rfl) e) fun pins s σ H us Q i P d fl I r e w => by
  simp only [biV, v_len, v_abs, v_int, v_str, v_sum, v_any, v_all, Option.some.injEq, Prod.mk.injEq] at e
  obtain ⟨rfl, rfl⟩ := e
  exact call_abs pins s σ H _ us Q I r ⟨i, rfl, w.sh (.int _)⟩
theorem crInt : CallR X (.type "int") (rA X.K (biV .int)) := cr1 (hb := fun ds p e => one_int (.inr (.inl rfl)) e) fun pins s σ H us Q i P d fl I r e w => by
  simp only [biV, v_len, v_abs, v_int, v_str, v_sum, v_any, v_all, Option.some.injEq, Prod.mk.injEq] at e
  obtain ⟨rfl, rfl⟩ := e
  exact call_int1 pins s σ H _ us Q I r (.inl ⟨i, rfl, w.sh (.int _)⟩)
theorem crStr : CallR X (.type "str") (rA X.K (biV .str)) := cr1 (hb := fun ds p e => one_int (.inr (.inr rfl)) e) fun pins s σ H us Q i P d fl I r e w => by
  simp only [biV, v_len, v_abs, v_int, v_str, v_sum, v_any, v_all] at e
  split at e
  · simp only [Option.some.injEq, Prod.mk.injEq] at e
    obtain ⟨rfl, rfl⟩ := e
    exact call_str_int pins s σ H _ us Q I r ⟨i, rfl, by assumption, w.sh (.str _)⟩
  · cases e
/-- one value in -/
theorem one_in {vs : List V} {ds : List PyData} {K : PySem.W.Frag} {H : Hp} {P : Addr → Prop} (r : RpAll K H P vs ds) {d : PyData} (e : ds = [d]) : ∃ v, vs = [v] ∧ Rp K H P v d := by
  subst e
  cases r with
  | cons h1 h2 => cases h2; exact ⟨_, rfl, h1⟩
theorem tsum_raw {prog : Program} {w : World} {A : Around} {E : Value → Shared → Prop} {s : Shared} {l : Addr} {its : List Value} {ns : List Int} {Q : Value → Shared → Prop} (hh : A.handled = none) (hl : IsTup s.heap l its.toArray) (hi : IntsAre its ns)
    (h : ∀ h' tk t', (∀ b o, s.heap.get? b = some o → h'.get? b = some o) → Q (.int ns.sum t') { s with heap := h', toks := tk }) : wpAny (model prog w) A (call (.builtin "sum") [.ref l]) Q E s := by
  obtain ⟨xs, e⟩ := hi.allInts.items
  have hn : numsOf (intItems xs).toList = ns := by rw [← e]; exact hi.numsOf
  rw [nums_intItems] at hn
  rw [e] at hl
  refine PySem.W.ktm_sumG hh hl fun h' tk t' hk => ?_
  have := h h' tk t' hk
  rw [preSum_eq, List.take_of_length_le (by simp), hn]; exact this
theorem crSum (hc : X.calm = true) : CallR X (.builtin "sum") (rA X.K (biV .sum)) := by
  intro pins s σ H xs us Q I r ⟨P, ds, d, fl, hr, e, w⟩
  have : ∃ zs, ds = [.list zs] ∨ ds = [.tuple zs] := by
    cases ds with
    | nil => simp [biV, v_len, v_abs, v_int, v_str, v_sum, v_any, v_all] at e
    | cons x xs => cases xs with
      | nil => cases x <;> first | exact ⟨_, .inl rfl⟩ | exact ⟨_, .inr rfl⟩ | simp [biV, v_len, v_abs, v_int, v_str, v_sum, v_any, v_all] at e
      | cons y ys => cases x <;> simp [biV, v_len, v_abs, v_int, v_str, v_sum, v_any, v_all] at e
  obtain ⟨zs, hz | hz⟩ := this
  · obtain ⟨v, rfl, rv⟩ := one_in hr hz
    subst hz
    simp only [biV, v_len, v_abs, v_int, v_str, v_sum, v_any, v_all] at e
    obtain ⟨ns, en, ed⟩ := Option.map_eq_some_iff.mp e
    cases ed
    cases rv with
    | lst n h r1 =>
      have ev := ints_rp en r1
      subst ev
      exact cr_sum hc pins s σ H _ us Q I r ⟨_, ns, rfl, .inl (.inl h), w.sh (.int _)⟩
  · obtain ⟨v, rfl, rv⟩ := one_in hr hz
    subst hz
    simp only [biV, v_len, v_abs, v_int, v_str, v_sum, v_any, v_all] at e
    obtain ⟨ns, en, ed⟩ := Option.map_eq_some_iff.mp e
    cases ed
    cases rv with
    | tup h r1 =>
      have ev := ints_rp en r1
      subst ev
      obtain ⟨its, rv, hl, _⟩ := I.tuple (X := X) (.inl (.inl h))
      rw [Vals.ref1 r]
      exact tsum_raw (I.ok.hd hc) hl rv.ints fun h' tk t' hk => ⟨.int _, H, I.kept hk, ⟨_, rfl⟩, w.sh (.int _)⟩
theorem crAny (hc : X.calm = true) : CallR X (.builtin "any") (rA X.K (biV .any)) := by
  intro pins s σ H xs us Q I r ⟨P, ds, d, fl, hr, e, w⟩
  have : ∃ zs, ds = [.list zs] := by
    cases ds with
    | nil => simp [biV, v_len, v_abs, v_int, v_str, v_sum, v_any, v_all] at e
    | cons x xs => cases xs with
      | nil => cases x <;> first | exact ⟨_, rfl⟩ | simp [biV, v_len, v_abs, v_int, v_str, v_sum, v_any, v_all] at e
      | cons y ys => cases x <;> simp [biV, v_len, v_abs, v_int, v_str, v_sum, v_any, v_all] at e
  obtain ⟨zs, hz⟩ := this
  obtain ⟨v, rfl, rv⟩ := one_in hr hz
  subst hz
  simp only [biV, v_len, v_abs, v_int, v_str, v_sum, v_any, v_all] at e
  obtain ⟨ns, en, ed⟩ := Option.map_eq_some_iff.mp e
  cases ed
  cases rv with
  | lst n h r1 =>
    have ev := bools_rp en r1
    subst ev
    exact cr_any hc pins s σ H _ us Q I r ⟨_, ns, rfl, .inl (.inl h), w.sh (.bl _)⟩
theorem crAll (hc : X.calm = true) : CallR X (.builtin "all") (rA X.K (biV .all)) := by
  intro pins s σ H xs us Q I r ⟨P, ds, d, fl, hr, e, w⟩
  have : ∃ zs, ds = [.list zs] := by
    cases ds with
    | nil => simp [biV, v_len, v_abs, v_int, v_str, v_sum, v_any, v_all] at e
    | cons x xs => cases xs with
      | nil => cases x <;> first | exact ⟨_, rfl⟩ | simp [biV, v_len, v_abs, v_int, v_str, v_sum, v_any, v_all] at e
      | cons y ys => cases x <;> simp [biV, v_len, v_abs, v_int, v_str, v_sum, v_any, v_all] at e
  obtain ⟨zs, hz⟩ := this
  obtain ⟨v, rfl, rv⟩ := one_in hr hz
  subst hz
  simp only [biV, v_len, v_abs, v_int, v_str, v_sum, v_any, v_all] at e
  obtain ⟨ns, en, ed⟩ := Option.map_eq_some_iff.mp e
  cases ed
  cases rv with
  | lst n h r1 =>
    have ev := bools_rp en r1
    subst ev
    exact cr_all hc pins s σ H _ us Q I r ⟨_, ns, rfl, .inl (.inl h), w.sh (.bl _)⟩

/-! sorted, min, max -/
theorem alikeD_ok {xs : List PyData} (h : alikeAllD xs = true) : PySem.W.AllAlike xs := fun d hd d' hd' => by
  have := List.all_eq_true.mp h d hd
  exact List.all_eq_true.mp this d' hd'
theorem sortOk_ok {xs : List PyData} (h : sortOk xs = true) : PySem.W.AllAlike xs ∧ PyData.plainAll xs = true ∧ PyData.depthAll xs ≤ mxD ∧ PySem.W.Sortable xs ∧ xs.length ≤ sizeLine := by
  unfold sortOk at h
  simp only [Bool.and_eq_true, decide_eq_true_eq, Bool.or_eq_true] at h
  obtain ⟨⟨⟨h1, h2⟩, h3⟩, h4⟩ := h
  obtain ⟨p, dd⟩ := okD_and h2
  refine ⟨alikeD_ok h1, by simpa [PyData.plain] using p, by have : (PyData.list xs).depth = PyData.depthAll xs + 1 := rfl; omega, ?_, h4⟩
  rcases h3 with h3 | h3
  · refine .inl fun d hd => ?_
    have := List.all_eq_true.mp h3 d hd
    cases d with
    | tuple ys => cases ys with
      | nil => cases this
      | cons y ys => exact ⟨y, ys, rfl⟩
    | _ => cases this
  · refine .inr fun d hd => ?_
    have := List.all_eq_true.mp h3 d hd
    cases d <;> first | (cases this; done) | exact ⟨(fun z => nomatch z), fun _ z => nomatch z⟩
theorem sortOk_alike {xs : List PyData} (h : sortOk xs = true) : PySem.W.AlikeAll xs := by
  obtain ⟨h1, _, _, h3, _⟩ := sortOk_ok h
  refine ⟨fun x hx y hy => h1 x hx y hy, fun x hx z => ?_⟩
  subst z
  rcases h3 with h3 | h3
  · obtain ⟨_, _, e⟩ := h3 _ hx
    cases e
  · exact (h3 _ hx).1 rfl
theorem each_of {h : Heap} {us : List Value} {ds : List PyData} {as : List Addr} (r : ReadsAll h us ds as) : PySem.W.EachIs (fun v d => ∃ as, Reads h v d as) us ds := by
  have := PySem.W.readsAll_each (enc := fun d : PyData => d) (vs := us) (bs := ds) (as := as) (h := h) (by simpa using r)
  exact this
/-- values and data side by side, rearranged alike -/
def Sd (K : PySem.W.Frag) (H : Hp) (P : Addr → Prop) (u : Value) (d : PyData) : Prop := ∃ v, RelV v u ∧ Rp K H P v d
theorem sd_of {K : PySem.W.Frag} {H : Hp} {P : Addr → Prop} : ∀ {vs : List V} {ds : List PyData} {us : List Value}, RpAll K H P vs ds → Vals vs us → PySem.W.EachIs (Sd K H P) us ds
  | _, _, _, .nil, .nil => .nil
  | _, _, _, .cons r rs, .cons q qs => .cons ⟨_, q, r⟩ (sd_of rs qs)
theorem of_sd {K : PySem.W.Frag} {H : Hp} {P : Addr → Prop} : ∀ {us : List Value} {ds : List PyData}, PySem.W.EachIs (Sd K H P) us ds → ∃ vs, RpAll K H P vs ds ∧ Vals vs us
  | _, _, .nil => ⟨[], .nil, .nil⟩
  | _, _, .cons ⟨v, q, r⟩ t => by
    obtain ⟨vs, rs, qs⟩ := of_sd t
    exact ⟨v :: vs, .cons r rs, .cons q qs⟩

theorem sd_get {K : PySem.W.Frag} {H : Hp} {P : Addr → Prop} : ∀ {us : List Value} {ds : List PyData} {i : Nat} {u : Value}, PySem.W.EachIs (Sd K H P) us ds → us[i]? = some u → ∃ d, ds[i]? = some d ∧ Sd K H P u d
  | _, _, _, _, .nil, e => by simp at e
  | _, _, 0, _, .cons r _, e => by simp at e; subst e; exact ⟨_, rfl, r⟩
  | _, _, i + 1, _, .cons _ t, e => by
    obtain ⟨d, h1, h2⟩ := sd_get (i := i) t (by simpa using e)
    exact ⟨d, by simpa using h1, h2⟩
theorem rp_plain_eq {pins : List (Addr × Obj)} {σ : L2.St} {H : Hp} {s : Shared} {P : Addr → Prop} {h' : Heap} {d d' : PyData} {u : Value} {as : List Addr} (I : Inv X pins σ H s) (hk : ∀ b o, s.heap.get? b = some o → h'.get? b = some o) (hp : d.plain = true) (r : Sd X.K H P u d) (r' : Reads h' u d' as) : d = d' := by
  obtain ⟨v, rv, rd⟩ := r
  obtain ⟨bs, r1⟩ := rd.reads I hp rv
  exact SeqAt.plain_unique d d' u _ _ hp (PyProof.Rows.Reads.keeps hk r1) r'
theorem plain_mem : ∀ {xs : List PyData} {x : PyData}, PyData.plainAll xs = true → x ∈ xs → x.plain = true
  | x :: xs, y, h, hy => by
    have h' := plainAll_cons h
    rcases List.mem_cons.mp hy with rfl | hy
    · exact h'.1
    · exact plain_mem h'.2 hy

theorem sortedL (hr : X.A.units + 70 < cLine) {pins : List (Addr × Obj)} {σ : L2.St} {H : Hp} {s : Shared} {P : Addr → Prop} {Q : VK} {a : Addr} {xs : List V} {ds : List PyData} (I : Inv X pins σ H s) (h : H a = some (.lst xs)) (r : RpAll X.K H P xs ds) (ok : sortOk ds = true) (w : WantP X.K P H Q (.list (sortD ds)) .fr) :
    wpAny (model X.prog X.w) X.A (call (.builtin "sorted") [.ref a]) (EP X pins σ Q) X.xe s := by
  obtain ⟨h1, h2, h3, h4, h5⟩ := sortOk_ok ok
  obtain ⟨its, rv, pl, hz⟩ := I.list (X := X) (.inl (.inl h))
  obtain ⟨as, rr⟩ := r.readsAll I h2 rv
  have e : PySem.W.EachIs (Sd X.K H P) its ds := sd_of r rv
  have hd : mxD = 40 := rfl
  refine PySem.W.sorted_data (enc := fun d : PyData => d) (R := Sd X.K H P) pl.isList e (each_of rr) (by simpa using h1) (by simpa using h4) h5 (fun b hb => ?_) fun out ho eo => ?_
  · have : b.depth ≤ PyData.depthAll ds := by
      clear rr e r h1 h4 ok w
      induction ds with
      | nil => cases hb
      | cons x xs ih =>
        show b.depth ≤ max x.depth (PyData.depthAll xs)
        rcases List.mem_cons.mp hb with rfl | hb
        · exact Nat.le_max_left _ _
        · exact Nat.le_trans (ih (plainAll_cons h2).2 (Nat.le_trans (Nat.le_max_right _ _) h3) (Nat.le_of_succ_le h5) hb) (Nat.le_max_right _ _)
    omega
  · obtain ⟨ws, rw1, rw2⟩ := of_sd eo
    have hk : ∀ b o, s.heap.get? b = some o → (sortedAll s.heap its out.toArray).get? b = some o := fun b o e => sortedAll_old e
    obtain ⟨ep, hs⟩ := sortedAll_at s.heap its out.toArray
    have hlen : ws.length ≤ sizeLine := by rw [rw1.length, List.length_mergeSort]; exact h5
    refine ⟨.ref (s.heap.objs.size + 1), upd H (s.heap.objs.size + 1) (.lst ws), I.laid (t' := s.toks) hk (Nat.le_succ _) (show ObjOk X.prog X.w _ _ _ (.lst ws) from ⟨hlen, out, _, rw2, hs⟩), rfl, ?_⟩
    refine w.lst ?_ _ (I.hok.fresh (Nat.le_succ _))
    have : ds.mergeSort (PySem.W.dataLe false fun d : PyData => d) = sortD ds := rfl
    rw [← this]
    exact rw1

theorem keysStr : ∀ {kvs : List (L2.Key × V)} {ds : List (PyData × PyData)} {K : PySem.W.Frag} {H : Hp} {P : Addr → Prop}, RpK K H P kvs ds → PySem.W.AllAlike (ds.map (·.1)) →
    (∃ ks : List Str, kvs.map (·.1) = ks.map Sum.inr ∧ ds.map (·.1) = ks.map PyData.str) ∨ (∃ ks : List Int, kvs.map (·.1) = ks.map Sum.inl ∧ ds.map (·.1) = ks.map PyData.int)
  | _, _, _, _, _, .nil, _ => .inl ⟨[], rfl, rfl⟩
  | _, _, _, _, _, .cons (k := k) (d := d) (ds := ds) r rs, al => by
    have al' : PySem.W.AllAlike (ds.map (·.1)) := fun a ha b hb => al a (List.mem_cons_of_mem _ ha) b (List.mem_cons_of_mem _ hb)
    rcases keysStr rs al' with ⟨ks, e1, e2⟩ | ⟨ks, e1, e2⟩
    · cases k with
      | inr z => exact .inl ⟨z :: ks, by rw [List.map_cons, e1]; rfl, by rw [List.map_cons, e2]; rfl⟩
      | inl z =>
        cases ks with
        | nil => exact .inr ⟨[z], by rw [List.map_cons, e1]; rfl, by rw [List.map_cons, e2]; rfl⟩
        | cons y ys =>
          have := al (.int z) (by simp [keyPD]) (.str y) (by rw [List.map_cons, e2]; simp)
          cases this
    · cases k with
      | inl z => exact .inr ⟨z :: ks, by rw [List.map_cons, e1]; rfl, by rw [List.map_cons, e2]; rfl⟩
      | inr z =>
        cases ks with
        | nil => exact .inl ⟨[z], by rw [List.map_cons, e1]; rfl, by rw [List.map_cons, e2]; rfl⟩
        | cons y ys =>
          have := al (.str z) (by simp [keyPD]) (.int y) (by rw [List.map_cons, e2]; simp)
          cases this
theorem leD_int (x y : Int) : leD (.int x) (.int y) = decide (x ≤ y) := by
  unfold leD
  rw [PySem.W.dataLt_int]
  by_cases h : x ≤ y
  · simp [h]
  · simp [h]; omega
theorem sort_ints {ks ys : List Int} (hp : ys.Perm ks) (hs : ys.Pairwise (· ≤ ·)) : sortD (ks.map .int) = ys.map .int := by
  have h1 : (sortD (ks.map PyData.int)).Perm (ks.map .int) := List.mergeSort_perm _ _
  have e : sortD (ks.map PyData.int) = (ks.mergeSort fun a b => decide (a ≤ b)).map .int := by
    unfold sortD
    rw [List.map_mergeSort (r := fun a b : Int => decide (a ≤ b)) (s := leD)]
    intro a _ b _
    exact (leD_int a b).symm
  rw [e]
  have hsort : (ks.mergeSort fun a b => decide (a ≤ b)).Pairwise (· ≤ ·) := by
    have := List.pairwise_mergeSort (le := fun a b : Int => decide (a ≤ b)) (by intro a b c; simp; omega) (by intro a b; simp; omega) ks
    exact this.imp (by intro a b h; simpa using h)
  have := List.Perm.eq_of_pairwise (le := fun a b : Int => a ≤ b) (fun a b _ _ h1 h2 => by omega) hsort hs ((List.mergeSort_perm ks _).trans hp.symm)
  rw [this]
theorem leD_str (x y : Str) : leD (.str x) (.str y) = !decide (y.cps.toList < x.cps.toList) := by
  unfold leD
  rw [PySem.W.dataLt_str]
theorem minMaxP (b : Bool) (hc : X.calm = true) (hr : X.A.units + 70 < cLine) : CallR X (.builtin (if b then "min" else "max")) (rA X.K (mmV b)) := by
  intro pins s σ H xs us Q I r ⟨P, ds, d, fl, hr', e, w⟩
  have hd : mxD = 40 := rfl
  have seqc : ∀ {x : PyData} {zs : List PyData} {vs : List V} {its : List Value}, RpAll X.K H P vs (x :: zs) → Vals vs its → sortOk (x :: zs) = true → WantP X.K P H Q (if b then PySem.W.minD x zs else PySem.W.maxD x zs) .sh →
      (∀ (i : Nat) (v : Value) (h' : Heap) (tk : Nat) (bs : List Addr), its[i]? = some v → Reads h' v (if b then PySem.W.minD x zs else PySem.W.maxD x zs) bs → (∀ b o, s.heap.get? b = some o → h'.get? b = some o) → EP X pins σ Q v { s with heap := h', toks := tk }) := by
    intro x zs vs its ra rv ok w i v h' tk bs hv rd hk
    obtain ⟨h1, h2, h3, h4, h5⟩ := sortOk_ok ok
    obtain ⟨d', hd', sd⟩ := sd_get (sd_of ra rv) hv
    have := rp_plain_eq I hk (plain_mem h2 (List.mem_of_getElem? hd')) sd rd
    obtain ⟨v', rv', rp'⟩ := sd
    rw [this] at rp'
    exact ⟨v', H, I.kept hk, rv', w.sh rp'⟩
  unfold mmV at e
  split at e
  · rename_i x zs
    split at e
    · rename_i ok
      obtain ⟨h1, h2, h3, h4, h5⟩ := sortOk_ok ok
      simp only [Option.some.injEq, Prod.mk.injEq] at e
      obtain ⟨rfl, rfl⟩ := e
      obtain ⟨v, rfl, rv⟩ := one_in hr' rfl
      cases rv with
      | lst n h ra =>
        obtain ⟨u, rfl, rx⟩ := vals1 r
        cases (show u = Value.ref _ from rx)
        obtain ⟨its, rv, pl, hz⟩ := I.list (X := X) (.inl (.inl h))
        obtain ⟨as, rr⟩ := ra.readsAll I h2 rv
        have key := seqc ra rv ok w
        cases b with
        | true => exact PySem.W.min_list_data (I.ok.hd hc) pl.isList (by simpa using rr) (sortOk_alike ok) (by omega) fun i v h' tk bs hv rd hk => key i v h' tk bs (by simpa using hv) rd hk
        | false => exact PySem.W.max_list_data (I.ok.hd hc) pl.isList (by simpa using rr) (sortOk_alike ok) (by omega) fun i v h' tk bs hv rd hk => key i v h' tk bs (by simpa using hv) rd hk
    · cases e
  · rename_i x zs
    split at e
    · rename_i ok
      obtain ⟨h1, h2, h3, h4, h5⟩ := sortOk_ok ok
      simp only [Option.some.injEq, Prod.mk.injEq] at e
      obtain ⟨rfl, rfl⟩ := e
      obtain ⟨v, rfl, rv⟩ := one_in hr' rfl
      cases rv with
      | tup h ra =>
        obtain ⟨u, rfl, rx⟩ := vals1 r
        cases (show u = Value.ref _ from rx)
        obtain ⟨its, rv, pl, hz⟩ := I.tuple (X := X) (.inl (.inl h))
        obtain ⟨as, rr⟩ := ra.readsAll I h2 rv
        have key := seqc ra rv ok w
        cases b with
        | true => exact PySem.W.min_tuple_data (I.ok.hd hc) pl (by simpa using rr) (sortOk_alike ok) (by omega) fun i v h' tk bs hv rd hk => key i v h' tk bs (by simpa using hv) rd hk
        | false => exact PySem.W.max_tuple_data (I.ok.hd hc) pl (by simpa using rr) (sortOk_alike ok) (by omega) fun i v h' tk bs hv rd hk => key i v h' tk bs (by simpa using hv) rd hk
    · cases e
  · rename_i i j
    simp only [Option.some.injEq, Prod.mk.injEq] at e
    obtain ⟨rfl, rfl⟩ := e
    cases hr' with
    | cons h1 h2 =>
      cases h1
      cases h2 with
      | cons h3 h4 =>
        cases h3
        cases h4
        cases b with
        | true => exact call_min2 hc pins s σ H _ us Q I r ⟨i, j, rfl, w.sh (.int _)⟩
        | false => exact call_max2 hc pins s σ H _ us Q I r ⟨i, j, rfl, w.sh (.int _)⟩
  · cases e
theorem crMin (hc : X.calm = true) (hr : X.A.units + 70 < cLine) : CallR X (.builtin "min") (rA X.K (biV .min)) := minMaxP true hc hr
theorem crMax (hc : X.calm = true) (hr : X.A.units + 70 < cLine) : CallR X (.builtin "max") (rA X.K (biV .max)) := minMaxP false hc hr

/-! tuple(x), list(x), dict(x), sorted(x) -/
theorem ofDT {K : PySem.W.Frag} {H : Hp} {P : Addr → Prop} : ∀ {kvs : List (List L2.Key × V)} {ds : List (PyData × PyData)} {bs : List Addr}, RpT K H P kvs ds → IsKeys H kvs bs → RpAll K H P (bs.map V.ref) (ds.map (·.1))
  | _, _, _, .nil, .nil => .nil
  | _, _, _, .cons (k := k) r rs, .cons h t => .cons (.tup h (tupK k)) (ofDT rs t)
where tupK {K : PySem.W.Frag} {H : Hp} {P : Addr → Prop} : ∀ ks : List L2.Key, RpAll K H P (ks.map kV) (ks.map keyPD)
  | [] => .nil
  | k :: ks => .cons (by cases k <;> constructor) (tupK ks)
theorem one_of {f : List PyData → Option (PyData × Fl)} {ds : List PyData} {p : PyData × Fl} (h0 : f [] = none) (h2 : ∀ x y r, f (x :: y :: r) = none) (e : f ds = some p) : ∃ d, ds = [d] := by
  cases ds with
  | nil => rw [h0] at e; cases e
  | cons x r => cases r with
    | nil => exact ⟨x, rfl⟩
    | cons y r => rw [h2] at e; cases e
theorem tyTuple : CallR X (.type "tuple") (rA X.K fun ds => match ds with
    | [.list xs] => some (.tuple xs, .sh)
    | [.tuple xs] => some (.tuple xs, .sh)
    | _ => none) := by
  intro pins s σ H xs us Q I r ⟨P, ds, d, fl, hr, e, w⟩
  dsimp only at e
  split at e
  · simp only [Option.some.injEq, Prod.mk.injEq] at e
    obtain ⟨rfl, rfl⟩ := e
    obtain ⟨v, rfl, rv⟩ := one_in hr rfl
    cases rv with
    | lst n h ra => exact call_tuple_of pins s σ H _ us Q I r ⟨_, _, rfl, .inl ⟨.inl (.inl h), w.tup ra⟩⟩
  · simp only [Option.some.injEq, Prod.mk.injEq] at e
    obtain ⟨rfl, rfl⟩ := e
    obtain ⟨v, rfl, rv⟩ := one_in hr rfl
    cases rv with
    | tup h ra => exact call_tuple_of pins s σ H _ us Q I r ⟨_, _, rfl, .inr ⟨.inl (.inl h), w.sh (.tup h ra)⟩⟩
  · cases e
/-- list(d): a dict's keys -/
theorem listD (hc : X.calm = true) {pins : List (Addr × Obj)} {σ : L2.St} {H : Hp} {s : Shared} {P : Addr → Prop} {Q : VK} {v : V} {us : List Value} {ds : List (PyData × PyData)} (I : Inv X pins σ H s) (r : Vals [v] us) (rv : Rp X.K H P v (.dict ds)) (w : WantP X.K P H Q (.list (ds.map (·.1))) .fr) :
    wpAny (model X.prog X.w) X.A (call (.type "list") us) (EP X pins σ Q) X.xe s := by
  cases rv with
  | dk n h ra => exact call_listD hc pins s σ H _ us Q I r ⟨_, _, rfl, h.rd, w.lst (keys_rp ra)⟩
  | dt n h ra => exact call_list_dT hc pins s σ H _ us Q I r ⟨_, _, rfl, h.rd, fun p bs hp hb => w.lst (ofDT ra hb) p hp⟩
theorem tyList (hc : X.calm = true) : CallR X (.type "list") (rA X.K fun ds => match ds with
    | [.list xs] => some (.list xs, .fr)
    | [.tuple xs] => some (.list xs, .fr)
    | [.dict kvs] => some (.list (kvs.map (·.1)), .fr)
    | _ => none) := by
  intro pins s σ H xs us Q I r ⟨P, ds, d, fl, hr, e, w⟩
  dsimp only at e
  split at e
  · simp only [Option.some.injEq, Prod.mk.injEq] at e
    obtain ⟨rfl, rfl⟩ := e
    obtain ⟨v, rfl, rv⟩ := one_in hr rfl
    cases rv with
    | lst n h ra => exact call_list_of pins s σ H _ us Q I r ⟨_, _, rfl, .inl (.inl (.inl h)), w.lst ra⟩
  · simp only [Option.some.injEq, Prod.mk.injEq] at e
    obtain ⟨rfl, rfl⟩ := e
    obtain ⟨v, rfl, rv⟩ := one_in hr rfl
    cases rv with
    | tup h ra => exact call_list_of pins s σ H _ us Q I r ⟨_, _, rfl, .inr (.inl (.inl h)), w.lst ra⟩
  · simp only [Option.some.injEq, Prod.mk.injEq] at e
    obtain ⟨rfl, rfl⟩ := e
    obtain ⟨v, rfl, rv⟩ := one_in hr rfl
    exact listD hc I r rv w
  · cases e
theorem pairsD_inv : ∀ {xs : List PyData} {ps : List (PyData × PyData)}, pairsD xs = some ps → xs = ps.map fun p => .tuple [p.1, p.2]
  | [], ps, e => by
    have : ps = [] := by simpa [pairsD] using e.symm
    subst this; rfl
  | x :: xs, ps, e => by
    unfold pairsD at e
    split at e
    · rename_i h; cases h
    · rename_i k v r h
      cases h
      obtain ⟨qs, e1, rfl⟩ := Option.map_eq_some_iff.mp e
      rw [pairsD_inv e1]; rfl
    · cases e
/-- all keys ints or texts -/
theorem dictOf_keys : ∀ {ps acc out : List (PyData × PyData)}, (ps.foldlM (init := acc) fun acc p => match dkey p.1 with
    | some (.inl k) => some (dput acc (.inl k) p.1 p.2)
    | _ => none) = some out → ∃ ks : List L2.Key, ps.map (·.1) = ks.map keyPD
  | [], _, _, _ => ⟨[], rfl⟩
  | p :: ps, acc, out, e => by
    rw [List.foldlM_cons] at e
    cases h : dkey p.1 with
    | none => simp [h] at e
    | some k =>
      cases k with
      | inr k => simp [h] at e
      | inl k =>
        simp only [h, Option.bind_eq_bind, Option.bind_some] at e
        obtain ⟨ks, ek⟩ := dictOf_keys e
        have e1 : p.1 = keyPD k := dkey_inv h
        exact ⟨k :: ks, by rw [List.map_cons, List.map_cons, ek, e1]⟩
theorem rpK_has {K : PySem.W.Frag} {H : Hp} {P : Addr → Prop} {k : L2.Key} : ∀ {kvs : List (L2.Key × V)} {ds : List (PyData × PyData)}, RpK K H P kvs ds → (kvs.any fun kv => decide (kv.1 = k)) = dhas ds (.inl k)
  | _, _, .nil => rfl
  | _, _, .cons (k := k') r rs => by
    rw [List.any_cons, rpK_has rs]
    show _ = (decide (dkey (keyPD k') = some (Sum.inl k)) || dhas _ _)
    rw [dkey_k]
    by_cases h : k' = k
    · simp [h]
    · have : ¬ (some (Sum.inl k') : Option DK) = some (Sum.inl k) := fun e => h (Sum.inl.inj (Option.some.inj e))
      simp [h, this]
theorem rpK_map {K : PySem.W.Frag} {H : Hp} {P : Addr → Prop} {k : L2.Key} {v : V} {d : PyData} (r : Rp K H P v d) : ∀ {kvs : List (L2.Key × V)} {ds : List (PyData × PyData)}, RpK K H P kvs ds →
    RpK K H P (kvs.map fun kv => if kv.1 = k then (kv.1, v) else kv) (ds.map fun p => if dkey p.1 = some (.inl k) then (p.1, d) else p)
  | _, _, .nil => .nil
  | _, _, .cons (k := k') r' rs => by
    have ih := rpK_map r (k := k) rs
    rw [List.map_cons, List.map_cons]
    show RpK K H P _ ((if dkey (keyPD k') = some (Sum.inl k) then _ else _) :: _)
    rw [dkey_k]
    by_cases h : k' = k
    · subst h
      simp only [if_true]
      exact .cons r ih
    · have : ¬ (some (Sum.inl k') : Option DK) = some (Sum.inl k) := fun e => h (Sum.inl.inj (Option.some.inj e))
      simp only [if_neg this, if_neg h]
      exact .cons r' ih
theorem rpK_snoc {K : PySem.W.Frag} {H : Hp} {P : Addr → Prop} {k : L2.Key} {v : V} {d : PyData} (r : Rp K H P v d) : ∀ {kvs : List (L2.Key × V)} {ds : List (PyData × PyData)}, RpK K H P kvs ds → RpK K H P (kvs ++ [(k, v)]) (ds ++ [(keyPD k, d)])
  | _, _, .nil => .cons r .nil
  | _, _, .cons r' rs => .cons r' (rpK_snoc r rs)
theorem dput_rp {K : PySem.W.Frag} {H : Hp} {P : Addr → Prop} {k : L2.Key} {v : V} {d : PyData} (r : Rp K H P v d) {kvs : List (L2.Key × V)} {ds : List (PyData × PyData)} (rk : RpK K H P kvs ds) : RpK K H P (putK kvs k v) (dput ds (.inl k) (keyPD k) d) := by
  unfold putK dput
  rw [rpK_has rk]
  split
  · exact rpK_map r rk
  · exact rpK_snoc r rk
theorem dictOf_rp {K : PySem.W.Frag} {H : Hp} {P : Addr → Prop} : ∀ {ks : List L2.Key} {ps : List (PyData × PyData)} {vs : List V} {acc out : List (PyData × PyData)} {kvs : List (L2.Key × V)}, ps.map (·.1) = ks.map keyPD → RpAll K H P vs (ps.map (·.2)) → RpK K H P kvs acc →
    (ps.foldlM (init := acc) fun acc p => match dkey p.1 with
    | some (.inl k) => some (dput acc (.inl k) p.1 p.2)
    | _ => none) = some out → RpK K H P (mergeK kvs (ks.zip vs)) out
  | [], [], _, _, _, _, _, .nil, ra, e => by
    cases e
    exact ra
  | k :: ks, p :: ps, v :: vs, acc, out, kvs, ek, .cons r rs, ra, e => by
    rw [List.map_cons, List.map_cons] at ek
    injection ek with e1 e2
    rw [List.foldlM_cons, e1, dkey_k] at e
    simp only [Option.bind_eq_bind, Option.bind_some] at e
    show RpK K H P (mergeK (putK kvs k v) (ks.zip vs)) out
    exact dictOf_rp e2 rs (dput_rp r ra) e
  | [], p :: ps, _, _, _, _, ek, _, _, _ => by simp at ek
  | k :: ks, [], _, _, _, _, ek, _, _, _ => by simp at ek

theorem pair_addrs {K : PySem.W.Frag} {H : Hp} {P : Addr → Prop} : ∀ {ps : List (PyData × PyData)} {vs : List V} {ks : List L2.Key}, RpAll K H P vs (ps.map fun p => .tuple [p.1, p.2]) → ps.map (·.1) = ks.map keyPD →
    ∃ (as : List Addr) (ws : List V), vs = as.map V.ref ∧ RpAll K H P ws (ps.map (·.2)) ∧ Paired (fun a kv => SqT K H a [kV kv.1, kv.2]) as (ks.zip ws)
  | [], _, ks, .nil, e => by
    have : ks = [] := by cases ks with
      | nil => rfl
      | cons _ _ => cases e
    subst this
    exact ⟨[], [], rfl, .nil, .nil⟩
  | p :: ps, _, k :: ks, .cons r rs, e => by
    rw [List.map_cons, List.map_cons] at e
    injection e with e1 e2
    obtain ⟨as, ws, rfl, rw', hp⟩ := pair_addrs rs e2
    cases r with
    | tup h ra =>
      cases ra with
      | cons r1 r2 =>
        cases r2 with
        | cons r2 r3 =>
          cases r3
          rw [e1] at r1
          have := key_val r1
          subst this
          exact ⟨_ :: as, _ :: ws, rfl, .cons r2 rw', .cons (.inl (.inl h)) hp⟩
  | p :: ps, _, [], _, e => by simp at e
theorem tyDict (hc : X.calm = true) : CallR X (.type "dict") (rA X.K fun ds => match ds with
    | [.list xs] => do return (.dict (← dictOf (← pairsD xs)), .fr)
    | [.dict kvs] => if kvs.all plainKey then some (.dict kvs, .fr) else none
    | _ => none) := by
  intro pins s σ H xs us Q I r ⟨P, ds, d, fl, hr, e, w⟩
  dsimp only at e
  split at e
  · rename_i zs
    cases h1 : pairsD zs with
    | none => simp [h1] at e
    | some ps =>
      cases h2 : dictOf ps with
      | none => simp [h1, h2] at e
      | some out =>
        simp only [h1, h2, Option.bind_eq_bind, Option.bind_some, Option.pure_def, Option.some.injEq, Prod.mk.injEq] at e
        obtain ⟨rfl, rfl⟩ := e
        have ez := pairsD_inv h1
        subst ez
        obtain ⟨v, rfl, rv⟩ := one_in hr rfl
        cases rv with
        | lst n h ra =>
          obtain ⟨ks, ek⟩ := dictOf_keys (show _ = some out from h2)
          obtain ⟨as, ws, rfl, rw', hp⟩ := pair_addrs ra ek
          exact call_dictP hc pins s σ H _ us Q I r ⟨_, as, ks.zip ws, rfl, .inl (.inl h), hp, w.dk (dictOf_rp ek rw' .nil h2)⟩
  · rename_i kvs
    split at e
    · rename_i hk
      simp only [Option.some.injEq, Prod.mk.injEq] at e
      obtain ⟨rfl, rfl⟩ := e
      obtain ⟨v, rfl, rv⟩ := one_in hr rfl
      cases rv with
      | dk n h ra => exact call_dictD pins s σ H _ us Q I r ⟨_, _, rfl, h.rd, w.dk ra⟩
      | dt n h ra =>
        exfalso
        cases ra with
        | nil => exact h.1 rfl
        | cons r rs =>
          rename_i k _ _ _ _
          rw [List.all_cons, Bool.and_eq_true] at hk
          have := hk.1
          unfold plainKey at this
          rw [show dkey (PyData.tuple (List.map keyPD k), _).1 = _ from dkey_t k] at this
          cases this
    · cases e
  · cases e
/-- sorted(x), x collected -/
theorem sortedC (hu : X.A.units + 70 < cLine) {pins : List (Addr × Obj)} {σ : L2.St} {H : Hp} {s : Shared} {P : Addr → Prop} {Q : VK} {u : Value} {xs : List V} {ds : List PyData} (r : RpAll X.K H P xs ds) (ok : sortOk ds = true) (w : WantP X.K P H Q (.list (sortD ds)) .fr)
    (col : ∀ (E : Value → Shared → Prop) (Q' : List Value → Shared → Prop), (∀ its s1, Inv X pins σ H s1 → Vals xs its → Q' its s1) → wpAny (model X.prog X.w) X.A.in1 (collect u) Q' E s) :
    wpAny (model X.prog X.w) X.A (call (.builtin "sorted") [u]) (EP X pins σ Q) X.xe s := by
  obtain ⟨h1, h2, h3, h4, h5⟩ := sortOk_ok ok
  have hd : mxD = 40 := rfl
  refine Calls.call_function_entry PyProof.Rows.kind_sorted PyProof.Rows.plain_sorted PyProof.Rows.entry_sorted (PyProof.Rows.args_sorted1 _) ?_
  unfold Builtin.«sorted»
  refine wpAny_bind (m := checkCount "sorted" 1 1 _) (wpAny_pure ?_)
  refine wpAny_bind (col _ _ fun its s1 I1 rv => ?_)
  have hl : its.length = ds.length := rv.length.symm.trans r.length
  refine wpAny_bind (wpAny_newList ?_ (by rw [hl]; exact h5))
  have hoL : (s1.heap.push (seqObj "list" its.toArray 0)).get? s1.heap.objs.size = some (seqObj "list" its.toArray 0) := Heap.get?_push_size _ rfl
  have old : ∀ b o, s1.heap.get? b = some o → (PySem.W.sortingHeap (s1.heap.push (seqObj "list" its.toArray 0)) s1.heap.objs.size its).get? b = some o := fun b o e => by
    have hb : b < s1.heap.objs.size := Heap.lt_size e
    have e2 : (s1.heap.push (seqObj "list" its.toArray 0)).get? b = some o := Heap.get?_push_of_some _ e
    exact PySem.W.sortingHeap_old (Nat.ne_of_lt hb) e2
  obtain ⟨as, rr⟩ := r.readsAll I1 h2 rv
  have es : PySem.W.EachIs (fun v d => ∃ as, Reads (PySem.W.sortingHeap (s1.heap.push (seqObj "list" its.toArray 0)) s1.heap.objs.size its) v d as) its ds :=
    (each_of rr).mono fun _ _ ⟨as, q⟩ => ⟨as, PyProof.Rows.Reads.keeps old q⟩
  have dep : ∀ d, d ∈ ds → X.A.in1.in1.units + d.depth < cLine := by
    intro d hd'
    have : d.depth ≤ PyData.depthAll ds := by
      clear rr es r h1 h4 ok w hl rv col
      induction ds with
      | nil => cases hd'
      | cons x xs ih =>
        show d.depth ≤ max x.depth (PyData.depthAll xs)
        rcases List.mem_cons.mp hd' with rfl | hb
        · exact Nat.le_max_left _ _
        · exact Nat.le_trans (ih (plainAll_cons h2).2 (Nat.le_trans (Nat.le_max_right _ _) h3) (Nat.le_of_succ_le h5) hb) (Nat.le_max_right _ _)
    show X.A.units + 1 + 1 + d.depth < cLine
    omega
  have S := PySem.W.SortsAt.data (prog := X.prog) (w := X.w) (A := X.A.in1.in1) (s := { s1 with heap := PySem.W.sortingHeap (s1.heap.push (seqObj "list" its.toArray 0)) s1.heap.objs.size its }) es h1 h4 dep
  have sd := PySem.W.sortVals_data (h' := PySem.W.sortingHeap (s1.heap.push (seqObj "list" its.toArray 0)) s1.heap.objs.size its) (R := Sd X.K H P) (enc := fun d : PyData => d) false (sd_of r rv) es (by simpa using h1)
  show wpAny _ _ _ _ _ { s1 with heap := s1.heap.push (seqObj "list" its.toArray 0) }
  refine wpAny_bind (wpAny_holding (wpAny_call_entry PyProof.Rows.slot_list_sort ⟨_, hoL, rfl⟩ PyProof.Rows.entry_list_sort
    (PySem.W.list_sort_vals (s := { s1 with heap := s1.heap.push (seqObj "list" its.toArray 0) }) hoL S (by rw [hl]; exact h5) ⟨_, rfl, ?_⟩)
    (PyProof.Rows.args_list_sort _)))
  obtain ⟨ws, rw1, rw2⟩ := of_sd sd
  obtain ⟨e', he'⟩ := PyProof.Rows.sortedHeap_at (vs := its) (out := (PySem.W.sortVals (PySem.W.dataKind (PySem.W.sortingHeap (s1.heap.push (seqObj "list" its.toArray 0)) s1.heap.objs.size its) ds) false its its).toArray) hoL
  have hlen : ws.length ≤ sizeLine := by rw [rw1.length, List.length_mergeSort]; exact h5
  refine wpAny_pure ⟨_, rfl, .ref s1.heap.objs.size, upd H s1.heap.objs.size (.lst ws), I1.laid (t' := s1.toks) (fun b u e => ?_) (Nat.le_refl _)
    (show ObjOk X.prog X.w _ _ _ (.lst ws) from ⟨hlen, _, e', by simpa using rw2, by simpa using he'⟩), rfl, w.lst ?_ _ (I1.hok.fresh (Nat.le_refl _))⟩
  · have hb : b < s1.heap.objs.size := Heap.lt_size e
    rw [PyProof.Rows.sortedHeap_old (Nat.ne_of_lt hb) (by rw [size_push']; exact Nat.lt_succ_of_lt hb)]
    exact Heap.get?_push_of_some _ e
  · exact rw1
theorem sortedP (hc : X.calm = true) (hu : X.A.units + 70 < cLine) : CallR X (.builtin "sorted") (rA X.K (biV .sorted)) := by
  intro pins s σ H xs us Q I r ⟨P, ds, d, fl, hr, e, w⟩
  have e : v_sorted ds = some (d, fl) := e
  unfold v_sorted at e
  split at e
  · split at e
    · rename_i ok
      simp only [Option.some.injEq, Prod.mk.injEq] at e
      obtain ⟨rfl, rfl⟩ := e
      obtain ⟨v, rfl, rv⟩ := one_in hr rfl
      cases rv with
      | lst n h ra =>
        obtain ⟨u, rfl, rx⟩ := vals1 r
        cases (show u = Value.ref _ from rx)
        exact sortedL hu I h ra ok w
    · cases e
  · split at e
    · rename_i ok
      simp only [Option.some.injEq, Prod.mk.injEq] at e
      obtain ⟨rfl, rfl⟩ := e
      obtain ⟨v, rfl, rv⟩ := one_in hr rfl
      cases rv with
      | tup h ra =>
        obtain ⟨u, rfl, rx⟩ := vals1 r
        cases (show u = Value.ref _ from rx)
        obtain ⟨its, rr, ⟨o, ho, hcl, n, hd⟩, hz⟩ := I.tuple (X := X) (.inl (.inl h))
        have hl := rr.length
        refine sortedC hu ra ok w fun E Q' hQ => wpAny_collect_seq _ (.inr rfl) ho hcl hd (fun h' hk => ?_) (by rw [List.size_toArray]; omega)
        have e : its.toArray.toList = its := by simp
        rw [e]
        exact hQ its _ (I.kept (t' := s.toks) hk) rr
    · cases e
  · split at e
    · rename_i ok
      simp only [Option.some.injEq, Prod.mk.injEq] at e
      obtain ⟨rfl, rfl⟩ := e
      obtain ⟨v, rfl, rv⟩ := one_in hr rfl
      have hsz : _ ≤ sizeLine := (sortOk_ok ok).2.2.2.2
      cases rv with
      | dk n h ra =>
        obtain ⟨u, rfl, rx⟩ := vals1 r
        cases (show u = Value.ref _ from rx)
        obtain ⟨z, lo, vs, rel, dd⟩ := dk_rd I.hok h.rd
        obtain ⟨ep, hat⟩ := dd.dictAt
        have h16 : vs.length ≤ sizeLine := by rw [← rel.length]; exact z
        refine sortedC hu (keys_rp ra) ok w fun E Q' hQ => PySem.W.kdu_collect (A := X.A.in1) (PySem.W.kdl_dict (knd := mixKind X.prog X.w) (kvs := vs) (ep := ep) lo) (I.ok.hd hc) hat h16 fun h' tk acc hk hacc => ?_
        refine hQ _ _ (I.kept hk) ?_
        have hk2 := keys_at (us := acc.toList) (vs := vs) (by rw [Array.length_toList, hacc.1]) fun j v e => by
          obtain ⟨k, x, e1, e2⟩ := hacc.2 j v (by rw [← Array.getElem?_toList]; exact e)
          exact ⟨k, x, e1, e2⟩
        have e3 := rel.keys
        have : (List.map (fun kv => kV kv.1) ‹List (L2.Key × V)›) = vs.map fun p => kV p.1 := by
          have := congrArg (List.map kV) e3
          simpa [List.map_map, Function.comp_def] using this
        rw [this]
        exact hk2
      | dt n h ra =>
        obtain ⟨u, rfl, rx⟩ := vals1 r
        cases (show u = Value.ref _ from rx)
        obtain ⟨z, hs, ks, pr, o, es, ep, ho, hx, hdt, he, hn⟩ := (show ObjOk X.prog X.w H s.heap _ (.dT _) from h.rd.ok I.hok)
        have l1 : es.size = ks.length := size_of_entries he
        have l2 := Paired.length pr
        have l3 := ra.length
        have rq := ofDT ra (isKeys_of pr)
        refine sortedC hu rq ok w fun E Q' hQ => PySem.W.kdu_collect (A := X.A.in1) (kdl_raw hs hx hdt) (I.ok.hd hc) ho (by rw [List.length_map] at hsz; omega) fun h' tk acc hk hacc => ?_
        refine hQ _ _ (I.kept hk) ?_
        have ea : acc.toList = ks.map fun x => Value.ref x.2.1 := by
          have hl : acc.toList.length = ks.length := by rw [Array.length_toList, hacc.1]; exact l1
          apply List.ext_getElem?
          intro j
          rw [List.getElem?_map]
          cases hj : acc.toList[j]? with
          | none =>
            have h1 := List.getElem?_eq_none_iff.mp hj
            rw [List.getElem?_eq_none (by omega)]
            all_goals rfl
          | some v =>
            obtain ⟨en, hen, hv⟩ := hacc.2 j v (by rw [← Array.getElem?_toList]; exact hj)
            have qe := entry_at he j
            rw [hen] at qe
            cases hb : ks[j]? with
            | none =>
              rw [hb] at qe
              exact nomatch (show some en = none from qe)
            | some b =>
              rw [hb] at qe
              have e2 : en = entryOfKey (tupleKind (mixKind X.prog X.w)) b := Option.some.inj qe
              rw [hv, e2]
              all_goals rfl
        have eb : acc.toList = (ks.map fun x => x.2.1).map Value.ref := by rw [ea, List.map_map]; all_goals rfl
        rw [eb]
        exact vals_refs _
    · cases e
  · cases e
end
end PP

/-! PP6: expressions: what the evaluator says is what the code does. Simple forms. -/
namespace PP
open PySem PySem.Spec PyProof.Rows L2

/-- a frame: Z hidden from the start, P hidden now, O the slots of one's own objects, A those read as they stand, M those changed -/
structure Fr where
  Z : Addr → Prop
  P : Addr → Prop
  O : List Nat
  A : List Nat
  M : List Nat
structure EnvOk (K : PySem.W.Frag) (F : Fr) (ρ : PEnv) (σ : L2.St) (H : Hp) : Prop where
  adr : ∀ i : Nat, i ∈ F.O → ∃ a, σ[i]? = some (some (V.ref a)) ∧ (F.P a ↔ i ∉ F.A) ∧ ¬ F.Z a
  inj : ∀ (i j : Nat) (a : Addr), i ∈ F.O → j ∈ F.O → σ[i]? = some (some (V.ref a)) → σ[j]? = some (some (V.ref a)) → i = j
  zp : ∀ a, F.Z a → F.P a
  mo : ∀ i : Nat, i ∈ F.M → i ∈ F.O ∧ i ∉ F.A
  shape : ∀ i : Nat, i ∈ F.O → ∃ d, ρ[i]? = some (Sl.ow d)
  ow : ∀ (i : Nat) (d : PyData), ρ[i]? = some (Sl.ow d) → i ∈ F.O ∧ ∃ a, σ[i]? = some (some (V.ref a)) ∧ Own K H F.P a d
  fz : ∀ (i : Nat) (d : PyData), ρ[i]? = some (Sl.fz d) → ∃ v, σ[i]? = some (some v) ∧ Rp K H F.P v d
  there : ∀ a, F.P a → ∃ u, H a = some u
  nd : lkM ∈ F.A → ∀ (i : Nat) (d : PyData), i ∈ F.A → ρ[i]? = some (Sl.ow d) → notDict d = true
  len : ρ.length = σ.length
/-- the objects that may be changed -/
def Wr (σ : L2.St) (M : List Nat) (a : Addr) : Prop := ∃ i, i ∈ M ∧ σ[i]? = some (some (V.ref a))
structure Keep (W : Addr → Prop) (H H' : Hp) : Prop where
  keep : ∀ a o, H a = some o → ¬ W a → H' a = some o
  tups : ∀ a xs, H a = some (.tup xs) → H' a = some (.tup xs)
  gone : ∀ a, H' a = none → H a = none
theorem Keep.refl {W : Addr → Prop} {H : Hp} : Keep W H H := ⟨fun _ _ h _ => h, fun _ _ h => h, fun _ h => h⟩
theorem Keep.trans {W : Addr → Prop} {H H1 H2 : Hp} (a : Keep W H H1) (b : Keep W H1 H2) : Keep W H H2 := ⟨fun x o h n => b.keep x o (a.keep x o h n) n, fun x xs h => b.tups x xs (a.tups x xs h), fun x h => a.gone x (b.gone x h)⟩
theorem Keep.of {W : Addr → Prop} {H H' : Hp} (k : ∀ a o, H a = some o → H' a = some o) : Keep W H H' := ⟨fun a o h _ => k a o h, fun a xs h => k a _ h, fun a h => by
  cases e : H a with
  | none => rfl
  | some o => rw [k a o e] at h; cases h⟩
theorem Keep.grow {W : Addr → Prop} {H H1 H' : Hp} (a : Keep W H H1) (k : ∀ a o, H1 a = some o → H' a = some o) : Keep W H H' := a.trans (.of k)
theorem Keep.weak {W W' : Addr → Prop} {H H' : Hp} (a : Keep W H H') (h : ∀ a, W a → W' a) : Keep W' H H' := ⟨fun x o e n => a.keep x o e fun z => n (h x z), a.tups, a.gone⟩
theorem Keep.ext {W P : Addr → Prop} {H H' : Hp} (a : Keep W H H') (h : ∀ a, W a → P a) : Ext P P H H' := ⟨fun x o e n => a.keep x o e fun z => n (h x z), a.tups, fun _ z => .inl z⟩
/-- nothing is changed -/
theorem Keep.all {W : Addr → Prop} {H H' : Hp} (a : Keep W H H') (h : ∀ a, ¬ W a) : ∀ a o, H a = some o → H' a = some o := fun x o e => a.keep x o e (h x)
/-- one more thing hidden -/
def Fr.plus (F : Fr) (D : Addr) : Fr := { F with P := fun b => F.P b ∨ b = D }
/-- the value; where it is new, nothing else knows it -/
structure Res (K : PySem.W.Frag) (F : Fr) (ρ' : PEnv) (σ : L2.St) (H0 H' : Hp) (v : V) (d : PyData) (fl : Fl) : Prop where
  rp : Rp K H' F.P v d
  fr : fl = .fr → ∃ a, v = .ref a ∧ H0 a = none ∧ Own K H' (fun b => F.P b ∨ b = a) a d ∧ EnvOk K (F.plus a) ρ' σ H'
section
variable {K : PySem.W.Frag} {F : Fr} {ρ ρ' : PEnv} {σ : L2.St} {H H' H2 : Hp}
theorem EnvOk.wr (en : EnvOk K F ρ σ H) {a : Addr} (h : Wr σ F.M a) : F.P a := by
  obtain ⟨i, hi, e⟩ := h
  obtain ⟨h1, h2⟩ := en.mo i hi
  obtain ⟨b, e', h3, _⟩ := en.adr i h1
  rw [e] at e'
  cases e'
  exact h3.mpr h2
theorem EnvOk.grow (en : EnvOk K F ρ σ H) (k : ∀ a o, H a = some o → H' a = some o) : EnvOk K F ρ σ H' where
  adr := en.adr
  inj := en.inj
  zp := en.zp
  mo := en.mo
  shape := en.shape
  ow := fun i d e => let ⟨h, a, e2, o⟩ := en.ow i d e; ⟨h, a, e2, o.ext (.same k) fun u z => k _ u z⟩
  fz := fun i d e => let ⟨v, e2, r⟩ := en.fz i d e; ⟨v, e2, r.ext (.same k)⟩
  there := fun a p => let ⟨u, e⟩ := en.there a p; ⟨u, k a u e⟩
  nd := en.nd
  len := en.len
/-- one more thing hidden, of no slot, that no value knows -/
theorem EnvOk.hideG (en : EnvOk K F ρ σ H) {D : Addr} (hD : H D = none) (g : ∀ b u, H b = some u → H' b = some u) (hD' : ∃ u, H' D = some u) : EnvOk K (F.plus D) ρ σ H' := by
  have x : Ext F.P (fun b => F.P b ∨ b = D) H H' := ⟨fun a o e _ => g a o e, fun a xs e => g a _ e, fun a z => z.elim .inl fun z => .inr (by rw [z]; exact hD)⟩
  have ne : ∀ i a, i ∈ F.O → σ[i]? = some (some (V.ref a)) → a ≠ D := fun i a hi e z => by
    obtain ⟨d, hd⟩ := en.shape i hi
    obtain ⟨_, b, e2, w⟩ := en.ow i d hd
    rw [e] at e2; cases e2
    obtain ⟨u, hu, _⟩ := w.there
    rw [z, hD] at hu; cases hu
  refine ⟨fun i hi => ?_, en.inj, fun a z => .inl (en.zp a z), en.mo, en.shape, fun i d e => ?_, fun i d e => ?_, fun a z => ?_, en.nd, en.len⟩
  · obtain ⟨a, e, h1, h2⟩ := en.adr i hi
    exact ⟨a, e, ⟨fun z => z.elim h1.mp fun z => absurd z (ne i a hi e), fun z => .inl (h1.mpr z)⟩, h2⟩
  · obtain ⟨hi, a, e2, w⟩ := en.ow i d e
    exact ⟨hi, a, e2, w.ext x fun u z => g _ u z⟩
  · obtain ⟨v, e2, r⟩ := en.fz i d e
    exact ⟨v, e2, r.ext x⟩
  · rcases z with z | z
    · obtain ⟨u, hu⟩ := en.there a z
      exact ⟨u, g a u hu⟩
    · subst z
      exact hD'
theorem EnvOk.hide (en : EnvOk K F ρ σ H) {D : Addr} {o : HO} (hD : H D = none) : EnvOk K (F.plus D) ρ σ (upd H D o) :=
  en.hideG hD (fun b u z => by rw [upd_ne (ne_of_none z hD)]; exact z) ⟨o, upd_same⟩
theorem fin {Q : VK} {d : PyData} {fl : Fl} (en : EnvOk K F ρ' σ H2) (k : Keep (Wr σ F.M) H H2) (q : ∀ v H', EnvOk K F ρ' σ H' → Keep (Wr σ F.M) H H' → Res K F ρ' σ H H' v d fl → Q v H') : WantP K F.P H2 Q d fl := by
  intro v H' h
  cases h with
  | sh g r => exact q _ _ (en.grow g) (k.grow g) ⟨r, fun z => nomatch z⟩
  | @fr a _ o hn e w =>
    subst e
    have g : ∀ b u, H2 b = some u → upd H2 a o b = some u := fun b u z => by rw [upd_ne (ne_of_none z hn)]; exact z
    have np : ¬ F.P a := fun z => by
      obtain ⟨u, z⟩ := en.there a z
      rw [hn] at z; cases z
    exact q _ _ (en.grow g) (k.grow g) ⟨(w.ext (Ext.less fun b z => .inl z) fun _ z => z).rp np, fun _ => ⟨a, rfl, k.gone a hn, w, en.hide hn⟩⟩
/-- a value that stands already -/
theorem fin_sh {Q : VK} {d : PyData} {v : V} (en : EnvOk K F ρ' σ H2) (k : Keep (Wr σ F.M) H H2) (q : ∀ v H', EnvOk K F ρ' σ H' → Keep (Wr σ F.M) H H' → Res K F ρ' σ H H' v d .sh → Q v H') (r : Rp K H2 F.P v d) : Q v H2 := q _ _ en k ⟨r, fun z => nomatch z⟩

variable (K) (Φ : Nat → List PyData → Option (PyData × List PyData)) (gl : List PyData)
def tE (e : E) : TE := fun σ H Q => ∃ F ρ d fl ρ', EnvOk K F ρ σ H ∧ (∀ i, i ∈ als e → i ∈ F.A) ∧ (∀ i, i ∈ mods e → i ∈ F.M) ∧ ev Φ gl e ρ = some (d, fl, ρ') ∧
  ∀ v H', EnvOk K F ρ' σ H' → Keep (Wr σ F.M) H H' → Res K F ρ' σ H H' v d fl → Q v H'
def tT (e : E) : TT := fun σ H Q => ∃ F ρ b fl ρ', EnvOk K F ρ σ H ∧ (∀ i, i ∈ als e → i ∈ F.A) ∧ (∀ i, i ∈ mods e → i ∈ F.M) ∧ ev Φ gl e ρ = some (.bool b, fl, ρ') ∧
  ∀ H', EnvOk K F ρ' σ H' → Keep (Wr σ F.M) H H' → Q b H'
/-- how an argument stands -/
inductive ArgOk (F : Fr) (σ : L2.St) (H : Hp) : Es → List V → List PyData → Prop
  | nil : ArgOk F σ H .nil [] []
  | io {i : Nat} {es : Es} {a : Addr} {vs : List V} {d : PyData} {ds : List PyData} : i ∈ F.M → σ[i]? = some (some (V.ref a)) → ArgOk F σ H es vs ds → ArgOk F σ H (.cons (.io i) es) (.ref a :: vs) (d :: ds)
  | cons {e : E} {es : Es} {v : V} {vs : List V} {d : PyData} {ds : List PyData} : (∀ i, e ≠ .io i) → Rp K H F.P v d → ArgOk F σ H es vs ds → ArgOk F σ H (.cons e es) (v :: vs) (d :: ds)
def tEs (es : Es) : TA := fun σ H Q => ∃ F ρ ds ρ', EnvOk K F ρ σ H ∧ (∀ i, i ∈ alss es → i ∈ F.A) ∧ (∀ i, i ∈ modss es → i ∈ F.M) ∧ evs Φ gl es ρ = some (ds, ρ') ∧
  ∀ vs H', EnvOk K F ρ' σ H' → Keep (Wr σ F.M) H H' → ArgOk K F σ H' es vs ds → Q vs H'
def tO (o : O) : TO := fun σ H Q => ∃ F ρ d ρ', EnvOk K F ρ σ H ∧ (∀ i, i ∈ alsO o → i ∈ F.A) ∧ (∀ i, i ∈ modsO o → i ∈ F.M) ∧ evo Φ gl o ρ = some (d, ρ') ∧
  ∃ k, optI d = some k ∧ ∀ H', EnvOk K F ρ' σ H' → Keep (Wr σ F.M) H H' → Q k H'
end
theorem ArgOk.ext {K : PySem.W.Frag} {F : Fr} {σ : L2.St} {H H' : Hp} (x : Ext F.P F.P H H') : ∀ {es : Es} {vs : List V} {ds : List PyData}, ArgOk K F σ H es vs ds → ArgOk K F σ H' es vs ds
  | _, _, _, .nil => .nil
  | _, _, _, .io h e r => .io h e (ArgOk.ext x r)
  | _, _, _, .cons n h r => .cons n (h.ext x) (ArgOk.ext x r)
def isIo : E → Bool
  | .io _ => true
  | _ => false
def noIo : Es → Bool
  | .nil => true
  | .cons e es => !isIo e && noIo es
theorem ArgOk.rp {K : PySem.W.Frag} {F : Fr} {σ : L2.St} {H : Hp} : ∀ {es : Es} {vs : List V} {ds : List PyData}, noIo es = true → ArgOk K F σ H es vs ds → RpAll K H F.P vs ds
  | _, _, _, _, .nil => .nil
  | _, _, _, n, .io h e r => by simp [noIo, isIo] at n
  | _, _, _, n, .cons ne h r => by
    rw [noIo, Bool.and_eq_true] at n
    exact .cons h (ArgOk.rp n.2 r)

def PEv (X : Cx) (Φ : Nat → List PyData → Option (PyData × List PyData)) (gl : List PyData) (p : Expr) (e : E) : Prop := PE X p (tE X.K Φ gl e)
def PTv (X : Cx) (Φ : Nat → List PyData → Option (PyData × List PyData)) (gl : List PyData) (p : Expr) (e : E) : Prop := PT X p (tT X.K Φ gl e)
def PWv (X : Cx) (Φ : Nat → List PyData → Option (PyData × List PyData)) (gl : List PyData) (p : Expr) (e : E) : Prop := PW X p (tT X.K Φ gl e)
def PAv (X : Cx) (Φ : Nat → List PyData → Option (PyData × List PyData)) (gl : List PyData) (p : List Expr) (es : Es) : Prop := PA X p (tEs X.K Φ gl es)
def POv (X : Cx) (Φ : Nat → List PyData → Option (PyData × List PyData)) (gl : List PyData) (p : Option Expr) (o : O) : Prop := PO X p (tO X.K Φ gl o)
theorem _root_.L2.PE.imp {X : Cx} {p : Expr} {t t' : TE} (h : PE X p t) (i : ∀ σ H Q, t' σ H Q → t σ H Q) : PE X p t' := ⟨fun pins s σ H Q I w => h.run pins s σ H Q I (i σ H Q w)⟩
theorem _root_.L2.PT.imp {X : Cx} {p : Expr} {t t' : TT} (h : PT X p t) (i : ∀ σ H Q, t' σ H Q → t σ H Q) : PT X p t' := ⟨fun pins s σ H Q I w => h.run pins s σ H Q I (i σ H Q w)⟩
theorem _root_.L2.PW.imp {X : Cx} {p : Expr} {t t' : TT} (h : PW X p t) (i : ∀ σ H Q, t' σ H Q → t σ H Q) : PW X p t' := ⟨fun wh pins s σ H Q I w => h.run wh pins s σ H Q I (i σ H Q w)⟩
theorem _root_.L2.PA.imp {X : Cx} {p : List Expr} {t t' : TA} (h : PA X p t) (i : ∀ σ H Q, t' σ H Q → t σ H Q) : PA X p t' := ⟨fun pos pins s σ H Q I w => h.run pos pins s σ H Q I (i σ H Q w)⟩
theorem _root_.L2.PO.imp {X : Cx} {p : Option Expr} {t t' : TO} (h : PO X p t) (i : ∀ σ H Q, t' σ H Q → t σ H Q) : PO X p t' := ⟨fun pins s σ H Q I w => h.run pins s σ H Q I (i σ H Q w)⟩

theorem bind_some {α β : Type} {a : Option α} {f : α → Option β} {b : β} (h : (a >>= f) = some b) : ∃ x, a = some x ∧ f x = some b := Option.bind_eq_some_iff.mp h
section
variable {K : PySem.W.Frag} {Φ : Nat → List PyData → Option (PyData × List PyData)} {gl : List PyData} {F : Fr} {ρ ρ1 ρ2 : PEnv} {σ : L2.St} {H : Hp}
theorem one {e : E} {d : PyData} {fl : Fl} (en : EnvOk K F ρ σ H) (sa : ∀ i, i ∈ als e → i ∈ F.A) (sm : ∀ i, i ∈ mods e → i ∈ F.M) (h : ev Φ gl e ρ = some (d, fl, ρ1)) {Q : VK}
    (q : ∀ v H', EnvOk K F ρ1 σ H' → Keep (Wr σ F.M) H H' → Res K F ρ1 σ H H' v d fl → Q v H') : tE K Φ gl e σ H Q := ⟨F, ρ, d, fl, ρ1, en, sa, sm, h, q⟩
theorem two {e e' : E} {d d' : PyData} {fl fl' : Fl} (en : EnvOk K F ρ σ H) (sa : ∀ i, i ∈ als e ++ als e' → i ∈ F.A) (sm : ∀ i, i ∈ mods e ++ mods e' → i ∈ F.M) (h : ev Φ gl e ρ = some (d, fl, ρ1)) (h' : ev Φ gl e' ρ1 = some (d', fl', ρ2))
    {R : V → V → Hp → Prop} (q : ∀ v w H2, EnvOk K F ρ2 σ H2 → Keep (Wr σ F.M) H H2 → Rp K H2 F.P v d → Rp K H2 F.P w d' → R v w H2) : tE K Φ gl e σ H fun v H1 => tE K Φ gl e' σ H1 fun w H2 => R v w H2 :=
  one en (fun i z => sa i (List.mem_append_left _ z)) (fun i z => sm i (List.mem_append_left _ z)) h fun v H1 en1 k1 r1 =>
    one en1 (fun i z => sa i (List.mem_append_right _ z)) (fun i z => sm i (List.mem_append_right _ z)) h' fun w H2 en2 k2 r2 =>
      q v w H2 en2 (k1.trans k2) (r1.rp.ext (k2.ext fun a z => en1.wr z)) r2.rp
end
section
variable {X : Cx} {Φ : Nat → List PyData → Option (PyData × List PyData)} {gl : List PyData} {a b c : Expr} {ea eb ec : E} {pos : Pos}
theorem e_var {i : Nat} {x : Str} (hN : X.N[i]? = some x) (hv : Vis X.env.scope x) (hd : (x == ("__debug__" : Str)) = false := by decide) (hcd : (x == ("__classdict__" : Str)) = false := by decide) : PEv X Φ gl (.Name x pos) (.var i) :=
  (pe_var hN hv hd hcd).imp fun σ H Q ⟨F, ρ, d, fl, ρ', en, sa, sm, h, q⟩ => by
    simp only [ev] at h
    obtain ⟨d', e, ed⟩ := Option.map_eq_some_iff.mp h
    cases ed
    unfold getS at e
    cases e2 : ρ[i]? with
    | none => rw [e2] at e; cases e
    | some s =>
      rw [e2] at e
      cases s with
      | no => cases e
      | fz d2 =>
        cases e
        obtain ⟨v, e3, r⟩ := en.fz i d e2
        exact ⟨v, e3, q _ _ en .refl ⟨r, fun z => nomatch z⟩⟩
      | ow d2 =>
        cases e
        obtain ⟨ho, v, e3, r⟩ := en.ow i d e2
        obtain ⟨a, e4, h1, _⟩ := en.adr i ho
        rw [e3] at e4
        cases e4
        exact ⟨_, e3, q _ _ en .refl ⟨r.rp fun z => h1.mp z (sa i (by simp [als])), fun z => nomatch z⟩⟩
theorem e_const {p : Expr} {e : E} {v : V} {d : PyData} (h : PE X p (tC v)) (he : ∀ ρ, ev Φ gl e ρ = some (d, .sh, ρ)) (hr : ∀ H P, Rp X.K H P v d) : PEv X Φ gl p e :=
  h.imp fun σ H Q ⟨F, ρ, d, fl, ρ', en, sa, sm, h, q⟩ => by
    rw [he] at h
    cases h
    exact q _ _ en .refl ⟨hr _ _, fun z => nomatch z⟩
theorem e_int {i j} : PEv X Φ gl (.Constant (.int i) j pos) (.int i) := e_const pe_int (d := .int i) (fun ρ => by simp only [ev]) fun _ _ => .int i
theorem e_bl {i j} : PEv X Φ gl (.Constant (.bool i) j pos) (.bl i) := e_const pe_bl (d := .bool i) (fun ρ => by simp only [ev]) fun _ _ => .bl i
theorem e_str {i j} : PEv X Φ gl (.Constant (.str i) j pos) (.str i) := e_const pe_str (d := .str i) (fun ρ => by simp only [ev]) fun _ _ => .str i
theorem e_non {j} : PEv X Φ gl (.Constant .none j pos) .non := e_const pe_non (d := .none) (fun ρ => by simp only [ev]) fun _ _ => .non
theorem e_glob {x : Str} {g : Nat} {s : Str} {t : Tok} (hg : Gl X x) (hm : X.mg x = some (.str s t)) (he : gl[g]? = some (.str s)) (hd : (x == ("__debug__" : Str)) = false := by decide) : PEv X Φ gl (.Name x pos) (.glob g) :=
  e_const (pe_glob hg hm (v := .str s) ⟨t, rfl⟩ hd) (d := .str s) (fun ρ => by simp only [ev, he]) fun _ _ => .str s
theorem e_bin {op : Operator} (ha : PEv X Φ gl a ea) (hb : PEv X Φ gl b eb) : PEv X Φ gl (.BinOp a op b pos) (.bin op ea eb) :=
  (pe_op (opBin op) ha hb).imp fun σ H Q ⟨F, ρ, d, fl, ρ', en, sa, sm, h, q⟩ => by
    simp only [ev] at h
    obtain ⟨⟨x, fx, ρ1⟩, h1, h⟩ := bind_some h
    obtain ⟨⟨y, fy, ρ2⟩, h2, h⟩ := bind_some h
    obtain ⟨⟨z, fz⟩, h3, h⟩ := bind_some h
    cases h
    exact two en (by simpa [als] using sa) (by simpa [mods] using sm) h1 h2 fun v w H2 en2 k2 r1 r2 => ⟨F.P, x, y, _, _, r1, r2, h3, fin en2 k2 q⟩
theorem e_cmp {op : CmpOp} (hu : X.A.units + 70 < cLine) (ha : PEv X Φ gl a ea) (hb : PEv X Φ gl b eb) (hm : behindInMarks op b = false) : PEv X Φ gl (.Compare a [op] [b] pos) (.cmp op ea eb) :=
  (pe_cmpR (opCmp op hu) ha hb hm).imp fun σ H Q ⟨F, ρ, d, fl, ρ', en, sa, sm, h, q⟩ => by
    simp only [ev] at h
    obtain ⟨⟨x, fx, ρ1⟩, h1, h⟩ := bind_some h
    obtain ⟨⟨y, fy, ρ2⟩, h2, h⟩ := bind_some h
    obtain ⟨z, h3, h⟩ := bind_some h
    cases h
    exact two en (by simpa [als] using sa) (by simpa [mods] using sm) h1 h2 fun v w H2 en2 k2 r1 r2 => ⟨F.P, x, y, _, _, r1, r2, congrArg (Option.map _) h3, fin en2 k2 q⟩
theorem t_cmp {op : CmpOp} (hu : X.A.units + 70 < cLine) (ha : PEv X Φ gl a ea) (hb : PEv X Φ gl b eb) (hm : behindInMarks op b = false) : PTv X Φ gl (.Compare a [op] [b] pos) (.cmp op ea eb) :=
  (pt_cmpR (opCmp op hu) ha hb hm).imp fun σ H Q ⟨F, ρ, d, fl, ρ', en, sa, sm, h, q⟩ => by
    simp only [ev] at h
    obtain ⟨⟨x, fx, ρ1⟩, h1, h⟩ := bind_some h
    obtain ⟨⟨y, fy, ρ2⟩, h2, h⟩ := bind_some h
    obtain ⟨z, h3, h⟩ := bind_some h
    cases h
    exact two en (by simpa [als] using sa) (by simpa [mods] using sm) h1 h2 fun v w H2 en2 k2 r1 r2 => ⟨F.P, x, y, .bool _, .sh, r1, r2, congrArg (Option.map _) h3, fin en2 k2 fun v H' en' k' r' => by
      cases r'.rp
      exact ⟨_, rfl, q _ en' k'⟩⟩
theorem e_not (ha : PEv X Φ gl a ea) : PEv X Φ gl (.UnaryOp .Not a pos) (.un .Not ea) :=
  (pe_not ha).imp fun σ H Q ⟨F, ρ, d, fl, ρ', en, sa, sm, h, q⟩ => by
    simp only [ev] at h
    obtain ⟨⟨x, fx, ρ1⟩, h1, h⟩ := bind_some h
    obtain ⟨y, h3, h⟩ := bind_some h
    cases h
    refine one en (by simpa [als] using sa) (by simpa [mods] using sm) h1 fun v H' en' k' r' => ?_
    cases r'.rp <;> simp only [unV, Option.some.injEq] at h3 <;> first | (cases h3; done) | skip
    subst h3
    exact ⟨_, rfl, fin_sh en' k' q (.bl _)⟩
theorem t_not (ha : PTv X Φ gl a ea) : PTv X Φ gl (.UnaryOp .Not a pos) (.un .Not ea) :=
  (pt_not ha).imp fun σ H Q ⟨F, ρ, d, fl, ρ', en, sa, sm, h, q⟩ => by
    simp only [ev] at h
    obtain ⟨⟨x, fx, ρ1⟩, h1, h⟩ := bind_some h
    obtain ⟨y, h3, h⟩ := bind_some h
    cases h
    cases x <;> simp only [unV, Option.some.injEq] at h3 <;> first | (cases h3; done) | skip
    rename_i b' _
    injection h3 with h3
    subst h3
    exact ⟨F, ρ, b', fx, _, en, by simpa [als] using sa, by simpa [mods] using sm, h1, fun H' en' k' => q H' en' k'⟩
theorem e_neg (ha : PEv X Φ gl a ea) : PEv X Φ gl (.UnaryOp .USub a pos) (.un .USub ea) := by
  have hu : UnR X (unaryOp .USub) (rU X.K fun d => (unV .USub d).map fun z => (z, .sh)) := (opUn .USub).resolve_right fun z => z.elim (fun z => nomatch z) fun z => z rfl
  exact (pe_un hu ha).imp fun σ H Q ⟨F, ρ, d, fl, ρ', en, sa, sm, h, q⟩ => by
    simp only [ev] at h
    obtain ⟨⟨x, fx, ρ1⟩, h1, h⟩ := bind_some h
    obtain ⟨y, h3, h⟩ := bind_some h
    cases h
    exact one en (by simpa [als] using sa) (by simpa [mods] using sm) h1 fun v H' en' k' r' => ⟨F.P, x, _, _, r'.rp, congrArg (Option.map _) h3, fin en' k' q⟩
/-- a value as a test -/
theorem t_val (h : PEv X Φ gl a ea) (he : ∀ whole, isTrue a X.env whole = (do let v ← whole; standAt a.pos; holding [v] (truthy v)) := by intro _; rfl) : PTv X Φ gl a ea :=
  (pt_val h he).imp fun σ H Q ⟨F, ρ, d, fl, ρ', en, sa, sm, h, q⟩ => one en sa sm h fun v H' en' k' r' => by
    cases r'.rp
    exact ⟨_, rfl, q _ en' k'⟩
theorem t_w (h : PWv X Φ gl a ea) : PTv X Φ gl a ea := PW.pt h
theorem e_one {op} (h : PEv X Φ gl a ea) : PEv X Φ gl (.BoolOp op [a] pos) ea := pe_one h
variable {rest : List Expr}
theorem e_and (ha : PEv X Φ gl a ea) (hb : PEv X Φ gl (.BoolOp .And (b :: rest) pos) eb) : PEv X Φ gl (.BoolOp .And (a :: b :: rest) pos) (.bop .And ea eb) :=
  (pe_and ha hb).imp fun σ H Q ⟨F, ρ, d, fl, ρ', en, sa, sm, h, q⟩ => by
    simp only [ev] at h
    obtain ⟨⟨x, fx, ρ1⟩, h1, h⟩ := bind_some h
    have sa : ∀ i, i ∈ als ea ++ als eb → i ∈ F.A := by simpa [als] using sa
    have sm : ∀ i, i ∈ mods ea ++ mods eb → i ∈ F.M := by simpa [mods] using sm
    refine one en (fun i z => sa i (List.mem_append_left _ z)) (fun i z => sm i (List.mem_append_left _ z)) h1 fun v H1 en1 k1 r1 => ?_
    cases r1.rp <;> dsimp only at h <;> first | (cases h; done) | skip
    rename_i b
    refine ⟨b, rfl, ?_⟩
    cases b with
    | false => cases h; exact fin_sh en1 k1 q (.bl _)
    | true => exact one en1 (fun i z => sa i (List.mem_append_right _ z)) (fun i z => sm i (List.mem_append_right _ z)) h fun v H2 en2 k2 r2 => q _ _ en2 (k1.trans k2) ⟨r2.rp, fun z => let ⟨a, h1, h2, h3⟩ := r2.fr z; ⟨a, h1, k1.gone a h2, h3⟩⟩
theorem e_or (ha : PEv X Φ gl a ea) (hb : PEv X Φ gl (.BoolOp .Or (b :: rest) pos) eb) : PEv X Φ gl (.BoolOp .Or (a :: b :: rest) pos) (.bop .Or ea eb) :=
  (pe_or ha hb).imp fun σ H Q ⟨F, ρ, d, fl, ρ', en, sa, sm, h, q⟩ => by
    simp only [ev] at h
    obtain ⟨⟨x, fx, ρ1⟩, h1, h⟩ := bind_some h
    have sa : ∀ i, i ∈ als ea ++ als eb → i ∈ F.A := by simpa [als] using sa
    have sm : ∀ i, i ∈ mods ea ++ mods eb → i ∈ F.M := by simpa [mods] using sm
    refine one en (fun i z => sa i (List.mem_append_left _ z)) (fun i z => sm i (List.mem_append_left _ z)) h1 fun v H1 en1 k1 r1 => ?_
    cases r1.rp <;> dsimp only at h <;> first | (cases h; done) | skip
    rename_i b
    refine ⟨b, rfl, ?_⟩
    cases b with
    | true => cases h; exact fin_sh en1 k1 q (.bl _)
    | false => exact one en1 (fun i z => sa i (List.mem_append_right _ z)) (fun i z => sm i (List.mem_append_right _ z)) h fun v H2 en2 k2 r2 => q _ _ en2 (k1.trans k2) ⟨r2.rp, fun z => let ⟨a, h1, h2, h3⟩ := r2.fr z; ⟨a, h1, k1.gone a h2, h3⟩⟩
theorem w_and1 (h : PTv X Φ gl a ea) : PWv X Φ gl (.BoolOp .And [a] pos) ea := pw_and1 h
theorem w_or1 (h : PTv X Φ gl a ea) : PWv X Φ gl (.BoolOp .Or [a] pos) ea := pw_or1 h
theorem w_and (ha : PTv X Φ gl a ea) (hb : PWv X Φ gl (.BoolOp .And (b :: rest) pos) eb) : PWv X Φ gl (.BoolOp .And (a :: b :: rest) pos) (.bop .And ea eb) :=
  (pw_and ha hb).imp fun σ H Q ⟨F, ρ, d, fl, ρ', en, sa, sm, h, q⟩ => by
    simp only [ev] at h
    obtain ⟨⟨x, fx, ρ1⟩, h1, h⟩ := bind_some h
    have sa : ∀ i, i ∈ als ea ++ als eb → i ∈ F.A := by simpa [als] using sa
    have sm : ∀ i, i ∈ mods ea ++ mods eb → i ∈ F.M := by simpa [mods] using sm
    cases x <;> dsimp only at h <;> first | (cases h; done) | skip
    rename_i c
    refine ⟨F, ρ, c, fx, ρ1, en, fun i z => sa i (List.mem_append_left _ z), fun i z => sm i (List.mem_append_left _ z), h1, fun H1 en1 k1 => ?_⟩
    cases c with
    | false =>
      cases h
      simp only [Bool.false_eq_true, if_false]
      exact q _ en1 k1
    | true => exact ⟨F, ρ1, _, fl, ρ', en1, fun i z => sa i (List.mem_append_right _ z), fun i z => sm i (List.mem_append_right _ z), h, fun H2 en2 k2 => q _ en2 (k1.trans k2)⟩
theorem w_or (ha : PTv X Φ gl a ea) (hb : PWv X Φ gl (.BoolOp .Or (b :: rest) pos) eb) : PWv X Φ gl (.BoolOp .Or (a :: b :: rest) pos) (.bop .Or ea eb) :=
  (pw_or ha hb).imp fun σ H Q ⟨F, ρ, d, fl, ρ', en, sa, sm, h, q⟩ => by
    simp only [ev] at h
    obtain ⟨⟨x, fx, ρ1⟩, h1, h⟩ := bind_some h
    have sa : ∀ i, i ∈ als ea ++ als eb → i ∈ F.A := by simpa [als] using sa
    have sm : ∀ i, i ∈ mods ea ++ mods eb → i ∈ F.M := by simpa [mods] using sm
    cases x <;> dsimp only at h <;> first | (cases h; done) | skip
    rename_i c
    refine ⟨F, ρ, c, fx, ρ1, en, fun i z => sa i (List.mem_append_left _ z), fun i z => sm i (List.mem_append_left _ z), h1, fun H1 en1 k1 => ?_⟩
    cases c with
    | true =>
      cases h
      simp only [if_true]
      exact q _ en1 k1
    | false => exact ⟨F, ρ1, _, fl, ρ', en1, fun i z => sa i (List.mem_append_right _ z), fun i z => sm i (List.mem_append_right _ z), h, fun H2 en2 k2 => q _ en2 (k1.trans k2)⟩
theorem e_ite (hc : PTv X Φ gl c ec) (ha : PEv X Φ gl a ea) (hb : PEv X Φ gl b eb) : PEv X Φ gl (.IfExp c a b pos) (.ite ec ea eb) :=
  (pe_ifExp hc ha hb).imp fun σ H Q ⟨F, ρ, d, fl, ρ', en, sa, sm, h, q⟩ => by
    simp only [ev] at h
    obtain ⟨⟨x, fx, ρ1⟩, h1, h⟩ := bind_some h
    have sa : ∀ i, i ∈ als ec ++ (als ea ++ als eb) → i ∈ F.A := by simpa [als] using sa
    have sm : ∀ i, i ∈ mods ec ++ (mods ea ++ mods eb) → i ∈ F.M := by simpa [mods] using sm
    cases x <;> dsimp only at h <;> first | (cases h; done) | skip
    rename_i c
    refine ⟨F, ρ, c, fx, ρ1, en, fun i z => sa i (List.mem_append_left _ z), fun i z => sm i (List.mem_append_left _ z), h1, fun H1 en1 k1 => ?_⟩
    have fin2 : ∀ v H2, EnvOk X.K F ρ' σ H2 → Keep (Wr σ F.M) H1 H2 → Res X.K F ρ' σ H1 H2 v d fl → Q v H2 := fun v H2 en2 k2 r2 => q _ _ en2 (k1.trans k2) ⟨r2.rp, fun z => let ⟨a, h1, h2, h3⟩ := r2.fr z; ⟨a, h1, k1.gone a h2, h3⟩⟩
    cases c with
    | true => exact one en1 (fun i z => sa i (List.mem_append_right _ (List.mem_append_left _ z))) (fun i z => sm i (List.mem_append_right _ (List.mem_append_left _ z))) h fin2
    | false => exact one en1 (fun i z => sa i (List.mem_append_right _ (List.mem_append_right _ z))) (fun i z => sm i (List.mem_append_right _ (List.mem_append_right _ z))) h fin2
theorem e_ix (hu : X.A.units + 70 < cLine) (ha : PEv X Φ gl a ea) (hb : PEv X Φ gl b eb) (hs : PlainIx b) : PEv X Φ gl (.Subscript a b pos) (.ix ea eb) :=
  (pe_ix (ixP hu) ha hb hs).imp fun σ H Q ⟨F, ρ, d, fl, ρ', en, sa, sm, h, q⟩ => by
    simp only [ev] at h
    obtain ⟨⟨x, fx, ρ1⟩, h1, h⟩ := bind_some h
    obtain ⟨⟨y, fy, ρ2⟩, h2, h⟩ := bind_some h
    obtain ⟨z, h3, h⟩ := bind_some h
    cases h
    exact two en (by simpa [als] using sa) (by simpa [mods] using sm) h1 h2 fun v w H2 en2 k2 r1 r2 => ⟨F.P, x, y, _, _, r1, r2, congrArg (Option.map _) h3, fin en2 k2 q⟩
theorem chain_core {op op' : CmpOp} {F : Fr} {ρ ρ' : PEnv} {σ : L2.St} {H : Hp} {d : PyData} {fl : Fl} {Q : VK} (h : ev Φ gl (.chain op op' ea eb ec) ρ = some (d, fl, ρ')) (en : EnvOk X.K F ρ σ H) (sa : ∀ i, i ∈ als (.chain op op' ea eb ec) → i ∈ F.A) (sm : ∀ i, i ∈ mods (.chain op op' ea eb ec) → i ∈ F.M)
    (q : ∀ v H', EnvOk X.K F ρ' σ H' → Keep (Wr σ F.M) H H' → Res X.K F ρ' σ H H' v d fl → Q v H') : tChain (rC X.K (cmpV op)) (rC X.K (cmpV op')) (tE X.K Φ gl ea) (tE X.K Φ gl eb) (tE X.K Φ gl ec) σ H Q := by
  simp only [ev] at h
  obtain ⟨⟨x, fx, ρ1⟩, h1, h⟩ := bind_some h
  obtain ⟨⟨y, fy, ρ2⟩, h2, h⟩ := bind_some h
  obtain ⟨k, h3, h⟩ := bind_some h
  have sa : ∀ i, i ∈ als ea ++ (als eb ++ als ec) → i ∈ F.A := by simpa [als] using sa
  have sm : ∀ i, i ∈ mods ea ++ (mods eb ++ mods ec) → i ∈ F.M := by simpa [mods] using sm
  refine two en (fun i z => sa i (by rcases List.mem_append.mp z with z | z <;> simp [z])) (fun i z => sm i (by rcases List.mem_append.mp z with z | z <;> simp [z])) h1 h2 fun v w H2 en2 k2 r1 r2 => ?_
  refine ⟨F.P, x, y, .bool k, .sh, r1, r2, congrArg (Option.map _) h3, fin en2 .refl fun v' H3 en3 k3 r3 => ?_⟩
  cases r3.rp
  refine ⟨k, rfl, ?_⟩
  cases k with
  | false => cases h; exact fin_sh en3 (k2.trans k3) q (.bl _)
  | true =>
    obtain ⟨⟨z, fz, ρ3⟩, h4, h⟩ := bind_some h
    obtain ⟨b, h5, h⟩ := bind_some h
    cases h
    refine one en3 (fun i z => sa i (by simp [z])) (fun i z => sm i (by simp [z])) h4 fun v4 H4 en4 k4 r4 => ?_
    exact ⟨F.P, y, z, _, _, r2.ext ((k3.trans k4).ext fun a z => en3.wr z), r4.rp, congrArg (Option.map _) h5, fin en4 (k2.trans (k3.trans k4)) q⟩
theorem e_chain {op op' : CmpOp} (hu : X.A.units + 70 < cLine) (ha : PEv X Φ gl a ea) (hb : PEv X Φ gl b eb) (hc : PEv X Φ gl c ec) (hm : lastMarks [op, op'] [b, c] = false) : PEv X Φ gl (.Compare a [op, op'] [b, c] pos) (.chain op op' ea eb ec) :=
  (pe_chain (opCmp op hu) (opCmp op' hu) ha hb hc hm).imp fun σ H Q ⟨F, ρ, d, fl, ρ', en, sa, sm, h, q⟩ => chain_core h en sa sm q
theorem t_chain {op op' : CmpOp} (hu : X.A.units + 70 < cLine) (ha : PEv X Φ gl a ea) (hb : PEv X Φ gl b eb) (hc : PEv X Φ gl c ec) (hm : lastMarks [op, op'] [b, c] = false) : PTv X Φ gl (.Compare a [op, op'] [b, c] pos) (.chain op op' ea eb ec) :=
  (pt_chain (opCmp op hu) (opCmp op' hu) ha hb hc hm).imp fun σ H Q ⟨F, ρ, b, fl, ρ', en, sa, sm, h, q⟩ => chain_core (Q := fun x H' => ∃ k, x = .bl k ∧ Q k H') h en sa sm fun v H' en' k' r' => by
    cases r'.rp
    exact ⟨_, rfl, q _ en' k'⟩
end
end PP

/-! PP7: argument lists, displays, built-in calls, cuts, calls of defs, boxes. -/
namespace PP
open PySem PySem.Spec PyProof.Rows L2
theorem prL {α β : Type} {F : α → β → Prop} : ∀ {xs : List α} {ys : List β}, Paired F xs ys → ∀ {i : Nat} {x : α}, xs[i]? = some x → ∃ y, ys[i]? = some y ∧ F x y
  | _, _, .nil, _, _, e => by simp at e
  | _, _, .cons h _, 0, _, e => by simp at e; subst e; exact ⟨_, rfl, h⟩
  | _, _, .cons _ t, i + 1, _, e => by
    obtain ⟨y, h1, h2⟩ := prL t (i := i) (by simpa using e)
    exact ⟨y, by simpa using h1, h2⟩
theorem prR {α β : Type} {F : α → β → Prop} : ∀ {xs : List α} {ys : List β}, Paired F xs ys → ∀ {i : Nat} {y : β}, ys[i]? = some y → ∃ x, xs[i]? = some x ∧ F x y
  | _, _, .nil, _, _, e => by simp at e
  | _, _, .cons h _, 0, _, e => by simp at e; subst e; exact ⟨_, rfl, h⟩
  | _, _, .cons _ t, i + 1, _, e => by
    obtain ⟨y, h1, h2⟩ := prR t (i := i) (by simpa using e)
    exact ⟨y, by simpa using h1, h2⟩
section
variable {X : Cx} {Φ : Nat → List PyData → Option (PyData × List PyData)} {gl : List PyData} {a b c : Expr} {ea eb ec : E} {pos : Pos}
theorem isIo_ne {e : E} (h : isIo e = false) : ∀ i, e ≠ .io i := fun i z => by subst z; cases h
theorem a_nil : PAv X Φ gl [] .nil :=
  pa_nil.imp fun σ H Q ⟨F, ρ, ds, ρ', en, sa, sm, h, q⟩ => by
    simp only [evs, Option.some.injEq, Prod.mk.injEq] at h
    obtain ⟨rfl, rfl⟩ := h
    exact q _ _ en .refl .nil
theorem a_cons {ps : List Expr} {es : Es} (ha : PEv X Φ gl a ea) (hr : PAv X Φ gl ps es) (hio : isIo ea = false := by rfl) (hs : starEach (a :: ps) X.env = (false, eval a X.env) :: starEach ps X.env := by rfl) : PAv X Φ gl (a :: ps) (.cons ea es) :=
  (pa_cons ha hr hs).imp fun σ H Q ⟨F, ρ, ds, ρ', en, sa, sm, h, q⟩ => by
    simp only [evs] at h
    obtain ⟨⟨x, fx, ρ1⟩, h1, h⟩ := bind_some h
    obtain ⟨⟨xs, ρ2⟩, h2, h⟩ := bind_some h
    cases h
    have sa : ∀ i, i ∈ als ea ++ alss es → i ∈ F.A := by simpa [alss] using sa
    have sm : ∀ i, i ∈ mods ea ++ modss es → i ∈ F.M := by simpa [modss] using sm
    exact one en (fun i z => sa i (List.mem_append_left _ z)) (fun i z => sm i (List.mem_append_left _ z)) h1 fun v H1 en1 k1 r1 =>
      ⟨F, ρ1, xs, _, en1, fun i z => sa i (List.mem_append_right _ z), fun i z => sm i (List.mem_append_right _ z), h2, fun vs H2 en2 k2 r2 =>
        q _ _ en2 (k1.trans k2) (.cons (isIo_ne hio) (r1.rp.ext (k2.ext fun a z => en1.wr z)) r2)⟩
theorem a_io {ps : List Expr} {es : Es} {i : Nat} {x : Str} (hN : X.N[i]? = some x) (hv : Vis X.env.scope x) (hr : PAv X Φ gl ps es) (hd : (x == ("__debug__" : Str)) = false := by decide) (hcd : (x == ("__classdict__" : Str)) = false := by decide)
    (hs : starEach (.Name x pos :: ps) X.env = (false, eval (.Name x pos) X.env) :: starEach ps X.env := by rfl) : PAv X Φ gl (.Name x pos :: ps) (.cons (.io i) es) :=
  (pa_cons (pe_var hN hv hd hcd) hr hs).imp fun σ H Q ⟨F, ρ, ds, ρ', en, sa, sm, h, q⟩ => by
    simp only [evs] at h
    obtain ⟨⟨x, fx, ρ1⟩, h1, h⟩ := bind_some h
    obtain ⟨⟨xs, ρ2⟩, h2, h⟩ := bind_some h
    cases h
    simp only [ev] at h1
    obtain ⟨d', e, ed⟩ := Option.map_eq_some_iff.mp h1
    cases ed
    have sa : ∀ i, i ∈ alss es → i ∈ F.A := by simpa [alss, als] using sa
    have hi : i ∈ F.M := sm i (by simp [modss, mods])
    have sm : ∀ i, i ∈ modss es → i ∈ F.M := fun j z => sm j (by simp [modss, z])
    obtain ⟨a, e3, _⟩ := en.adr i (en.mo i hi).1
    exact ⟨_, e3, F, ρ, xs, _, en, sa, sm, h2, fun vs H2 en2 k2 r2 => q _ _ en2 k2 (.io hi e3 r2)⟩
theorem sizes {K : PySem.W.Frag} {F : Fr} {σ : L2.St} {H : Hp} : ∀ {es : Es} {vs : List V} {ds : List PyData}, ArgOk K F σ H es vs ds → vs.length = ds.length
  | _, _, _, .nil => rfl
  | _, _, _, .io _ _ r => by rw [List.length_cons, List.length_cons, sizes r]
  | _, _, _, .cons _ _ r => by rw [List.length_cons, List.length_cons, sizes r]
theorem e_tup {ps : List Expr} {es : Es} {x1} (h : PAv X Φ gl ps es) (hio : noIo es = true := by rfl) : PEv X Φ gl (.Tuple ps x1 pos) (.tup es) :=
  (pe_tup h).imp fun σ H Q ⟨F, ρ, d, fl, ρ', en, sa, sm, h, q⟩ => by
    simp only [ev] at h
    obtain ⟨⟨ds, ρ1⟩, h1, h⟩ := bind_some h
    dsimp only at h
    split at h
    · rename_i hz
      cases h
      exact ⟨F, ρ, ds, _, en, by simpa [als] using sa, by simpa [mods] using sm, h1, fun vs H' en' k' r' =>
        ⟨by rw [sizes r']; exact hz, (fin en' k' q).tup (r'.rp hio)⟩⟩
    · cases h
theorem e_lst {ps : List Expr} {es : Es} (h : PAv X Φ gl ps es) (hio : noIo es = true := by rfl) : PEv X Φ gl (.List ps pos) (.lst es) :=
  (pe_lst h).imp fun σ H Q ⟨F, ρ, d, fl, ρ', en, sa, sm, h, q⟩ => by
    simp only [ev] at h
    obtain ⟨⟨ds, ρ1⟩, h1, h⟩ := bind_some h
    dsimp only at h
    split at h
    · rename_i hz
      cases h
      exact ⟨F, ρ, ds, _, en, by simpa [als] using sa, by simpa [mods] using sm, h1, fun vs H' en' k' r' =>
        ⟨by rw [sizes r']; exact hz, (fin en' k' q).lst (r'.rp hio)⟩⟩
    · cases h
/-- built-in calls by value -/
theorem bi_core {f : BI} {es : Es} {g : List PyData → Option (PyData × Fl)} (hg : ∀ ds p, biV f ds = some p → g ds = some p) (hio : noIo es = true) {σ : L2.St} {H : Hp} {Q : VK} (w : tE X.K Φ gl (.bi f es) σ H Q) : tCB (rA X.K g) (tEs X.K Φ gl es) σ H Q := by
  obtain ⟨F, ρ, d, fl, ρ', en, sa, sm, h, q⟩ := w
  simp only [ev] at h
  obtain ⟨⟨ds, ρ1⟩, h1, h⟩ := bind_some h
  obtain ⟨⟨d', fl'⟩, h2, h⟩ := bind_some h
  cases h
  exact ⟨F, ρ, ds, _, en, by simpa [als] using sa, by simpa [mods] using sm, h1, fun vs H' en' k' r' => ⟨F.P, ds, _, _, r'.rp hio, hg _ _ h2, fin en' k' q⟩⟩
theorem e_callB {f : BI} {es : Es} {id : String} {x : Str} {p : Pos} {e : Expr} {ps : List Expr} (hc : CallR X (.builtin id) (rA X.K (biV f))) (hg : Gl X x) (hm : X.mg x = none) (hv : bootBuiltins x = some (.builtin id)) (ha : PAv X Φ gl (e :: ps) es) (hio : noIo es = true := by rfl) (hn : x ≠ "__name__" := by decide) (hdb : (x == ("__debug__" : Str)) = false := by decide)
    (he : starEach (e :: ps) X.env = (false, eval e X.env) :: starEach ps X.env := by rfl) (hpl : (backTo pos (starEach ps X.env)).any (·.1) = false := by rfl) : PEv X Φ gl (.Call (.Name x p) (e :: ps) [] pos) (.bi f es) :=
  (pe_callB hc hg hm hv ha hn hdb he hpl).imp fun σ H Q w => bi_core (fun _ _ z => z) hio w
theorem e_callT {f : BI} {es : Es} {T : String} {x : Str} {p : Pos} {e : Expr} {ps : List Expr} {g : List PyData → Option (PyData × Fl)} (hc : CallR X (.type T) (rA X.K g)) (hb : ∀ ds p, biV f ds = some p → g ds = some p) (hg : Gl X x) (hm : X.mg x = none) (hv : bootBuiltins x = some (.type T)) (ha : PAv X Φ gl (e :: ps) es) (hio : noIo es = true := by rfl) (hn : x ≠ "__name__" := by decide) (hdb : (x == ("__debug__" : Str)) = false := by decide)
    (he : starEach (e :: ps) X.env = (false, eval e X.env) :: starEach ps X.env := by rfl) (hpl : (backTo pos (starEach ps X.env)).any (·.1) = false := by rfl) : PEv X Φ gl (.Call (.Name x p) (e :: ps) [] pos) (.bi f es) :=
  (pe_callTy hc hg hm hv ha hn hdb he hpl).imp fun σ H Q w => bi_core hb hio w
/-! cuts -/
theorem o_no : POv X Φ gl none .no :=
  po_none.imp fun σ H Q ⟨F, ρ, d, ρ', en, sa, sm, h, k, hk, q⟩ => by
    simp only [evo, Option.some.injEq, Prod.mk.injEq] at h
    obtain ⟨rfl, rfl⟩ := h
    cases hk
    exact q _ en .refl
theorem o_so (ha : PEv X Φ gl a ea) : POv X Φ gl (some a) (.so ea) :=
  (po_some ha).imp fun σ H Q ⟨F, ρ, d, ρ', en, sa, sm, h, k, hk, q⟩ => by
    simp only [evo] at h
    obtain ⟨⟨x, fx, ρ1⟩, h1, h⟩ := bind_some h
    cases h
    refine one en (by simpa [alsO] using sa) (by simpa [modsO] using sm) h1 fun v H1 en1 k1 r1 => ?_
    cases x <;> simp only [optI, Option.some.injEq] at hk <;> first | (cases hk; done) | skip
    cases r1.rp
    subst hk
    exact ⟨_, rfl, q _ en1 k1⟩
theorem e_sl {lo hi : Option Expr} {ol oh : O} {p2 : Pos} (ha : PEv X Φ gl a ea) (hl : POv X Φ gl lo ol) (hh : POv X Φ gl hi oh) : PEv X Φ gl (.Subscript a (.Slice lo hi none p2) pos) (.sl ea ol oh) :=
  (pe_slice slP ha hl hh).imp fun σ H Q ⟨F, ρ, d, fl, ρ', en, sa, sm, h, q⟩ => by
    simp only [ev] at h
    obtain ⟨⟨x, fx, ρ1⟩, h1, h⟩ := bind_some h
    obtain ⟨⟨l, ρ2⟩, h2, h⟩ := bind_some h
    obtain ⟨⟨u, ρ3⟩, h3, h⟩ := bind_some h
    obtain ⟨l', h4, h⟩ := bind_some h
    obtain ⟨u', h5, h⟩ := bind_some h
    obtain ⟨⟨d', f'⟩, h6, h⟩ := bind_some h
    cases h
    have sa : ∀ i, i ∈ als ea ++ (alsO ol ++ alsO oh) → i ∈ F.A := by simpa [als] using sa
    have sm : ∀ i, i ∈ mods ea ++ (modsO ol ++ modsO oh) → i ∈ F.M := by simpa [mods] using sm
    refine one en (fun i z => sa i (by simp [z])) (fun i z => sm i (by simp [z])) h1 fun v H1 en1 k1 r1 => ?_
    refine ⟨F, ρ1, l, ρ2, en1, fun i z => sa i (by simp [z]), fun i z => sm i (by simp [z]), h2, l', h4, fun H2 en2 k2 => ?_⟩
    refine ⟨F, ρ2, u, _, en2, fun i z => sa i (by simp [z]), fun i z => sm i (by simp [z]), h3, u', h5, fun H3 en3 k3 => ?_⟩
    exact ⟨F.P, x, _, _, r1.rp.ext ((k2.trans k3).ext fun a z => en1.wr z), h6, fin en3 (k1.trans (k2.trans k3)) q⟩

/-! boxes -/
theorem frzAll_get {ρ : PEnv} {i : Nat} : (frzAll ρ)[i]? = (ρ[i]?).map frzS := by unfold frzAll; rw [List.getElem?_map]
theorem e_box (ha : PEv X Φ gl a ea) (hm : mods ea = [] := by rfl) : PEv X Φ gl a (.box ea) :=
  PE.imp ha fun σ H Q ⟨F, ρ, d, fl, ρ', en, sa, sm, h, q⟩ => by
    simp only [ev] at h
    obtain ⟨⟨x, fx, ρ1⟩, h1, h⟩ := bind_some h
    refine ⟨⟨fun _ => False, fun _ => False, [], als ea, []⟩, frzAll ρ, x, fx, ρ1, ⟨fun i z => by simp at z, fun i j a z => by simp at z, fun a z => z.elim, fun i z => by simp at z, fun i z => by simp at z, fun i d' e => ?_, fun i d' e => ?_, fun a z => z.elim, fun _ i d' _ e => ?_, ?_⟩, fun i z => z, by rw [hm]; exact fun i z => z, h1, fun v H' en' k' r' => ?_⟩
    · rw [frzAll_get] at e
      obtain ⟨y, e1, e2⟩ := Option.map_eq_some_iff.mp e
      cases y <;> simp [frzS] at e2
    · rw [frzAll_get] at e
      obtain ⟨y, e1, e2⟩ := Option.map_eq_some_iff.mp e
      cases y with
      | no => simp [frzS] at e2
      | fz d2 =>
        simp only [frzS, Sl.fz.injEq] at e2
        subst e2
        obtain ⟨v, e3, r⟩ := en.fz i _ e1
        exact ⟨v, e3, r.ext (.less fun _ z => z.elim)⟩
      | ow d2 =>
        simp only [frzS, Sl.fz.injEq] at e2
        subst e2
        obtain ⟨_, a, e3, o⟩ := en.ow i _ e1
        exact ⟨_, e3, (o.ext (P' := fun _ => False) (.less fun _ z => z.elim) fun _ z => z).rp fun z => z⟩
    · rw [frzAll_get] at e
      obtain ⟨y, e1, e2⟩ := Option.map_eq_some_iff.mp e
      cases y <;> simp [frzS] at e2
    · show (ρ.map frzS).length = _
      rw [List.length_map]; exact en.len
    · have k : ∀ a o, H a = some o → H' a = some o := k'.all fun a ⟨i, hi, _⟩ => by simp at hi
      have ht : ∀ a xs, H' a = some (.tup xs) → H' a = some (.tup xs) := fun _ _ z => z
      cases fx with
      | sh =>
        dsimp only at h
        split at h
        · rename_i hi
          cases h
          exact q _ _ (en.grow k) (.of k) ⟨r'.rp.imm ht hi, fun z => nomatch z⟩
        · cases h
      | fr =>
        dsimp only at h
        split at h
        · rename_i hi
          cases h
          obtain ⟨a, e1, e2, o, _⟩ := r'.fr rfl
          have o' : Own X.K H' (fun b => F.P b ∨ b = a) a _ := o.imm ht (fun _ z => z) hi
          refine q _ _ (en.grow k) (.of k) ⟨?_, fun _ => ⟨a, e1, e2, o', en.hideG e2 k (let ⟨u, hu, _⟩ := o'.there; ⟨u, hu⟩)⟩⟩
          subst e1
          refine (o'.ext (Ext.less fun b z => .inl z) fun _ z => z).rp fun z => ?_
          obtain ⟨u, z⟩ := en.there a z
          rw [e2] at z; cases z
        · cases h

/-! calls of defs -/
/-- the arguments: the changed ones hidden -/
inductive ArgL (K : PySem.W.Frag) (H : Hp) (P : Addr → Prop) : List Bool → List V → List PyData → Prop
  | nil : ArgL K H P [] [] []
  | io {a : Addr} {d : PyData} {bs : List Bool} {vs : List V} {ds : List PyData} : P a → Own K H P a d → ArgL K H P bs vs ds → ArgL K H P (true :: bs) (.ref a :: vs) (d :: ds)
  | sh {v : V} {d : PyData} {bs : List Bool} {vs : List V} {ds : List PyData} : Rp K H P v d → ArgL K H P bs vs ds → ArgL K H P (false :: bs) (v :: vs) (d :: ds)
/-- the addresses of the changed ones -/
def ioA : List Bool → List V → List Addr
  | true :: bs, .ref a :: vs => a :: ioA bs vs
  | _ :: bs, _ :: vs => ioA bs vs
  | _, _ => []
inductive OwnL (K : PySem.W.Frag) (H : Hp) (P : Addr → Prop) : List Addr → List PyData → Prop
  | nil : OwnL K H P [] []
  | cons {a : Addr} {d : PyData} {as : List Addr} {ds : List PyData} : Own K H P a d → OwnL K H P as ds → OwnL K H P (a :: as) (d :: ds)
/-- a def's promise: it computes g -/
def spP (K : PySem.W.Frag) (g : List PyData → Option (PyData × List PyData)) (bs : List Bool) : Sp := fun vs H Q _ => ∃ P ds d outs, (∀ a, P a → ∃ u, H a = some u) ∧ ArgL K H P bs vs ds ∧ (ioA bs vs).Nodup ∧ g ds = some (d, outs) ∧
  ∀ v H', Keep (fun a => a ∈ ioA bs vs) H H' → Rp K H' P v d → OwnL K H' P (ioA bs vs) outs → Q v H'
def maskE : Es → List Bool
  | .nil => []
  | .cons e es => isIo e :: maskE es
theorem getO_iff {ρ : PEnv} {i : Nat} {d : PyData} (h : getO ρ i = some d) : ρ[i]? = some (.ow d) := by
  unfold getO at h
  cases e : ρ[i]? with
  | none => rw [e] at h; cases h
  | some s => rw [e] at h; cases s <;> first | (cases h; done) | (cases h; rfl)
theorem argL_of {K : PySem.W.Frag} {F : Fr} {σ : L2.St} {H : Hp} {ρ : PEnv} (en : EnvOk K F ρ σ H) : ∀ {es : Es} {vs : List V} {ds ds' : List PyData}, ArgOk K F σ H es vs ds → fillIo ρ es ds = some ds' → ArgL K H F.P (maskE es) vs ds'
  | _, _, _, _, .nil, e => by
    simp only [fillIo, Option.some.injEq] at e
    subst e; exact .nil
  | _, _, _, _, .io (i := i) hi e3 r, e => by
    simp only [fillIo] at e
    obtain ⟨d, e1, e⟩ := bind_some e
    obtain ⟨ds2, e2, e⟩ := bind_some e
    cases e
    obtain ⟨ho, a, e4, o⟩ := en.ow i d (getO_iff e1)
    rw [e3] at e4
    cases e4
    exact .io (en.wr ⟨i, hi, e3⟩) o (argL_of en r e2)
  | _, _, _, ds', .cons (e := ea) (es := es) (d := d) (ds := ds) ne hr r, e => by
    have : fillIo ρ (.cons ea es) (d :: ds) = (do return d :: (← fillIo ρ es ds)) := by
      cases ea <;> first | rfl | exact absurd rfl (ne _)
    rw [this] at e
    obtain ⟨ds2, e2, e⟩ := bind_some e
    cases e
    have : isIo ea = false := by cases ea <;> first | rfl | exact absurd rfl (ne _)
    show ArgL K H F.P (isIo ea :: maskE es) _ _
    rw [this]
    exact .sh hr (argL_of en r e2)
theorem ioSlots_cons {ea : E} {es : Es} (ne : ∀ i, ea ≠ .io i) : ioSlots (.cons ea es) = ioSlots es := by cases ea <;> first | rfl | exact absurd rfl (ne _)
/-- slots and addresses of the changed ones side by side -/
theorem io_pair {K : PySem.W.Frag} {F : Fr} {σ : L2.St} {H : Hp} : ∀ {es : Es} {vs : List V} {ds : List PyData}, ArgOk K F σ H es vs ds → Paired (fun i a => i ∈ F.M ∧ σ[i]? = some (some (V.ref a))) (ioSlots es) (ioA (maskE es) vs)
  | _, _, _, .nil => .nil
  | _, _, _, .io h e r => .cons ⟨h, e⟩ (io_pair r)
  | _, _, _, .cons (e := ea) (es := es) (v := v) (vs := vs) ne hr r => by
    have h : isIo ea = false := by cases ea <;> first | rfl | exact absurd rfl (ne _)
    rw [ioSlots_cons ne]
    show Paired _ _ (ioA (isIo ea :: maskE es) (v :: vs))
    rw [h]
    have : ioA (false :: maskE es) (v :: vs) = ioA (maskE es) vs := by cases v <;> rfl
    rw [this]
    exact io_pair r
theorem putIo_out : ∀ {is : List Nat} {ds : List PyData} {ρ ρ' : PEnv} {j : Nat}, putIo is ds ρ = some ρ' → j ∉ is → ρ'[j]? = ρ[j]?
  | [], [], _, _, _, e, _ => by cases e; rfl
  | i :: is, d :: ds, ρ, ρ', j, e, hj => by
    rw [putIo_out (show putIo is ds (ρ.set i (.ow d)) = some ρ' from e) fun z => hj (List.mem_cons_of_mem _ z), List.getElem?_set_ne fun z => hj (by rw [z]; exact List.mem_cons_self ..)]
  | [], _ :: _, _, _, _, e, _ => by cases e
  | _ :: _, [], _, _, _, e, _ => by cases e
theorem putIo_len : ∀ {is : List Nat} {ds : List PyData} {ρ ρ' : PEnv}, putIo is ds ρ = some ρ' → ρ'.length = ρ.length
  | [], [], _, _, e => by cases e; rfl
  | i :: is, d :: ds, ρ, ρ', e => by
    rw [putIo_len (show putIo is ds (ρ.set i (.ow d)) = some ρ' from e), List.length_set]
  | [], _ :: _, _, _, e => by cases e
  | _ :: _, [], _, _, e => by cases e
theorem putIo_in {K : PySem.W.Frag} {H : Hp} {P : Addr → Prop} {R : Nat → Addr → Prop} : ∀ {is : List Nat} {as : List Addr} {ds : List PyData} {ρ ρ' : PEnv} {j : Nat}, putIo is ds ρ = some ρ' → is.Nodup → Paired R is as → OwnL K H P as ds → j ∈ is → j < ρ.length → ∃ a d, R j a ∧ ρ'[j]? = some (.ow d) ∧ Own K H P a d
  | i :: is, _ :: _, d :: _, ρ, ρ', j, e, nd, .cons r rs, .cons o os, hj, hl => by
    have e' : putIo is _ (ρ.set i (.ow d)) = some ρ' := e
    rw [List.nodup_cons] at nd
    by_cases z : j = i
    · subst z
      refine ⟨_, d, r, ?_, o⟩
      rw [putIo_out e' nd.1, List.getElem?_set_self hl]
    · exact putIo_in e' nd.2 rs os ((List.mem_cons.mp hj).resolve_left z) (by rw [List.length_set]; exact hl)
/-- a def that may be called by its name, every parameter given -/
structure Cal (P : Program) (w : World) (K : PySem.W.Frag) (mg : Str → Option Value) (base : Heap) (k : Nat) (x : Str) (sp : Sp) : Prop where
  ex : ∃ (f : Addr) (fd : FuncData) (ps : List Str), FnOk P w K mg base L2.CX0 k f fd ps sp ∧ mg x = some (.ref f) ∧ PySem.W.keepIn K (.ref f) = true ∧ Binds K fd ps []
theorem pe_cal {k : Nat} {x : Str} {sp : Sp} {t : TA} {p : Pos} {e : Expr} {es : List Expr} (c : Cal X.prog X.w X.K X.mg X.base k x sp) (hr : Room k X.A) (hg : Gl X x) (ha : PA X (e :: es) t)
    (hdb : (x == ("__debug__" : Str)) = false := by decide) (he : starEach (e :: es) X.env = (false, eval e X.env) :: starEach es X.env := by rfl) (hpl : (backTo pos (starEach es X.env)).any (·.1) = false := by rfl) :
    PE X (.Call (.Name x p) (e :: es) [] pos) (tCall sp [] L2.E0 t) := by
  obtain ⟨f, fd, ps, F, hm, kp, b⟩ := c.ex
  exact pe_call F hr hg hm kp b .nil L2.pass0 ha hdb he hpl
theorem e_call {f k : Nat} {es : Es} {x : Str} {p : Pos} {e : Expr} {ps : List Expr} {bs : List Bool} (c : Cal X.prog X.w X.K X.mg X.base k x (spP X.K (Φ f) bs)) (hr : Room k X.A) (hg : Gl X x) (ha : PAv X Φ gl (e :: ps) es) (hb : maskE es = bs := by rfl) (hnd : (ioSlots es).Nodup := by decide)
    (hdb : (x == ("__debug__" : Str)) = false := by decide) (he : starEach (e :: ps) X.env = (false, eval e X.env) :: starEach ps X.env := by rfl) (hpl : (backTo pos (starEach ps X.env)).any (·.1) = false := by rfl) : PEv X Φ gl (.Call (.Name x p) (e :: ps) [] pos) (.call f es) :=
  (pe_cal c hr hg ha hdb he hpl).imp fun σ H Q ⟨F, ρ, d, fl, ρ', en, sa, sm, h, q⟩ => by
    subst hb
    simp only [ev] at h
    obtain ⟨⟨ds, ρ1⟩, h1, h⟩ := bind_some h
    obtain ⟨ds', h2, h⟩ := bind_some h
    obtain ⟨⟨d', outs⟩, h3, h⟩ := bind_some h
    obtain ⟨ρ2, h4, h⟩ := bind_some h
    cases h
    refine ⟨F, ρ, ds, ρ1, en, by simpa [als] using sa, by simpa [mods] using sm, h1, fun vs H1 en1 k1 r1 => ?_⟩
    have ip := io_pair r1
    have nd : (ioA (maskE es) vs).Nodup := by
      clear h h4 h3 h2
      generalize ioSlots es = is at ip hnd
      generalize ioA (maskE es) vs = as at ip
      induction ip with
      | nil => exact List.nodup_nil
      | cons h t ih =>
        rw [List.nodup_cons] at hnd ⊢
        refine ⟨fun z => ?_, ih hnd.2⟩
        obtain ⟨n, hn⟩ := List.mem_iff_getElem?.mp z
        obtain ⟨j, g1, g2⟩ := prR t hn
        have := en1.inj _ _ _ (en1.mo _ h.1).1 (en1.mo _ g2.1).1 h.2 g2.2
        subst this
        exact hnd.1 (List.mem_of_getElem? g1)
    show spP X.K (Φ f) (maskE es) (vs ++ []) H1 Q _
    rw [List.append_nil]
    refine ⟨F.P, ds', _, outs, en1.there, argL_of en1 r1 h2, nd, h3, fun v H2 k2 r2 o2 => ?_⟩
    have inW : ∀ a, a ∈ ioA (maskE es) vs → Wr σ F.M a := fun a ha => by
      obtain ⟨n, hn⟩ := List.mem_iff_getElem?.mp ha
      obtain ⟨j, g1, g2⟩ := prR ip hn
      exact ⟨j, g2⟩
    have k2' : Keep (Wr σ F.M) H1 H2 := k2.weak inW
    refine q v H2 ?_ (k1.trans k2') ⟨r2, fun z => nomatch z⟩
    have x := k2'.ext fun a z => en1.wr z
    have inO : ∀ i, i ∈ ioSlots es → i ∈ F.M := fun i hi => by
      obtain ⟨n, hn⟩ := List.mem_iff_getElem?.mp hi
      obtain ⟨j, g1, g2⟩ := prL ip hn
      exact g2.1
    refine ⟨en1.adr, en1.inj, en1.zp, en1.mo, fun i hi => ?_, fun i d2 e => ?_, fun i d2 e => ?_, fun a z => ?_, fun hl i d2 hi e => en1.nd hl i d2 hi (by rw [← putIo_out h4 fun z => (en1.mo i (inO i z)).2 hi]; exact e), by rw [putIo_len h4]; exact en1.len⟩
    · by_cases hm : i ∈ ioSlots es
      · obtain ⟨d3, e3⟩ := en1.shape i hi
        obtain ⟨a, d4, g1, g2, g3⟩ := putIo_in h4 hnd ip o2 hm (List.getElem?_eq_some_iff.mp e3).1
        exact ⟨d4, g2⟩
      · rw [putIo_out h4 hm]
        exact en1.shape i hi
    · by_cases hm : i ∈ ioSlots es
      · have hi := (en1.mo i (inO i hm)).1
        obtain ⟨d3, e3⟩ := en1.shape i hi
        obtain ⟨a, d4, g1, g2, g3⟩ := putIo_in h4 hnd ip o2 hm (List.getElem?_eq_some_iff.mp e3).1
        rw [g2] at e
        cases e
        exact ⟨hi, a, g1.2, g3⟩
      · rw [putIo_out h4 hm] at e
        obtain ⟨hi, a, e2, o⟩ := en1.ow i d2 e
        refine ⟨hi, a, e2, o.ext x fun u hu => k2.keep a u hu fun z => ?_⟩
        obtain ⟨n, hn⟩ := List.mem_iff_getElem?.mp z
        obtain ⟨j, g1, g2⟩ := prR ip hn
        have := en1.inj i j a hi (en1.mo j g2.1).1 e2 g2.2
        subst this
        exact hm (List.mem_of_getElem? g1)
    · by_cases hm : i ∈ ioSlots es
      · have hi := (en1.mo i (inO i hm)).1
        obtain ⟨d3, e3⟩ := en1.shape i hi
        obtain ⟨a, d4, g1, g2, g3⟩ := putIo_in h4 hnd ip o2 hm (List.getElem?_eq_some_iff.mp e3).1
        rw [g2] at e
        cases e
      · rw [putIo_out h4 hm] at e
        obtain ⟨v2, e2, r⟩ := en1.fz i d2 e
        exact ⟨v2, e2, r.ext x⟩
    · obtain ⟨u, hu⟩ := en1.there a z
      cases e : H2 a with
      | none => rw [k2.gone a e] at hu; cases hu
      | some u2 => exact ⟨u2, rfl⟩
end
end PP

/-! PP8: targets, walks, comprehensions. -/
namespace PP
open PySem PySem.Spec PyProof.Rows L2 RZ

/-! ### targets -/
mutual
def gv : G → List Nat
  | .nm i => [i]
  | .tp gs => gvs gs
def gvs : List G → List Nat
  | [] => []
  | g :: gs => gv g ++ gvs gs
end
def Fr.less (F : Fr) (is : List Nat) : Fr := { F with O := F.O.filter fun i => !is.contains i }
theorem Fr.less_less (F : Fr) (a b : List Nat) : (F.less a).less b = F.less (a ++ b) := by
  unfold Fr.less
  congr 1
  show List.filter _ (List.filter _ F.O) = _
  rw [List.filter_filter]
  congr 1
  funext i
  simp [Bool.and_comm]
theorem Fr.less_nil (F : Fr) : F.less [] = F := by
  unfold Fr.less
  have : F.O.filter (fun i => !([] : List Nat).contains i) = F.O := List.filter_eq_self.mpr fun i _ => by simp
  rw [this]
theorem Fr.less_off (F : Fr) {is : List Nat} (h : ∀ i, i ∈ is → i ∉ F.O) : F.less is = F := by
  unfold Fr.less
  have : F.O.filter (fun i => !is.contains i) = F.O := List.filter_eq_self.mpr fun i hi => by
    simp only [Bool.not_eq_true', List.contains_eq_mem, decide_eq_false_iff_not]
    exact fun z => h i z hi
  rw [this]
theorem mem_less {F : Fr} {is : List Nat} {i : Nat} : i ∈ (F.less is).O ↔ i ∈ F.O ∧ i ∉ is := by
  unfold Fr.less
  simp
section
variable {K : PySem.W.Frag} {F : Fr} {ρ ρ' : PEnv} {σ : L2.St} {H H' : Hp}
/-- a slot is stored to -/
theorem EnvOk.setFz (en : EnvOk K F ρ σ H) {i : Nat} {v : V} {d : PyData} (hm : i ∉ F.M) (hl : i < ρ.length) (r : Rp K H F.P v d) : EnvOk K (F.less [i]) (ρ.set i (.fz d)) (σ.set i (some v)) H := by
  have hs : i < σ.length := by rw [← en.len]; exact hl
  have off : ∀ j, j ∉ [i] → (σ.set i (some v))[j]? = σ[j]? := fun j hj => List.getElem?_set_ne fun z => hj (by simp [z])
  have offr : ∀ j, j ∉ [i] → (ρ.set i (.fz d))[j]? = ρ[j]? := fun j hj => List.getElem?_set_ne fun z => hj (by simp [z])
  refine ⟨fun j hj => ?_, fun j k a hj hk e1 e2 => ?_, en.zp, fun j hj => ?_, fun j hj => ?_, fun j d2 e => ?_, fun j d2 e => ?_, en.there, fun hk j d2 hj e => ?_, by rw [List.length_set, List.length_set]; exact en.len⟩
  · obtain ⟨h1, h2⟩ := mem_less.mp hj
    rw [off j h2]
    exact en.adr j h1
  · obtain ⟨h1, h2⟩ := mem_less.mp hj
    obtain ⟨h3, h4⟩ := mem_less.mp hk
    rw [off j h2] at e1
    rw [off k h4] at e2
    exact en.inj j k a h1 h3 e1 e2
  · obtain ⟨h1, h2⟩ := en.mo j hj
    exact ⟨mem_less.mpr ⟨h1, fun z => hm (by simp at z; rw [← z]; exact hj)⟩, h2⟩
  · obtain ⟨h1, h2⟩ := mem_less.mp hj
    rw [offr j h2]
    exact en.shape j h1
  · by_cases z : j ∈ [i]
    · have : j = i := by simpa using z
      subst this
      rw [List.getElem?_set_self hl] at e
      cases e
    · rw [offr j z] at e
      rw [off j z]
      obtain ⟨h1, h2⟩ := en.ow j d2 e
      exact ⟨mem_less.mpr ⟨h1, z⟩, h2⟩
  · by_cases z : j ∈ [i]
    · have : j = i := by simpa using z
      subst this
      rw [List.getElem?_set_self hl] at e
      cases e
      exact ⟨v, List.getElem?_set_self hs, r⟩
    · rw [offr j z] at e
      rw [off j z]
      exact en.fz j d2 e
  · by_cases z : j ∈ [i]
    · have : j = i := by simpa using z
      subst this
      rw [List.getElem?_set_self hl] at e
      cases e
    · rw [offr j z] at e
      exact en.nd hk j d2 hj e
variable (K)
def tG (g : G) : TG := fun v σ H Q => ∃ F ρ d ρ', EnvOk K F ρ σ H ∧ (∀ i, i ∈ gv g → i ∉ F.M) ∧ Rp K H F.P v d ∧ asgG g d ρ = some ρ' ∧
  ∀ σ', EnvOk K (F.less (gv g)) ρ' σ' H → (∀ j, j ∉ gv g → σ'[j]? = σ[j]?) → Q σ' H
def tGs (gs : List G) : TGs := fun vs σ H Q => ∃ F ρ ds ρ', EnvOk K F ρ σ H ∧ (∀ i, i ∈ gvs gs → i ∉ F.M) ∧ RpAll K H F.P vs ds ∧ asgGs gs ds ρ = some ρ' ∧
  ∀ σ', EnvOk K (F.less (gvs gs)) ρ' σ' H → (∀ j, j ∉ gvs gs → σ'[j]? = σ[j]?) → Q σ' H
end
def PGv (X : Cx) (p : Expr) (g : G) : Prop := PG X p (tG X.K g)
def PGsv (X : Cx) (p : List Expr) (gs : List G) : Prop := PGs X p (tGs X.K gs)
theorem _root_.L2.PG.imp {X : Cx} {p : Expr} {t t' : TG} (h : PG X p t) (i : ∀ v σ H Q, t' v σ H Q → t v σ H Q) : PG X p t' := ⟨fun pins s σ H v u Q I r w => h.run pins s σ H v u Q I r (i v σ H Q w)⟩
theorem _root_.L2.PGs.imp {X : Cx} {p : List Expr} {t t' : TGs} (h : PGs X p t) (i : ∀ v σ H Q, t' v σ H Q → t v σ H Q) : PGs X p t' := ⟨fun pins s σ H v u Q I r w => h.run pins s σ H v u Q I r (i v σ H Q w)⟩
section
variable {X : Cx} {pos : Pos}
theorem g_nm {i : Nat} {x : Str} (hN : X.N.Nodup) (hi : X.N[i]? = some x) (hx : Loc X.env.scope x) (hf : X.fn x = true ∨ X.env.scope.names.lookup x = some .local := by first | exact .inl rfl | exact .inr rfl | assumption) : PGv X (.Name x pos) (.nm i) :=
  (pg_name hN hi hx hf).imp fun v σ H Q ⟨F, ρ, d, ρ', en, hm, r, h, q⟩ => by
    simp only [asgG] at h
    split at h
    · rename_i hl
      cases h
      exact q _ (en.setFz (hm i (by simp [gv])) hl r) fun j hj => List.getElem?_set_ne fun z => hj (by simp [gv, z])
    · cases h
theorem gs_nil : PGsv X [] [] :=
  pgs_nil.imp fun vs σ H Q ⟨F, ρ, ds, ρ', en, hm, r, h, q⟩ => by
    cases ds with
    | cons _ _ => simp [asgGs] at h
    | nil =>
      simp only [asgGs, Option.some.injEq] at h
      subst h
      cases r
      exact ⟨rfl, q σ (by rw [show gvs [] = [] from rfl, Fr.less_nil]; exact en) fun _ _ => rfl⟩
theorem gs_cons {e : Expr} {es : List Expr} {g : G} {gs : List G} (h1 : PGv X e g) (h2 : PGsv X es gs) (hs : (assignEach (e :: es) X.env).map (·.2) = assign e X.env :: (assignEach es X.env).map (·.2) := by rfl) : PGsv X (e :: es) (g :: gs) :=
  (pgs_cons h1 h2 hs).imp fun vs σ H Q ⟨F, ρ, ds, ρ', en, hm, r, h, q⟩ => by
    cases r with
    | nil => simp [asgGs] at h
    | cons r rs =>
      simp only [asgGs] at h
      obtain ⟨ρ1, h1, h2⟩ := bind_some h
      have hm : ∀ i, i ∈ gv g ++ gvs gs → i ∉ F.M := hm
      refine ⟨_, _, rfl, F, ρ, _, ρ1, en, fun i z => hm i (List.mem_append_left _ z), r, h1, fun σ1 en1 k1 => ?_⟩
      refine ⟨_, ρ1, _, ρ', en1, fun i z => hm i (List.mem_append_right _ z), rs, h2, fun σ2 en2 k2 => q σ2 ?_ fun j hj => ?_⟩
      · rw [Fr.less_less] at en2
        exact en2
      · have hj : j ∉ gv g ++ gvs gs := hj
        rw [k2 j fun z => hj (List.mem_append_right _ z), k1 j fun z => hj (List.mem_append_left _ z)]
theorem asgGs_len : ∀ {gs : List G} {ds : List PyData} {ρ ρ' : PEnv}, asgGs gs ds ρ = some ρ' → ds.length = gs.length
  | [], [], _, _, _ => rfl
  | g :: gs, d :: ds, _, _, e => by
    simp only [asgGs] at e
    obtain ⟨ρ1, _, h2⟩ := bind_some e
    rw [List.length_cons, List.length_cons, asgGs_len h2]
  | [], _ :: _, _, _, e => by simp [asgGs] at e
  | _ :: _, [], _, _, e => by simp [asgGs] at e
theorem g_tp {es : List Expr} {k : Nat} {gs : List G} (hc : X.calm = true) (h : PGsv X es gs) (hn : (assignEach es X.env).length = gs.length := by rfl) (hst : (assignEach es X.env).findIdx? (·.1) = none := by rfl) : PGv X (.Tuple es k pos) (.tp gs) :=
  (pg_tup hc h hn hst).imp fun v σ H Q ⟨F, ρ, d, ρ', en, hm, r, h, q⟩ => by
    cases r with
    | tup hh ra => exact ⟨_, _, rfl, .inl (.inl hh), by rw [ra.length]; exact asgGs_len (show asgGs gs _ ρ = some ρ' from by simpa [asgG] using h), F, ρ, _, ρ', en, hm, ra, by simpa [asgG] using h, q⟩
    | _ => simp [asgG] at h
end

/-! ### walks -/
/-- J walks values that stand for ds -/
def ItOk (K : PySem.W.Frag) (P : Addr → Prop) (J : It) (H1 : Hp) (ds : List PyData) : Prop := ∀ (i : Nat) (P' : Addr → Prop) (H : Hp), Ext P P' H1 H →
  (ds.length ≤ i → J.stop i H) ∧ ∀ d, ds[i]? = some d → J.go i H ∧ ∀ x H', J.yld i H x H' → (∀ a o, H a = some o → H' a = some o) ∧ Rp K H' P' x d
section
variable {K : PySem.W.Frag} {P : Addr → Prop} {H : Hp} {a b : Addr} {xs ys : List V} {ds es : List PyData}
theorem it_list (n : ¬ P a) (h : H a = some (.lst xs)) (r : RpAll K H P xs ds) : ItOk K P (Itl K a) H ds := fun i P' H2 x => by
  have e : H2 a = some (.lst xs) := x.keep _ _ h n
  refine ⟨fun hl => ⟨xs, .inl (.inl e), by rw [r.length]; exact hl⟩, fun d hd => ?_⟩
  obtain ⟨v, hv, rv⟩ := (r.ext x).get hd
  refine ⟨⟨xs, v, .inl (.inl e), hv⟩, fun y H' ⟨e1, e2⟩ => ?_⟩
  subst e1
  have := e2 xs (.inl (.inl e))
  rw [hv] at this
  cases this
  exact ⟨fun _ _ z => z, rv⟩
theorem it_tup (h : ∀ H2 : Hp, (∀ b zs, H b = some (.tup zs) → H2 b = some (.tup zs)) → SqT K H2 a xs) (r : RpAll K H P xs ds) : ItOk K P (Itt K a) H ds := fun i P' H2 x => by
  have e := h H2 x.tups
  refine ⟨fun hl => ⟨xs, e, by rw [r.length]; exact hl⟩, fun d hd => ?_⟩
  obtain ⟨v, hv, rv⟩ := (r.ext x).get hd
  refine ⟨⟨xs, v, e, hv⟩, fun y H' ⟨e1, e2⟩ => ?_⟩
  subst e1
  have := e2 xs e
  rw [hv] at this
  cases this
  exact ⟨fun _ _ z => z, rv⟩
theorem it_str {s : Str} : ItOk K P (Its s) H (s.cps.toList.map fun c => .str ⟨#[c]⟩) := fun i P' H2 x => by
  refine ⟨fun hl => by rw [List.length_map, Array.length_toList] at hl; exact hl, fun d hd => ?_⟩
  rw [List.getElem?_map] at hd
  obtain ⟨c, e1, e2⟩ := Option.map_eq_some_iff.mp hd
  rw [Array.getElem?_toList] at e1
  refine ⟨(Array.getElem?_eq_some_iff.mp e1).1, fun y H' ⟨z1, c', z2, z3⟩ => ?_⟩
  subst z1 z3 e2
  rw [e1] at z2
  cases z2
  exact ⟨fun _ _ z => z, .str _⟩
theorem it_rng {lo : Int} {n : Nat} : ItOk K P (Itr lo n) H ((List.range n).map fun k => .int (lo + (k : Nat))) := fun i P' H2 x => by
  refine ⟨fun hl => by rw [List.length_map, List.length_range] at hl; exact hl, fun d hd => ?_⟩
  rw [List.getElem?_map] at hd
  obtain ⟨c, e1, e2⟩ := Option.map_eq_some_iff.mp hd
  obtain ⟨hlt, e1⟩ := List.getElem?_eq_some_iff.mp e1
  rw [List.length_range] at hlt
  rw [List.getElem_range] at e1
  subst e1
  refine ⟨hlt, fun y H' ⟨z1, z2⟩ => ?_⟩
  subst z1 z2 e2
  exact ⟨fun _ _ z => z, .int _⟩
theorem it_rngC {lo c : Int} {n : Nat} : ItOk K P (Itc lo c n) H ((List.range n).map fun k => .int (lo + (k : Nat) * c)) := fun i P' H2 x => by
  refine ⟨fun hl => by rw [List.length_map, List.length_range] at hl; exact hl, fun d hd => ?_⟩
  rw [List.getElem?_map] at hd
  obtain ⟨k, e1, e2⟩ := Option.map_eq_some_iff.mp hd
  obtain ⟨hlt, e1⟩ := List.getElem?_eq_some_iff.mp e1
  rw [List.length_range] at hlt
  rw [List.getElem_range] at e1
  subst e1
  refine ⟨hlt, fun y H' ⟨z1, z2⟩ => ?_⟩
  subst z1 z2 e2
  exact ⟨fun _ _ z => z, .int _⟩
theorem zip_get {α β : Type} {xs : List α} {ys : List β} {i : Nat} {p : α × β} (h : (xs.zip ys)[i]? = some p) : xs[i]? = some p.1 ∧ ys[i]? = some p.2 := by
  rw [List.getElem?_zip_eq_some] at h
  exact h
theorem it_zip (na : ¬ P a) (ha : H a = some (.lst xs)) (ra : RpAll K H P xs ds) (nb : ¬ P b) (hb : H b = some (.lst ys)) (rb : RpAll K H P ys es) : ItOk K P (Itz K a b) H ((ds.zip es).map fun p => .tuple [p.1, p.2]) := fun i P' H2 x => by
  have ea : H2 a = some (.lst xs) := x.keep _ _ ha na
  have eb : H2 b = some (.lst ys) := x.keep _ _ hb nb
  refine ⟨fun hl => ⟨xs, ys, .inl (.inl ea), .inl (.inl eb), ?_⟩, fun d hd => ?_⟩
  · rw [List.length_map, List.length_zip, ← ra.length, ← rb.length] at hl
    omega
  · rw [List.getElem?_map] at hd
    obtain ⟨p, e1, e2⟩ := Option.map_eq_some_iff.mp hd
    obtain ⟨z1, z2⟩ := zip_get e1
    obtain ⟨v, hv, rv⟩ := (ra.ext x).get z1
    obtain ⟨w, hw, rw'⟩ := (rb.ext x).get z2
    refine ⟨⟨xs, ys, v, w, .inl (.inl ea), .inl (.inl eb), hv, hw⟩, fun y H' ⟨T, v', w', q1, q2, q3, q4, q5⟩ => ?_⟩
    subst q1 q3 e2
    have e4 := q4 xs (.inl (.inl ea))
    have e5 := q5 ys (.inl (.inl eb))
    rw [hv] at e4; cases e4
    rw [hw] at e5; cases e5
    have g : ∀ b u, H2 b = some u → upd H2 T (.tup [v, w]) b = some u := fun b u z => by rw [upd_ne (ne_of_none z q2)]; exact z
    exact ⟨g, .tup upd_same (.cons (rv.ext (.same g)) (.cons (rw'.ext (.same g)) .nil))⟩
theorem it_zipT (ha : H a = some (.tup xs)) (ra : RpAll K H P xs ds) (hb : H b = some (.tup ys)) (rb : RpAll K H P ys es) : ItOk K P (ItzT K a b) H ((ds.zip es).map fun p => .tuple [p.1, p.2]) := fun i P' H2 x => by
  have ea : H2 a = some (.tup xs) := x.tups _ _ ha
  have eb : H2 b = some (.tup ys) := x.tups _ _ hb
  refine ⟨fun hl => ⟨xs, ys, .inl (.inl ea), .inl (.inl eb), ?_⟩, fun d hd => ?_⟩
  · rw [List.length_map, List.length_zip, ← ra.length, ← rb.length] at hl
    omega
  · rw [List.getElem?_map] at hd
    obtain ⟨p, e1, e2⟩ := Option.map_eq_some_iff.mp hd
    obtain ⟨z1, z2⟩ := zip_get e1
    obtain ⟨v, hv, rv⟩ := (ra.ext x).get z1
    obtain ⟨w, hw, rw'⟩ := (rb.ext x).get z2
    refine ⟨⟨xs, ys, v, w, .inl (.inl ea), .inl (.inl eb), hv, hw⟩, fun y H' ⟨T, v', w', q1, q2, q3, q4, q5⟩ => ?_⟩
    subst q1 q3 e2
    have e4 := q4 xs (.inl (.inl ea))
    have e5 := q5 ys (.inl (.inl eb))
    rw [hv] at e4; cases e4
    rw [hw] at e5; cases e5
    have g : ∀ b u, H2 b = some u → upd H2 T (.tup [v, w]) b = some u := fun b u z => by rw [upd_ne (ne_of_none z q2)]; exact z
    exact ⟨g, .tup upd_same (.cons (rv.ext (.same g)) (.cons (rw'.ext (.same g)) .nil))⟩
theorem it_enum (na : ¬ P a) (ha : H a = some (.lst xs)) (ra : RpAll K H P xs ds) : ItOk K P (Ite K a) H ((List.range ds.length).zipWith (fun k d => .tuple [.int (k : Nat), d]) ds) := fun i P' H2 x => by
  have ea : H2 a = some (.lst xs) := x.keep _ _ ha na
  refine ⟨fun hl => ⟨xs, .inl (.inl ea), ?_⟩, fun d hd => ?_⟩
  · rw [List.length_zipWith, List.length_range, Nat.min_self, ← ra.length] at hl
    exact hl
  · rw [List.getElem?_zipWith] at hd
    cases e1 : (List.range ds.length)[i]? with
    | none => rw [e1] at hd; cases hd
    | some k =>
      cases e2 : ds[i]? with
      | none => rw [e1, e2] at hd; cases hd
      | some d2 =>
        rw [e1, e2] at hd
        cases hd
        obtain ⟨hlt, e1⟩ := List.getElem?_eq_some_iff.mp e1
        rw [List.getElem_range] at e1
        subst e1
        obtain ⟨v, hv, rv⟩ := (ra.ext x).get e2
        refine ⟨⟨xs, v, .inl (.inl ea), hv⟩, fun y H' ⟨T, v', q1, q2, q3, q4⟩ => ?_⟩
        subst q1 q3
        have e4 := q4 xs (.inl (.inl ea))
        rw [hv] at e4; cases e4
        have g : ∀ b u, H2 b = some u → upd H2 T (.tup [.int (i : Nat), v]) b = some u := fun b u z => by rw [upd_ne (ne_of_none z q2)]; exact z
        exact ⟨g, .tup upd_same (.cons (.int _) (.cons (rv.ext (.same g)) .nil))⟩
theorem it_keys {o : Obj} {kvs : List (L2.Key × V)} {ps : List (PyData × PyData)} (n : ¬ P a) (h : H a = some (.frz o (.dK kvs))) (r : RpK K H P kvs ps) : ItOk K P (Itk a o kvs) H (ps.map (·.1)) := fun i P' H2 x => by
  have e : H2 a = some (.frz o (.dK kvs)) := x.keep _ _ h n
  have rk := keys_rp (r.ext x)
  refine ⟨fun hl => ⟨e, by rw [r.length]; rw [List.length_map] at hl; exact hl⟩, fun d hd => ?_⟩
  obtain ⟨v, hv, rv⟩ := rk.get hd
  rw [List.getElem?_map] at hv
  obtain ⟨⟨k, w⟩, e1, e2⟩ := Option.map_eq_some_iff.mp hv
  refine ⟨⟨e, (List.getElem?_eq_some_iff.mp e1).1⟩, fun y H' ⟨z1, k', w', z2, z3⟩ => ?_⟩
  subst z1 z3 e2
  rw [e1] at z2
  cases z2
  exact ⟨fun _ _ z => z, rv⟩
theorem rpT_get : ∀ {kvs : List (List L2.Key × V)} {ps : List (PyData × PyData)} {i : Nat} {p : PyData × PyData}, RpT K H P kvs ps → ps[i]? = some p → ∃ k v, kvs[i]? = some (k, v) ∧ p.1 = .tuple (k.map keyPD) ∧ Rp K H P v p.2
  | _, _, _, _, .nil, e => by simp at e
  | _, _, 0, _, .cons r rs, e => by simp at e; subst e; exact ⟨_, _, rfl, rfl, r⟩
  | _, _, i + 1, _, .cons r rs, e => by
    obtain ⟨k, v, h1, h2⟩ := rpT_get (i := i) rs (by simpa using e)
    exact ⟨k, v, by simpa using h1, h2⟩
theorem it_keysT {o : Obj} {kvs : List (List L2.Key × V)} {ps : List (PyData × PyData)} (n : ¬ P a) (h : H a = some (.frz o (.dT kvs))) (r : RpT K H P kvs ps) : ItOk K P (Itkt a o kvs) H (ps.map (·.1)) := fun i P' H2 x => by
  have e : H2 a = some (.frz o (.dT kvs)) := x.keep _ _ h n
  refine ⟨fun hl => ⟨e, by rw [r.length]; rw [List.length_map] at hl; exact hl⟩, fun d hd => ?_⟩
  rw [List.getElem?_map] at hd
  obtain ⟨p, e1, e2⟩ := Option.map_eq_some_iff.mp hd
  obtain ⟨k, v, g1, g2, g3⟩ := rpT_get (r.ext x) e1
  refine ⟨⟨e, (List.getElem?_eq_some_iff.mp g1).1⟩, fun y H' ⟨z1, k', w', q, z2, z3, z4⟩ => ?_⟩
  subst z1 z3 e2
  rw [g1] at z2
  cases z2
  rw [g2]
  exact ⟨fun _ _ z => z, .tup z4 (ofDT.tupK k)⟩
end

/-- a range asks nothing of the heap -/
def itP (it : I) (P : Addr → Prop) : Addr → Prop := match it with | .rng _ => fun _ => True | _ => P
theorem itP_ok {K : PySem.W.Frag} {it : I} {P : Addr → Prop} {J : It} {H : Hp} {ds : List PyData} (h : ItOk K (itP it P) J H ds) : ItOk K P J H ds := by
  cases it with
  | rng es => exact fun i P' H2 x => h i P' H2 ⟨fun a o _ n => absurd trivial n, x.tups, fun a _ => .inl trivial⟩
  | _ => exact h
section
variable (K : PySem.W.Frag) (Φ : Nat → List PyData → Option (PyData × List PyData)) (gl : List PyData)
def tI (it : I) : TI := fun σ H R => ∃ F ρ ds ρ', EnvOk K F ρ σ H ∧ (∀ i, i ∈ alsI it → i ∈ F.A) ∧ (∀ i, i ∈ modsI it → i ∈ F.M) ∧ evi Φ gl it ρ = some (ds, ρ') ∧
  ∀ J H', EnvOk K F ρ' σ H' → Keep (Wr σ F.M) H H' → ItOk K (itP it F.P) J H' ds → R J H'
end
def PIv (X : Cx) (Φ : Nat → List PyData → Option (PyData × List PyData)) (gl : List PyData) (tg p : Expr) (it : I) : Prop := PI X tg p (tI X.K Φ gl it)
theorem _root_.L2.PI.imp {X : Cx} {tg p : Expr} {t t' : TI} (h : PI X tg p t) (i : ∀ σ H Q, t' σ H Q → t σ H Q) : PI X tg p t' := ⟨fun pins s σ H Q I w => h.run pins s σ H Q I (i σ H Q w)⟩
theorem _root_.L2.PI.or {X : Cx} {tg p : Expr} {t t' : TI} (h : PI X tg p t) (h' : PI X tg p t') : PI X tg p (fun σ H R => t σ H R ∨ t' σ H R) := ⟨fun pins s σ H Q I w => w.elim (h.run pins s σ H Q I) (h'.run pins s σ H Q I)⟩
section
variable {X : Cx} {Φ : Nat → List PyData → Option (PyData × List PyData)} {gl : List PyData} {tg a b c : Expr} {ea eb ec : E} {pos p : Pos}
theorem i_seq (ha : PEv X Φ gl a ea) : PIv X Φ gl tg a (.seq ea) :=
  (((pi_list ha).or (pi_tup ha)).or (pi_str ha)).imp fun σ H R ⟨F, ρ, ds, ρ', en, sa, sm, h, q⟩ => by
    simp only [evi] at h
    obtain ⟨⟨x, fx, ρ1⟩, h1, h⟩ := bind_some h
    obtain ⟨ds', h2, h⟩ := bind_some h
    cases h
    cases x with
    | str s =>
      cases h2
      refine .inr (one en sa sm h1 fun v H1 en1 k1 r1 => ?_)
      cases r1.rp
      exact ⟨s, rfl, q _ _ en1 k1 it_str⟩
    | tuple xs =>
      cases h2
      refine .inl (.inr (one en sa sm h1 fun v H1 en1 k1 r1 => ?_))
      cases r1.rp with
      | tup hh ra => exact ⟨_, rfl, ⟨_, .inl (.inl hh)⟩, q _ _ en1 k1 (it_tup (fun H2 k => .inl (.inl (k _ _ hh))) ra)⟩
    | list xs =>
      cases h2
      refine .inl (.inl (one en sa sm h1 fun v H1 en1 k1 r1 => ?_))
      cases r1.rp with
      | lst n hh ra => exact ⟨_, rfl, ⟨_, .inl (.inl hh)⟩, q _ _ en1 k1 (it_list n hh ra)⟩
    | _ => simp [itemsD] at h2
theorem rp_ints {K : PySem.W.Frag} {H : Hp} {P : Addr → Prop} {v : V} {i : Int} (r : Rp K H P v (.int i)) : v = .int i := by cases r; rfl
theorem i_rng1 (hg : Gl X "range") (hm : X.mg "range" = none) (ha : PEv X Φ gl a ea) (hio : isIo ea = false := by rfl) (hs : starEach [a] X.env = [(false, eval a X.env)] := by rfl) : PIv X Φ gl tg (.Call (.Name "range" p) [a] [] pos) (.rng (.cons ea .nil)) :=
  (pi_range1 hg hm (a_cons ha a_nil hio (by rw [hs]; rfl)) hs).imp fun σ H R ⟨F, ρ, ds, ρ', en, sa, sm, h, q⟩ => by
    simp only [evi] at h
    obtain ⟨⟨xs, ρ1⟩, h1, h⟩ := bind_some h
    obtain ⟨ds', h2, h⟩ := bind_some h
    cases h
    have h1' := h1
    simp only [evs] at h1'
    obtain ⟨⟨x, fx, ρ2⟩, g1, g⟩ := bind_some h1'
    cases g
    refine ⟨F, ρ, [x], _, en, sa, sm, h1, fun vs H1 en1 k1 r1 => ?_⟩
    have hr := r1.rp (by simp [noIo, hio])
    cases x <;> simp only [rngD] at h2 <;> first | (cases h2; done) | skip
    split at h2
    · rename_i hb
      cases h2
      cases hr with
      | cons r rs =>
        cases rs
        rw [rp_ints r]
        unfold rngOk at hb
        simp only [Bool.and_eq_true, decide_eq_true_eq] at hb
        exact ⟨_, rfl, hb.1.2, hb.2, q _ _ en1 k1 it_rng⟩
    · cases h2
theorem i_rng2 (hg : Gl X "range") (hm : X.mg "range" = none) (ha : PEv X Φ gl a ea) (hb : PEv X Φ gl b eb) (hio : isIo ea = false := by rfl) (hio2 : isIo eb = false := by rfl)
    (hs : starEach [a, b] X.env = [(false, eval a X.env), (false, eval b X.env)] := by rfl) (hs2 : starEach [b] X.env = [(false, eval b X.env)] := by rfl) : PIv X Φ gl tg (.Call (.Name "range" p) [a, b] [] pos) (.rng (.cons ea (.cons eb .nil))) :=
  (pi_range2 hg hm (a_cons ha (a_cons hb a_nil hio2 (by rw [hs2]; rfl)) hio (by rw [hs, hs2])) hs hs2).imp fun σ H R ⟨F, ρ, ds, ρ', en, sa, sm, h, q⟩ => by
    simp only [evi] at h
    obtain ⟨⟨xs, ρ1⟩, h1, h⟩ := bind_some h
    obtain ⟨ds', h2, h⟩ := bind_some h
    cases h
    have h1' := h1
    simp only [evs] at h1'
    obtain ⟨⟨x, fx, ρ2⟩, g1, g⟩ := bind_some h1'
    obtain ⟨⟨ys, ρ3⟩, g2, g⟩ := bind_some g
    cases g
    obtain ⟨⟨y, fy, ρ4⟩, g3, g2⟩ := bind_some g2
    cases g2
    refine ⟨F, ρ, [x, y], _, en, sa, sm, h1, fun vs H1 en1 k1 r1 => ?_⟩
    have hr := r1.rp (by simp [noIo, hio, hio2])
    cases x <;> cases y <;> simp only [rngD] at h2 <;> first | (cases h2; done) | skip
    split at h2
    · rename_i hb
      cases h2
      cases hr with
      | cons r rs =>
        cases rs with
        | cons r2 rs =>
          cases rs
          rw [rp_ints r, rp_ints r2]
          unfold rngOk at hb
          simp only [Bool.and_eq_true, decide_eq_true_eq] at hb
          exact ⟨_, _, rfl, ⟨hb.1.1.1, hb.1.1.2, hb.1.2, hb.2⟩, q _ _ en1 k1 it_rng⟩
    · cases h2
theorem i_rng3 (hg : Gl X "range") (hm : X.mg "range" = none) (ha : PEv X Φ gl a ea) (hb : PEv X Φ gl b eb) (hc : PEv X Φ gl c ec) (hio : isIo ea = false := by rfl) (hio2 : isIo eb = false := by rfl) (hio3 : isIo ec = false := by rfl)
    (hs : starEach [a, b, c] X.env = (false, eval a X.env) :: starEach [b, c] X.env := by rfl) (hs2 : starEach [b, c] X.env = (false, eval b X.env) :: starEach [c] X.env := by rfl) (hs3 : starEach [c] X.env = (false, eval c X.env) :: starEach [] X.env := by rfl) (hpl : (backTo pos (starEach [b, c] X.env)).any (·.1) = false := by rfl) : PIv X Φ gl tg (.Call (.Name "range" p) [a, b, c] [] pos) (.rng (.cons ea (.cons eb (.cons ec .nil)))) :=
  (pi_range3 hg hm (a_cons ha (a_cons hb (a_cons hc a_nil hio3 hs3) hio2 hs2) hio hs) hs hpl).imp fun σ H R ⟨F, ρ, ds, ρ', en, sa, sm, h, q⟩ => by
    simp only [evi] at h
    obtain ⟨⟨xs, ρ1⟩, h1, h⟩ := bind_some h
    obtain ⟨ds', h2, h⟩ := bind_some h
    cases h
    have h1' := h1
    simp only [evs] at h1'
    obtain ⟨⟨x, fx, ρ2⟩, g1, g⟩ := bind_some h1'
    obtain ⟨⟨ys, ρ3⟩, g2, g⟩ := bind_some g
    cases g
    obtain ⟨⟨y, fy, ρ4⟩, g3, g2⟩ := bind_some g2
    obtain ⟨⟨zs, ρ5⟩, g4, g2⟩ := bind_some g2
    cases g2
    obtain ⟨⟨z, fz, ρ6⟩, g5, g4⟩ := bind_some g4
    cases g4
    refine ⟨F, ρ, [x, y, z], _, en, sa, sm, h1, fun vs H1 en1 k1 r1 => ?_⟩
    have hr := r1.rp (by simp [noIo, hio, hio2, hio3])
    cases x <;> cases y <;> cases z <;> simp only [rngD] at h2 <;> first | (cases h2; done) | skip
    split at h2
    · rename_i hb
      cases h2
      cases hr with
      | cons r rs =>
        cases rs with
        | cons r2 rs =>
          cases rs with
          | cons r3 rs =>
            cases rs
            rw [rp_ints r, rp_ints r2, rp_ints r3]
            unfold rngOk at hb
            simp only [Bool.and_eq_true, decide_eq_true_eq] at hb
            obtain ⟨⟨⟨⟨b1, b2⟩, b3⟩, b4⟩, b5⟩ := hb
            subst b5
            exact ⟨_, _, _, _, rfl, RgC.neg b1 b2 b3 b4, q _ _ en1 k1 it_rngC⟩
    · cases h2
theorem i_zip {elts : List Expr} {kk : Nat} {tpos : Pos} (hg : Gl X "zip") (hm : X.mg "zip" = none) (ha : PEv X Φ gl a ea) (hb : PEv X Φ gl b eb) (hio : isIo ea = false := by rfl) (hio2 : isIo eb = false := by rfl)
    (hs : starEach [a, b] X.env = (false, eval a X.env) :: starEach [b] X.env := by rfl) (hs2 : starEach [b] X.env = (false, eval b X.env) :: starEach [] X.env := by rfl) (hpl : (backTo pos (starEach [b] X.env)).any (·.1) = false := by rfl) : PIv X Φ gl (.Tuple elts kk tpos) (.Call (.Name "zip" p) [a, b] [] pos) (.zip ea eb) :=
  (pi_zipA hg hm (a_cons ha (a_cons hb a_nil hio2 hs2) hio hs) hs hpl).imp fun σ H R ⟨F, ρ, ds, ρ', en, sa, sm, h, q⟩ => by
    simp only [evi] at h
    obtain ⟨⟨x, fx, ρ1⟩, h1, h⟩ := bind_some h
    obtain ⟨⟨y, fy, ρ2⟩, h2, h⟩ := bind_some h
    have ev2 : evs Φ gl (.cons ea (.cons eb .nil)) ρ = some ([x, y], ρ2) := by
      simp only [evs, h1, h2, Option.bind_eq_bind, Option.bind_some, Option.pure_def]
    refine ⟨F, ρ, [x, y], ρ2, en, by simpa [alss, alsI] using sa, by simpa [modss, modsI] using sm, ev2, fun vs H1 en1 k1 r1 => ?_⟩
    have hr := r1.rp (by simp [noIo, hio, hio2])
    cases hr with
    | cons r rs =>
      cases rs with
      | cons r2 rs =>
        cases rs
        cases r with
        | lst n1 g1 ra =>
          cases r2 with
          | lst n2 g2 rb =>
            cases h
            exact ⟨_, _, _, _, rfl, .inl ⟨.inl (.inl g1), .inl (.inl g2), q _ _ en1 k1 (it_zip n1 g1 ra n2 g2 rb)⟩⟩
          | _ => cases h
        | tup g1 ra =>
          cases r2 with
          | tup g2 rb =>
            cases h
            exact ⟨_, _, _, _, rfl, .inr ⟨.inl (.inl g1), .inl (.inl g2), q _ _ en1 k1 (it_zipT g1 ra g2 rb)⟩⟩
          | _ => cases h
        | _ => cases h
theorem i_enum {elts : List Expr} {kk : Nat} {tpos : Pos} (hg : Gl X "enumerate") (hm : X.mg "enumerate" = none) (ha : PEv X Φ gl a ea) (hio : isIo ea = false := by rfl) (hs : starEach [a] X.env = [(false, eval a X.env)] := by rfl) : PIv X Φ gl (.Tuple elts kk tpos) (.Call (.Name "enumerate" p) [a] [] pos) (.enum ea) :=
  (pi_enum hg hm (a_cons ha a_nil hio (by rw [hs]; rfl)) hs).imp fun σ H R ⟨F, ρ, ds, ρ', en, sa, sm, h, q⟩ => by
    simp only [evi] at h
    obtain ⟨⟨x, fx, ρ1⟩, h1, h⟩ := bind_some h
    have ev2 : evs Φ gl (.cons ea .nil) ρ = some ([x], ρ1) := by
      simp only [evs, h1, Option.bind_eq_bind, Option.bind_some, Option.pure_def]
    refine ⟨F, ρ, [x], ρ1, en, by simpa [alss, alsI] using sa, by simpa [modss, modsI] using sm, ev2, fun vs H1 en1 k1 r1 => ?_⟩
    have hr := r1.rp (by simp [noIo, hio])
    cases hr with
    | cons r rs =>
      cases rs
      cases r with
      | lst n1 g1 ra =>
        cases h
        exact ⟨_, _, rfl, .inl (.inl g1), q _ _ en1 k1 (it_enum n1 g1 ra)⟩
      | _ => cases h
end
end PP

/-! PP9: comprehensions. -/
namespace PP
open PySem PySem.Spec PyProof.Rows L2 RZ

theorem wipeP_out {ρ : PEnv} {i : Nat} : ∀ {vs : List Nat}, i ∉ vs → (wipeP ρ vs)[i]? = ρ[i]?
  | [], _ => rfl
  | v :: vs, h => by
    unfold wipeP
    rw [List.getElem?_set_ne fun z => h (by rw [z]; exact List.mem_cons_self ..)]
    exact wipeP_out fun z => h (List.mem_cons_of_mem _ z)
theorem wipeP_len (ρ : PEnv) : ∀ vs : List Nat, (wipeP ρ vs).length = ρ.length
  | [] => rfl
  | v :: vs => by unfold wipeP; rw [List.length_set, wipeP_len ρ vs]
theorem wipeP_some {ρ : PEnv} {i : Nat} {s : Sl} : ∀ {vs : List Nat}, (wipeP ρ vs)[i]? = some s → s ≠ .no → ρ[i]? = some s ∧ i ∉ vs
  | [], h, _ => ⟨h, by simp⟩
  | v :: vs, h, n => by
    unfold wipeP at h
    by_cases hi : v = i
    · subst hi
      by_cases hv : v < (wipeP ρ vs).length
      · rw [List.getElem?_set_self hv] at h
        cases h
        exact absurd rfl n
      · rw [List.getElem?_eq_none (by rw [List.length_set]; omega)] at h
        cases h
    · rw [List.getElem?_set_ne hi] at h
      obtain ⟨h1, h2⟩ := wipeP_some h n
      exact ⟨h1, fun z => (List.mem_cons.mp z).elim (fun z => hi z.symm) h2⟩
theorem wipe_off {σ : L2.St} {i : Nat} : ∀ {vs : List Nat}, i ∉ vs → (wipe σ vs)[i]? = σ[i]?
  | [], _ => rfl
  | v :: vs, h => by
    unfold wipe
    rw [List.getElem?_set_ne fun z => h (by rw [z]; exact List.mem_cons_self ..)]
    exact wipe_off fun z => h (List.mem_cons_of_mem _ z)
theorem wipe_on {σ : L2.St} {i : Nat} : ∀ {vs : List Nat}, i ∈ vs → i < σ.length → (wipe σ vs)[i]? = some none
  | v :: vs, h, hl => by
    unfold wipe
    by_cases hi : v = i
    · subst hi
      rw [List.getElem?_set_self (by rw [wipe_length]; exact hl)]
    · rw [List.getElem?_set_ne hi]
      exact wipe_on ((List.mem_cons.mp h).resolve_left fun z => hi z.symm) hl
theorem wipe_eq {σ τ : L2.St} {vs : List Nat} (hl : σ.length = τ.length) (h : ∀ i, i ∉ vs → σ[i]? = τ[i]?) : wipe σ vs = wipe τ vs := by
  apply List.ext_getElem?
  intro i
  by_cases hi : i ∈ vs
  · by_cases hb : i < σ.length
    · rw [wipe_on hi hb, wipe_on hi (by omega)]
    · rw [List.getElem?_eq_none (by rw [wipe_length]; omega), List.getElem?_eq_none (by rw [wipe_length]; omega)]
  · rw [wipe_off hi, wipe_off hi, h i hi]
theorem wipe_wipe {σ : L2.St} {vs ws : List Nat} (h : ∀ i, i ∈ ws → i ∈ vs) : wipe (wipe σ ws) vs = wipe σ vs := wipe_eq (wipe_length ..) fun i hi => wipe_off fun z => hi (h i z)
theorem backP_len (ρ ρ' : PEnv) : ∀ vs : List Nat, (backP ρ ρ' vs).length = ρ'.length
  | [] => rfl
  | v :: vs => by
    unfold backP
    split
    · rw [List.length_set, backP_len ρ ρ' vs]
    · exact backP_len ρ ρ' vs
theorem backP_out {ρ ρ' : PEnv} {i : Nat} : ∀ {vs : List Nat}, i ∉ vs → (backP ρ ρ' vs)[i]? = ρ'[i]?
  | [], _ => rfl
  | v :: vs, h => by
    unfold backP
    split
    · rw [List.getElem?_set_ne fun z => h (by rw [z]; exact List.mem_cons_self ..)]
      exact backP_out fun z => h (List.mem_cons_of_mem _ z)
    · exact backP_out fun z => h (List.mem_cons_of_mem _ z)
theorem backP_in {ρ ρ' : PEnv} {i : Nat} (hl : ρ.length = ρ'.length) : ∀ {vs : List Nat}, i ∈ vs → (backP ρ ρ' vs)[i]? = ρ[i]?
  | v :: vs, h => by
    unfold backP
    by_cases hi : v = i
    · subst hi
      split
      · rename_i x e
        have : v < ρ.length := (List.getElem?_eq_some_iff.mp e).1
        rw [List.getElem?_set_self (by rw [backP_len]; omega), e]
      · rename_i e
        have := List.getElem?_eq_none_iff.mp e
        rw [e, List.getElem?_eq_none (by rw [backP_len]; omega)]
    · have h' := (List.mem_cons.mp h).resolve_left fun z => hi z.symm
      split
      · rw [List.getElem?_set_ne hi]
        exact backP_in hl h'
      · exact backP_in hl h'
theorem noOwn_ok {ρ : PEnv} {vs : List Nat} (h : noOwn ρ vs = true) {i : Nat} {d : PyData} (hi : i ∈ vs) : ρ[i]? ≠ some (.ow d) := fun e => by
  have := List.all_eq_true.mp h i hi
  rw [e] at this
  cases this
section
variable {K : PySem.W.Frag} {F : Fr} {ρ ρ' : PEnv} {σ : L2.St} {H H' : Hp}
/-- hidden things change -/
theorem EnvOk.move (en : EnvOk K F ρ σ H) (x : Ext F.P F.P H H') (ho : ∀ i a o, i ∈ F.O → σ[i]? = some (some (V.ref a)) → H a = some o → H' a = some o) (ht : ∀ a, F.P a → ∃ u, H' a = some u) : EnvOk K F ρ σ H' where
  adr := en.adr
  inj := en.inj
  zp := en.zp
  mo := en.mo
  shape := en.shape
  ow := fun i d e => let ⟨h, a, e2, o⟩ := en.ow i d e; ⟨h, a, e2, o.ext x fun u z => ho i a u h e2 z⟩
  fz := fun i d e => let ⟨v, e2, r⟩ := en.fz i d e; ⟨v, e2, r.ext x⟩
  there := ht
  nd := en.nd
  len := en.len
/-- slots forgotten, none of them one's own -/
theorem EnvOk.wipe (en : EnvOk K F ρ σ H) {vs : List Nat} (h : ∀ i, i ∈ vs → i ∉ F.O) : EnvOk K F (wipeP ρ vs) (L2.wipe σ vs) H := by
  have off : ∀ i, i ∈ F.O → (L2.wipe σ vs)[i]? = σ[i]? := fun i hi => wipe_off fun z => h i z hi
  refine ⟨fun i hi => by rw [off i hi]; exact en.adr i hi, fun i j a hi hj e1 e2 => en.inj i j a hi hj (by rw [← off i hi]; exact e1) (by rw [← off j hj]; exact e2), en.zp, en.mo, fun i hi => ?_, fun i d e => ?_, fun i d e => ?_, en.there, fun hk i d hi e => ?_, by rw [wipeP_len, wipe_length]; exact en.len⟩
  · rw [wipeP_out fun z => h i z hi]
    exact en.shape i hi
  · obtain ⟨e1, e2⟩ := wipeP_some e (by simp)
    rw [wipe_off e2]
    exact en.ow i d e1
  · obtain ⟨e1, e2⟩ := wipeP_some e (by simp)
    rw [wipe_off e2]
    exact en.fz i d e1
  · exact en.nd hk i d hi (wipeP_some e (by simp)).1
theorem EnvOk.unwipe {vs : List Nat} (en : EnvOk K F ρ (L2.wipe σ vs) H) : EnvOk K F ρ σ H := by
  have same : ∀ i a, i ∈ F.O → σ[i]? = some (some (V.ref a)) → (L2.wipe σ vs)[i]? = some (some (V.ref a)) := fun i a hi e => by
    obtain ⟨b, e2, _⟩ := en.adr i hi
    have := (wipe_some e2).1
    rw [e] at this; cases this
    exact e2
  refine ⟨fun i hi => let ⟨a, e, r⟩ := en.adr i hi; ⟨a, (wipe_some e).1, r⟩, fun i j a hi hj e1 e2 => en.inj i j a hi hj (same i a hi e1) (same j a hj e2), en.zp, en.mo, en.shape, fun i d e => let ⟨h, a, e2, o⟩ := en.ow i d e; ⟨h, a, (wipe_some e2).1, o⟩, fun i d e => let ⟨v, e2, r⟩ := en.fz i d e; ⟨v, (wipe_some e2).1, r⟩, en.there, en.nd, by rw [en.len, wipe_length]⟩
end
mutual
theorem asg_len : ∀ {g : G} {d : PyData} {ρ ρ' : PEnv}, asgG g d ρ = some ρ' → ρ'.length = ρ.length
  | .nm i, d, ρ, ρ', e => by
    simp only [asgG] at e
    split at e
    · cases e; rw [List.length_set]
    · cases e
  | .tp gs, d, ρ, ρ', e => by
    cases d with
    | tuple ds =>
      simp only [asgG] at e
      exact asgs_len e
    | _ => simp [asgG] at e
theorem asgs_len : ∀ {gs : List G} {ds : List PyData} {ρ ρ' : PEnv}, asgGs gs ds ρ = some ρ' → ρ'.length = ρ.length
  | [], [], ρ, ρ', e => by simp only [asgGs, Option.some.injEq] at e; rw [e]
  | g :: gs, d :: ds, ρ, ρ', e => by
    simp only [asgGs] at e
    obtain ⟨ρ1, h1, h2⟩ := bind_some e
    rw [asgs_len h2, asg_len h1]
  | [], _ :: _, _, _, e => by simp [asgGs] at e
  | _ :: _, [], _, _, e => by simp [asgGs] at e
end
/-- within a comprehension: D the list so far, W what may change, Hb the heap at some earlier point -/
structure CSt (K : PySem.W.Frag) (F : Fr) (W : Addr → Prop) (D : Addr) (Hb : Hp) (acc : List PyData) (ρ : PEnv) (σ : L2.St) (H : Hp) : Prop where
  env : EnvOk K F ρ σ H
  lst : ∃ xs, H D = some (.lst xs) ∧ RpAll K H F.P xs acc
  keep : Keep W Hb H
  wr : ∀ a, Wr σ F.M a → W a
  nD : ∀ i, i ∈ F.O → σ[i]? ≠ some (some (V.ref D))
structure CCtx (F : Fr) (W : Addr → Prop) (D : Addr) : Prop where
  wp : ∀ a, W a → F.P a
  wD : W D
section
variable {K : PySem.W.Frag} {Φ : Nat → List PyData → Option (PyData × List PyData)} {gl : List PyData} {F : Fr} {W : Addr → Prop} {D : Addr} {Hb H H' Hs : Hp} {acc acc' accF : List PyData} {ρ ρ' ρs ρE : PEnv} {σ σ' σs : L2.St}
theorem CSt.step (C : CCtx F W D) (s : CSt K F W D Hb acc ρ σ H) (en : EnvOk K F ρ' σ' H') (hσ : ∀ i, i ∈ F.O → σ'[i]? = σ[i]?) (k : Keep (Wr σ F.M) H H') : CSt K F W D Hb acc ρ' σ' H' := by
  obtain ⟨xs, h1, h2⟩ := s.lst
  have nw : ¬ Wr σ F.M D := fun ⟨i, hi, e⟩ => s.nD i (s.env.mo i hi).1 e
  exact ⟨en, ⟨xs, k.keep D _ h1 nw, h2.ext (k.ext fun a z => C.wp a (s.wr a z))⟩, s.keep.trans (k.weak s.wr), fun a ⟨i, hi, e⟩ => s.wr a ⟨i, hi, by rw [← hσ i (s.env.mo i hi).1]; exact e⟩, fun i hi e => s.nD i hi (by rw [← hσ i hi]; exact e)⟩
/-- an item more -/
theorem CSt.push (C : CCtx F W D) (s : CSt K F W D Hb acc ρ σ H) {v : V} {d : PyData} (r : Rp K H F.P v d) {xs : List V} (hx : H D = some (.lst xs)) : CSt K F W D Hb (acc ++ [d]) ρ σ (upd H D (.lst (xs ++ [v]))) := by
  obtain ⟨xs', h1, h2⟩ := s.lst
  rw [hx] at h1
  cases h1
  have nt : ∀ a zs, H a = some (.tup zs) → a ≠ D := fun a zs e z => by rw [z, hx] at e; cases e
  have x : Ext F.P F.P H (upd H D (.lst (xs ++ [v]))) := ⟨fun a o e n => by rw [upd_ne fun z => n (by rw [z]; exact C.wp D C.wD)]; exact e, fun a zs e => by rw [upd_ne (nt a zs e)]; exact e, fun _ z => .inl z⟩
  have ht : ∀ a, (∃ u, H a = some u) → ∃ u, upd H D (.lst (xs ++ [v])) a = some u := fun a ⟨u, hu⟩ => by
    by_cases z : a = D
    · subst z; exact ⟨_, upd_same⟩
    · exact ⟨u, by rw [upd_ne z]; exact hu⟩
  refine ⟨s.env.move x (fun i a o hi e hu => by rw [upd_ne fun z => s.nD i hi (by rw [← z]; exact e)]; exact hu) (fun a z => ht a (s.env.there a z)), ⟨_, upd_same, (h2.append (.cons r .nil)).ext x⟩, s.keep.trans ⟨fun a o e n => by rw [upd_ne fun z => n (by rw [z]; exact C.wD)]; exact e, fun a zs e => by rw [upd_ne (nt a zs e)]; exact e, fun a e => ?_⟩, s.wr, s.nD⟩
  cases e2 : H a with
  | none => rfl
  | some u =>
    obtain ⟨u', h'⟩ := ht a ⟨u, e2⟩
    rw [h'] at e; cases e
theorem loop2 {vs : List Nat} {g : G} {c : E} {inner : List PyData → PEnv → Option (List PyData × PEnv)} {J : It} {Body : L2.St → Hp → (Hp → Prop) → Prop} {Out : Hp → Prop} (C : CCtx F W D) (hvs : ∀ i, i ∈ vs → i ∉ F.O) (hg : ∀ i, i ∈ gv g → i ∈ vs) (sa : ∀ i, i ∈ als c → i ∈ F.A) (sm : ∀ i, i ∈ mods c → i ∈ F.M)
    {ds : List PyData} (it : ItOk K F.P J Hs ds) (run : compL2 (asgG g) (fun ρ => ev Φ gl c ρ) inner vs ds acc ρs = some (accF, ρE)) (st : CSt K F W D Hs acc ρs (wipe σs vs) Hs)
    (hin : ∀ acc ρ acc' ρ' σ H (Nx : Hp → Prop), inner acc ρ = some (acc', ρ') → wipe σ vs = wipe σs vs → CSt K F W D H acc ρ σ H → (∀ H', CSt K F W D H acc' ρ' σ H' → Nx H') → Body σ H Nx)
    (hout : ∀ H, CSt K F W D Hs accF ρE (wipe σs vs) H → Out H) :
    ∃ Wi : Nat → Nat → Hp → Prop, (∃ m, Wi 0 m Hs) ∧ ∀ i m H, Wi i m H → (J.stop i H ∧ Out H) ∨ (J.go i H ∧ ∃ Nx : Hp → Prop, (∀ H', Nx H' → ∃ m', m' < m ∧ Wi (i + 1) m' H') ∧ ∀ x H', J.yld i H x H' →
      tG K g x (wipe σs vs) H' fun σ2 H2 => wipe σ2 vs = wipe σs vs ∧ tT K Φ gl c σ2 H2 fun b H3 => if b = true then Body σ2 H3 Nx else Nx H3) := by
  refine ⟨fun i m H => m = ds.length - i ∧ i ≤ ds.length ∧ ∃ acc ρ, compL2 (asgG g) (fun ρ => ev Φ gl c ρ) inner vs (ds.drop i) acc ρ = some (accF, ρE) ∧ CSt K F W D Hs acc ρ (wipe σs vs) H, ⟨ds.length, by simp, Nat.zero_le _, acc, ρs, by simpa using run, st⟩, ?_⟩
  rintro i m H ⟨rfl, hi, acc, ρ, hrun, s⟩
  have x : Ext F.P F.P Hs H := s.keep.ext C.wp
  obtain ⟨hstop, hgo⟩ := it i F.P H x
  by_cases hlt : i < ds.length
  · have hd : ds[i]? = some ds[i] := by simp [hlt]
    obtain ⟨go, yl⟩ := hgo _ hd
    rw [List.drop_eq_getElem_cons hlt] at hrun
    simp only [compL2] at hrun
    obtain ⟨ρ1, e1, hrun⟩ := bind_some hrun
    obtain ⟨⟨b, fb, ρ2⟩, e2, hrun⟩ := bind_some hrun
    have hgo2 : ∀ i, i ∈ gv g → i ∉ F.O := fun i z => hvs i (hg i z)
    refine .inr ⟨go, fun H' => ∃ acc ρ, compL2 (asgG g) (fun ρ => ev Φ gl c ρ) inner vs (ds.drop (i + 1)) acc ρ = some (accF, ρE) ∧ CSt K F W D Hs acc ρ (wipe σs vs) H', fun H' ⟨acc', ρ', q1, q2⟩ => ⟨ds.length - (i + 1), by omega, rfl, hlt, acc', ρ', q1, q2⟩, fun v H1 hy => ?_⟩
    obtain ⟨g1, r1⟩ := yl v H1 hy
    have s1 : CSt K F W D Hs acc ρ (wipe σs vs) H1 := s.step C (s.env.grow g1) (fun _ _ => rfl) (.of g1)
    refine ⟨F, ρ, ds[i], ρ1, s1.env, fun j hj z => hgo2 j hj (s1.env.mo j z).1, r1, e1, fun σ2 en2 k2 => ?_⟩
    rw [Fr.less_off F hgo2] at en2
    have eqO : ∀ j, j ∈ F.O → σ2[j]? = (wipe σs vs)[j]? := fun j hj => k2 j fun z => hgo2 j z hj
    have s2 : CSt K F W D Hs acc ρ1 σ2 H1 := s1.step C en2 eqO .refl
    have ew : wipe σ2 vs = wipe σs vs := by
      rw [← wipe_wipe (σ := σs) (vs := vs) (ws := vs) fun _ z => z]
      exact wipe_eq (by rw [← en2.len, ← s1.env.len]; exact asg_len e1) fun j hj => k2 j fun z => hj (hg j z)
    refine ⟨ew, ?_⟩
    have back : ∀ {acc' ρ' H'}, CSt K F W D Hs acc' ρ' σ2 H' → CSt K F W D Hs acc' (wipeP ρ' vs) (wipe σs vs) H' := fun {acc' ρ' H'} s' => by
      have := s'.env.wipe hvs
      rw [ew] at this
      exact s'.step C this (fun j hj => by rw [← eqO j hj]) .refl
    cases b with
    | bool b =>
      refine ⟨F, ρ1, b, fb, ρ2, en2, sa, sm, e2, fun H3 en3 k3 => ?_⟩
      have s3 : CSt K F W D Hs acc ρ2 σ2 H3 := s2.step C en3 (fun _ _ => rfl) k3
      cases b with
      | false =>
        simp only [Bool.false_eq_true, if_false]
        exact ⟨acc, _, hrun, back s3⟩
      | true =>
        simp only [if_true]
        dsimp only at hrun
        obtain ⟨⟨acc4, ρ4⟩, e4, hrun⟩ := bind_some hrun
        refine hin acc ρ2 acc4 ρ4 σ2 H3 _ e4 ew ⟨s3.env, s3.lst, .refl, s3.wr, s3.nD⟩ fun H4 s4 => ⟨acc4, _, hrun, back ⟨s4.env, s4.lst, s3.keep.trans s4.keep, s4.wr, s4.nD⟩⟩
    | _ => simp at hrun
  · have hl : ds.length = i := by omega
    rw [List.drop_eq_nil_of_le (by omega)] at hrun
    simp only [compL2, Option.some.injEq, Prod.mk.injEq] at hrun
    obtain ⟨rfl, rfl⟩ := hrun
    exact .inl ⟨hstop (by omega), hout H s⟩

/-- the element is appended -/
theorem add_body {e : E} {σ : L2.St} (C : CCtx F W D) (sa : ∀ i, i ∈ als e → i ∈ F.A) (sm : ∀ i, i ∈ mods e → i ∈ F.M) (h : addV (fun ρ => ev Φ gl e ρ) acc ρ = some (acc', ρ')) (s : CSt K F W D H acc ρ σ H) {Nx : Hp → Prop} (hN : ∀ H', CSt K F W D H acc' ρ' σ H' → Nx H') :
    tE K Φ gl e σ H fun y H4 => ∃ zs, H4 D = some (.lst zs) ∧ zs.length < sizeLine ∧ Nx (upd H4 D (.lst (zs ++ [y]))) := by
  unfold addV at h
  obtain ⟨⟨d, fd, ρ1⟩, h1, h⟩ := bind_some h
  dsimp only at h
  split at h
  · rename_i hz
    cases h
    refine one s.env sa sm h1 fun v H1 en1 k1 r1 => ?_
    have s1 := s.step C en1 (fun _ _ => rfl) k1
    obtain ⟨zs, g1, g2⟩ := s1.lst
    exact ⟨zs, g1, by rw [g2.length]; exact hz, hN _ (s1.push C r1.rp g1)⟩
  · cases h
/-- the comprehension's frame is opened and closed -/
theorem open_c {vs : List Nat} (en : EnvOk K F ρ σ H) (hn : noOwn ρ vs = true) (hD : H D = none) :
    CCtx (F.plus D) (fun a => Wr σ F.M a ∨ a = D) D ∧ CSt K (F.plus D) (fun a => Wr σ F.M a ∨ a = D) D (upd H D (.lst [])) [] (wipeP ρ vs) (wipe σ vs) (upd H D (.lst [])) ∧ ∀ i, i ∈ vs → i ∉ F.O := by
  have hv : ∀ i, i ∈ vs → i ∉ F.O := fun i hi z => by
    obtain ⟨d, e⟩ := en.shape i z
    exact noOwn_ok hn hi e
  have en' : EnvOk K (F.plus D) (wipeP ρ vs) (wipe σ vs) (upd H D (.lst [])) := (en.hide hD).wipe hv
  have off : ∀ i, i ∈ F.O → (wipe σ vs)[i]? = σ[i]? := fun i hi => wipe_off fun z => hv i z hi
  refine ⟨⟨fun a z => z.elim (fun z => .inl (en.wr z)) .inr, .inr rfl⟩, ⟨en', ⟨[], upd_same, .nil⟩, .refl, fun a ⟨i, hi, e⟩ => .inl ⟨i, hi, by rw [← off i (en.mo i hi).1]; exact e⟩, fun i hi e => ?_⟩, hv⟩
  rw [off i hi] at e
  obtain ⟨d, hd⟩ := en.shape i hi
  obtain ⟨_, b, e2, w⟩ := en.ow i d hd
  rw [e] at e2; cases e2
  obtain ⟨u, hu, _⟩ := w.there
  rw [hD] at hu; cases hu
theorem close_c {vs : List Nat} {Q : VK} (en : EnvOk K F ρ σ H) (hn : noOwn ρ vs = true) (hD : H D = none) (s : CSt K (F.plus D) (fun a => Wr σ F.M a ∨ a = D) D (upd H D (.lst [])) acc ρ' (wipe σ vs) H')
    (hQ : ∀ v H', EnvOk K F (backP ρ ρ' vs) σ H' → Keep (Wr σ F.M) H H' → Res K F (backP ρ ρ' vs) σ H H' v (.list acc) .fr → Q v H') : Q (.ref D) H' := by
  have hv : ∀ i, i ∈ vs → i ∉ F.O := fun i hi z => by
    obtain ⟨d, e⟩ := en.shape i z
    exact noOwn_ok hn hi e
  have g : ∀ b u, H b = some u → upd H D (.lst []) b = some u := fun b u z => by rw [upd_ne (ne_of_none z hD)]; exact z
  have ne : ∀ a o, H a = some o → a ≠ D := fun a o e => ne_of_none e hD
  have k : Keep (Wr σ F.M) H H' := ⟨fun a o e n => s.keep.keep a o (g a o e) fun z => z.elim n (ne a o e), fun a xs e => s.keep.tups a xs (g a _ e), fun a e => by
    cases e2 : H a with
    | none => rfl
    | some u =>
      have := s.keep.gone a e
      rw [g a u e2] at this; cases this⟩
  have ll : ρ'.length = ρ.length := by rw [s.env.len, wipe_length]; exact en.len.symm
  have x : Ext F.P F.P H H' := k.ext fun a z => en.wr z
  have dn : ¬ F.P D := fun z => by
    obtain ⟨u, e⟩ := en.there D z
    rw [hD] at e; cases e
  have less : Ext (fun b => F.P b ∨ b = D) F.P H' H' := .less fun a z => .inl z
  obtain ⟨xs, h1, h2⟩ := s.lst
  refine hQ _ _ ⟨en.adr, en.inj, en.zp, en.mo, fun i hi => ?_, fun i d e => ?_, fun i d e => ?_, fun a z => ?_, fun hk i d hi e => ?_, by rw [backP_len, ll]; exact en.len⟩ k ⟨.lst dn h1 (h2.ext less), fun _ => ⟨D, rfl, hD, .lst h1 h2, ?_⟩⟩
  · rw [backP_out fun z => hv i z hi]
    exact s.env.shape i hi
  · by_cases z : i ∈ vs
    · rw [backP_in ll.symm z] at e
      exact absurd e (noOwn_ok hn z)
    · rw [backP_out z] at e
      obtain ⟨hi, a, e2, w⟩ := s.env.ow i d e
      rw [wipe_off z] at e2
      exact ⟨hi, a, e2, w.ext less fun _ z => z⟩
  · by_cases z : i ∈ vs
    · rw [backP_in ll.symm z] at e
      obtain ⟨v, e2, r⟩ := en.fz i d e
      exact ⟨v, e2, r.ext x⟩
    · rw [backP_out z] at e
      obtain ⟨v, e2, r⟩ := s.env.fz i d e
      rw [wipe_off z] at e2
      exact ⟨v, e2, r.ext less⟩
  · obtain ⟨u, hu⟩ := en.there a z
    cases e : H' a with
    | none => rw [k.gone a e] at hu; cases hu
    | some u2 => exact ⟨u2, rfl⟩
  · by_cases z : i ∈ vs
    · rw [backP_in ll.symm z] at e
      exact absurd e (noOwn_ok hn z)
    · rw [backP_out z] at e
      exact s.env.nd hk i d hi e
  · have en5 := s.env.unwipe
    have x5 : Ext F.P (F.plus D).P H H' := ⟨fun a o e n => k.keep a o e fun z => n (en.wr z), k.tups, fun a z => z.elim .inl fun z => .inr (by rw [z]; exact hD)⟩
    refine ⟨en5.adr, en5.inj, en5.zp, en5.mo, fun i hi => ?_, fun i d e => ?_, fun i d e => ?_, en5.there, fun hk i d hi e => ?_, by rw [backP_len, ll]; exact en.len⟩
    · rw [backP_out fun z => hv i z hi]
      exact en5.shape i hi
    · by_cases z : i ∈ vs
      · rw [backP_in ll.symm z] at e
        exact absurd e (noOwn_ok hn z)
      · rw [backP_out z] at e
        exact en5.ow i d e
    · by_cases z : i ∈ vs
      · rw [backP_in ll.symm z] at e
        obtain ⟨v, e2, r⟩ := en.fz i d e
        exact ⟨v, e2, r.ext x5⟩
      · rw [backP_out z] at e
        exact en5.fz i d e
    · by_cases z : i ∈ vs
      · rw [backP_in ll.symm z] at e
        exact absurd e (noOwn_ok hn z)
      · rw [backP_out z] at e
        exact en5.nd hk i d hi e
end

/-- a clause's tests -/
def PTsv (X : Cx) (Φ : Nat → List PyData → Option (PyData × List PyData)) (gl : List PyData) (p : List Expr) (c : E) : Prop := PTs X p (tT X.K Φ gl c)
section
variable {X : Cx} {Φ : Nat → List PyData → Option (PyData × List PyData)} {gl : List PyData}
theorem c_nil : PTsv X Φ gl [] (.bl true) := ⟨fun pins s σ H Q I ⟨F, ρ, b, fl, ρ', en, sa, sm, h, q⟩ => by
  simp only [ev, Option.some.injEq, Prod.mk.injEq, PyData.bool.injEq] at h
  obtain ⟨rfl, rfl, rfl⟩ := h
  exact pts_nil.run pins s σ H Q I (q H en .refl)⟩
theorem c_one {c : Expr} {ec : E} (h : PTv X Φ gl c ec) : PTsv X Φ gl [c] ec := pts_one h

/-- the walk of a comprehension of one clause -/
theorem comp_walk {K : PySem.W.Frag} {vs : List Nat} {g : G} {c e : E} (hg : ∀ i, i ∈ gv g → i ∈ vs) {σ : L2.St} {H1 : Hp} {Q : VK} {F : Fr} {ρ1 ρ2 : PEnv} {J : It} {ds acc : List PyData} (en1 : EnvOk K F ρ1 σ H1) (hn : noOwn ρ1 vs = true) (ok : ItOk K F.P J H1 ds) (sa : ∀ i, i ∈ als c ++ als e → i ∈ F.A) (sm : ∀ i, i ∈ mods c ++ mods e → i ∈ F.M)
    (h2 : compL (asgG g) (fun ρ => ev Φ gl c ρ) (fun ρ => ev Φ gl e ρ) vs ds [] (wipeP ρ1 vs) = some (acc, ρ2))
    (hQ : ∀ v H', EnvOk K F (backP ρ1 ρ2 vs) σ H' → Keep (Wr σ F.M) H1 H' → Res K F (backP ρ1 ρ2 vs) σ H1 H' v (.list acc) .fr → Q v H') : ∀ D, H1 D = none → ∃ W : Nat → Nat → Hp → Prop, (∃ m, W 0 m (upd H1 D (.lst []))) ∧ ∀ i m H, W i m H →
  (J.stop i H ∧ Q (.ref D) H) ∨ (J.go i H ∧ ∃ Nx : Hp → Prop, (∀ H', Nx H' → ∃ m', m' < m ∧ W (i + 1) m' H') ∧ ∀ x H', J.yld i H x H' → tG K g x (wipe σ vs) H' fun σ2 H2 => wipe σ2 vs = wipe σ vs ∧ tT K Φ gl c σ2 H2 fun b H3 =>
    if b = true then tE K Φ gl e σ2 H3 fun y H4 => ∃ acc, H4 D = some (.lst acc) ∧ acc.length < sizeLine ∧ Nx (upd H4 D (.lst (acc ++ [y]))) else Nx H3) := fun D hD => by
  obtain ⟨C, s0, hv⟩ := open_c en1 hn hD
  have ok' : ItOk K (fun b => F.P b ∨ b = D) J (upd H1 D (.lst [])) ds := fun i P' H2 x => ok i P' H2 ⟨fun a o e n => x.keep a o (by rw [upd_ne (ne_of_none e hD)]; exact e) fun z => z.elim n (ne_of_none e hD), fun a xs e => x.tups a xs (by rw [upd_ne (ne_of_none e hD)]; exact e), fun a z => by
    rcases x.sub a z with (z | z) | z
    · exact .inl z
    · exact .inr (by rw [z]; exact hD)
    · by_cases ed : a = D
      · exact .inr (by rw [ed]; exact hD)
      · exact .inr (by rw [upd_ne ed] at z; exact z)⟩
  exact loop2 C hv hg (fun i z => sa i (by simp [z])) (fun i z => sm i (by simp [z])) ok' h2 s0 (fun acc ρ acc' ρ' σ H Nx hi _ s hN => add_body C (fun i z => sa i (by simp [z])) (fun i z => sm i (by simp [z])) hi s hN) fun H' s' => close_c en1 hn hD s' hQ
/-- [elt for tg in iter if ..] -/
theorem comp_core {K : PySem.W.Frag} {vs : List Nat} {g : G} {it : I} {c e : E} (hg : ∀ i, i ∈ gv g → i ∈ vs) {σ : L2.St} {H : Hp} {Q : VK} (w : tE K Φ gl (.comp vs g it c e) σ H Q) : tLc (tI K Φ gl it) (tG K g) (tT K Φ gl c) (tE K Φ gl e) vs σ H Q := by
  obtain ⟨F, ρ, d, fl, ρ', en, sa, sm, h, q⟩ := w
  simp only [ev] at h
  obtain ⟨⟨ds, ρ1⟩, h1, h⟩ := bind_some h
  dsimp only at h
  split at h
  · rename_i hn
    obtain ⟨⟨acc, ρ2⟩, h2, h⟩ := bind_some h
    cases h
    have sa : ∀ i, i ∈ alsI it ++ (als c ++ als e) → i ∈ F.A := by simpa [als] using sa
    have sm : ∀ i, i ∈ modsI it ++ (mods c ++ mods e) → i ∈ F.M := by simpa [mods] using sm
    exact ⟨F, ρ, ds, ρ1, en, fun i z => sa i (by simp [z]), fun i z => sm i (by simp [z]), h1, fun J H1 en1 k1 ok =>
      comp_walk hg en1 hn (itP_ok ok) (fun i z => sa i (List.mem_append_right _ z)) (fun i z => sm i (List.mem_append_right _ z)) h2 fun v H' en' k' r' => q v H' en' (k1.trans k') ⟨r'.rp, fun z => let ⟨a, g1, g2, g3⟩ := r'.fr z; ⟨a, g1, k1.gone a g2, g3⟩⟩⟩
  · cases h
theorem e_comp {elt tg iter : Expr} {ifs : List Expr} {scope : Scope} {own : List (Str × Nat)} {pos : Pos} {vs : List Nat} {g : G} {it : I} {c e : E} (hc : X.calm = true) (hN : X.N.Nodup) (hi : PIv X Φ gl tg iter it) (ok : BlkOk X.N X.env.scope scope own) (hvs : own.map (·.2) = vs) (hgv : ∀ i, i ∈ gv g → i ∈ vs)
    (hg : ∀ (s : Shared) (H : Hp) (C : Addr) (cl : List (Str × Addr)) (fp : List Addr), PGv (X.blk s H scope (compEnvC scope cl C X.env) fp) tg g) (ht : ∀ (s : Shared) (H : Hp) (C : Addr) (cl : List (Str × Addr)) (fp : List Addr), PTsv (X.blk s H scope (compEnvC scope cl C X.env) fp) Φ gl ifs c)
    (he : ∀ (s : Shared) (H : Hp) (C : Addr) (cl : List (Str × Addr)) (fp : List Addr), PEv (X.blk s H scope (compEnvC scope cl C X.env) fp) Φ gl elt e) (hs : ∀ x, foldedSetIterable iter X.env x = pure x := by intro _; rfl) :
    PEv X Φ gl (.ListComp elt [⟨tg, iter, ifs, 0⟩] scope pos) (.comp vs g it c e) :=
  (pe_lc (g := tG X.K g) (tt := tT X.K Φ gl c) (te := tE X.K Φ gl e) hc hN hi ok hg ht he hs).imp fun σ H Q w => by rw [hvs]; exact comp_core hgv w
theorem ps_comp {elt tg iter : Expr} {ifs : List Expr} {scope : Scope} {own : List (Str × Nat)} {pos : Pos} {vs : List Nat} {g : G} {it : I} {c e : E} {i : Nat} {y : Str} {py spos : Pos} (hc : X.calm = true) (hN : X.N.Nodup) (hy : X.N[i]? = some y) (hyl : X.env.scope.names.lookup y = some .local)
    (hsw : swapsWith (.ListComp elt [⟨tg, iter, ifs, 0⟩] scope pos) (some (.Name y py)) spos.line X.env = pure true) (hi : PIv X Φ gl tg iter it) (ok : BlkOk X.N X.env.scope scope own) (hvs : own.map (·.2) = vs) (hgv : ∀ i, i ∈ gv g → i ∈ vs)
    (hg : ∀ (s : Shared) (H : Hp) (C : Addr) (cl : List (Str × Addr)) (fp : List Addr), PGv (X.blk s H scope (compEnvC scope cl C X.env) fp) tg g) (ht : ∀ (s : Shared) (H : Hp) (C : Addr) (cl : List (Str × Addr)) (fp : List Addr), PTsv (X.blk s H scope (compEnvC scope cl C X.env) fp) Φ gl ifs c)
    (he : ∀ (s : Shared) (H : Hp) (C : Addr) (cl : List (Str × Addr)) (fp : List Addr), PEv (X.blk s H scope (compEnvC scope cl C X.env) fp) Φ gl elt e) (hs : ∀ x, foldedSetIterable iter X.env x = pure x := by intro _; rfl) :
    PS X (.Assign [.Name y py] (.ListComp elt [⟨tg, iter, ifs, 0⟩] scope pos) spos) (tAsg (tE X.K Φ gl (.comp vs g it c e)) (gName i)) := by
  have h := ps_setLc (g := tG X.K g) (tt := tT X.K Φ gl c) (te := tE X.K Φ gl e) hc hN hy hyl hsw hi ok hg ht he hs
  refine ⟨fun pins s σ H D I w => h.run pins s σ H D I ?_⟩
  rw [hvs]
  exact comp_core hgv w

/-- .. of two clauses -/
theorem comp2_core {K : PySem.W.Frag} {vs vs1 : List Nat} {g g1 : G} {it it1 : I} {c c1 e : E} (hg : ∀ i, i ∈ gv g → i ∈ vs) (hg1 : ∀ i, i ∈ gv g1 → i ∈ vs1) (h1v : ∀ i, i ∈ vs1 → i ∈ vs) {σ : L2.St} {H : Hp} {Q : VK} (w : tE K Φ gl (.comp2 vs vs1 g it c g1 it1 c1 e) σ H Q) :
    tLc2 (tI K Φ gl it) (tG K g) (tT K Φ gl c) (tI K Φ gl it1) (tG K g1) (tT K Φ gl c1) (tE K Φ gl e) vs vs1 σ H Q := by
  obtain ⟨F, ρ, d, fl, ρ', en, sa, sm, h, q⟩ := w
  simp only [ev] at h
  obtain ⟨⟨ds, ρ1⟩, h1, h⟩ := bind_some h
  dsimp only at h
  split at h
  · rename_i hn
    obtain ⟨⟨acc, ρ2⟩, h2, h⟩ := bind_some h
    cases h
    have sa : ∀ i, i ∈ alsI it ++ (als c ++ (alsI it1 ++ (als c1 ++ als e))) → i ∈ F.A := by simpa [als] using sa
    have sm : ∀ i, i ∈ modsI it ++ (mods c ++ (modsI it1 ++ (mods c1 ++ mods e))) → i ∈ F.M := by simpa [mods] using sm
    refine ⟨F, ρ, ds, ρ1, en, fun i z => sa i (by simp [z]), fun i z => sm i (by simp [z]), h1, fun J H1 en1 k1 ok0 D hD => ?_⟩
    have ok := itP_ok ok0
    obtain ⟨C, s0, hv⟩ := open_c en1 hn hD
    have ok' : ItOk K (fun b => F.P b ∨ b = D) J (upd H1 D (.lst [])) ds := fun i P' H2 x => ok i P' H2 ⟨fun a o e n => x.keep a o (by rw [upd_ne (ne_of_none e hD)]; exact e) fun z => z.elim n (ne_of_none e hD), fun a xs e => x.tups a xs (by rw [upd_ne (ne_of_none e hD)]; exact e), fun a z => by
      rcases x.sub a z with (z | z) | z
      · exact .inl z
      · exact .inr (by rw [z]; exact hD)
      · by_cases ed : a = D
        · exact .inr (by rw [ed]; exact hD)
        · exact .inr (by rw [upd_ne ed] at z; exact z)⟩
    refine loop2 C hv hg (fun i z => sa i (by simp [z])) (fun i z => sm i (by simp [z])) ok' h2 s0 (fun acc ρ acc' ρ' σ2 H3 Nx hi ew s hN => ?_) fun H' s' => close_c en1 hn hD s' fun v H' en' k' r' => q v H' en' (k1.trans k') ⟨r'.rp, fun z => let ⟨a, g1, g2, g3⟩ := r'.fr z; ⟨a, g1, k1.gone a g2, g3⟩⟩
    obtain ⟨⟨ds1, ρ3⟩, e3, hi⟩ := bind_some hi
    refine ⟨_, ρ, ds1, ρ3, s.env, fun i z => sa i (by simp [z]), fun i z => sm i (by simp [z]), e3, fun J1 H4 en4 k4 ok1' => ?_⟩
    have ok1 := itP_ok ok1'
    have s4 := s.step C en4 (fun _ _ => rfl) k4
    have hv1 : ∀ i, i ∈ vs1 → i ∉ F.O := fun i z => hv i (h1v i z)
    have s4' : CSt K _ _ D H4 acc (wipeP ρ3 vs1) (wipe σ2 vs1) H4 := ⟨s4.env.wipe hv1, s4.lst, .refl, fun a ⟨i, hi, e⟩ => s4.wr a ⟨i, hi, by rw [wipe_off fun z => hv1 i z (s4.env.mo i hi).1] at e; exact e⟩, fun i hi e => s4.nD i hi (by rw [wipe_off fun z => hv1 i z hi] at e; exact e)⟩
    refine loop2 (σs := σ2) C hv1 hg1 (fun i z => sa i (by simp [z])) (fun i z => sm i (by simp [z])) ok1 (show compL2 _ _ (addV _) vs1 ds1 acc (wipeP ρ3 vs1) = some (acc', ρ') from hi) s4' (fun acc ρ acc' ρ' σ H Nx hi _ s hN => add_body C (fun i z => sa i (by simp [z])) (fun i z => sm i (by simp [z])) hi s hN) fun H' s' => hN H' ?_
    have en5 : EnvOk K _ ρ' σ2 H' := s'.env.unwipe
    exact ⟨en5, s'.lst, (s4.keep).trans s'.keep, s.wr, s.nD⟩
  · cases h
theorem e_comp2 {elt tg iter tg1 iter1 : Expr} {ifs ifs1 : List Expr} {scope : Scope} {own : List (Str × Nat)} {pos : Pos} {vs vs1 : List Nat} {g g1 : G} {it it1 : I} {c c1 e : E} (hc : X.calm = true) (hN : X.N.Nodup) (hi : PIv X Φ gl tg iter it) (ok : BlkOk X.N X.env.scope scope own) (hvs : own.map (·.2) = vs) (hgv : ∀ i, i ∈ gv g → i ∈ vs) (hgv1 : ∀ i, i ∈ gv g1 → i ∈ vs1) (h1v : ∀ i, i ∈ vs1 → i ∈ vs)
    (hg : ∀ (s : Shared) (H : Hp) (C : Addr) (cl : List (Str × Addr)) (fp : List Addr), PGv (X.blk s H scope (compEnvC scope cl C X.env) fp) tg g) (ht : ∀ (s : Shared) (H : Hp) (C : Addr) (cl : List (Str × Addr)) (fp : List Addr), PTsv (X.blk s H scope (compEnvC scope cl C X.env) fp) Φ gl ifs c)
    (hi1 : ∀ (s : Shared) (H : Hp) (C : Addr) (cl : List (Str × Addr)) (fp : List Addr), PIv (X.blk s H scope (compEnvC scope cl C X.env) fp) Φ gl tg1 iter1 it1)
    (hg1 : ∀ (s : Shared) (H : Hp) (C : Addr) (cl : List (Str × Addr)) (fp : List Addr), PGv (X.blk s H scope (compEnvC scope cl C X.env) fp) tg1 g1) (ht1 : ∀ (s : Shared) (H : Hp) (C : Addr) (cl : List (Str × Addr)) (fp : List Addr), PTsv (X.blk s H scope (compEnvC scope cl C X.env) fp) Φ gl ifs1 c1)
    (he : ∀ (s : Shared) (H : Hp) (C : Addr) (cl : List (Str × Addr)) (fp : List Addr), PEv (X.blk s H scope (compEnvC scope cl C X.env) fp) Φ gl elt e) (hs : ∀ x, foldedSetIterable iter X.env x = pure x := by intro _; rfl) (hs1 : ∀ env x, foldedSetIterable iter1 env x = pure x := by intro _ _; rfl) :
    PEv X Φ gl (.ListComp elt [⟨tg, iter, ifs, 0⟩, ⟨tg1, iter1, ifs1, 0⟩] scope pos) (.comp2 vs vs1 g it c g1 it1 c1 e) :=
  (pe_lc2 (g := tG X.K g) (tt := tT X.K Φ gl c) (wi1 := tI X.K Φ gl it1) (g1 := tG X.K g1) (tt1 := tT X.K Φ gl c1) (te := tE X.K Φ gl e) hc hN hi ok (by intro i hi; rw [hvs]; exact h1v i hi) hg ht hi1 hg1 ht1 he hs hs1).imp fun σ H Q w => by rw [hvs]; exact comp2_core hgv hgv1 h1v w
theorem ps_comp2 {elt tg iter tg1 iter1 : Expr} {ifs ifs1 : List Expr} {scope : Scope} {own : List (Str × Nat)} {pos : Pos} {vs vs1 : List Nat} {g g1 : G} {it it1 : I} {c c1 e : E} {i : Nat} {y : Str} {py spos : Pos} (hc : X.calm = true) (hN : X.N.Nodup) (hy : X.N[i]? = some y) (hyl : X.env.scope.names.lookup y = some .local)
    (hsw : swapsWith (.ListComp elt [⟨tg, iter, ifs, 0⟩, ⟨tg1, iter1, ifs1, 0⟩] scope pos) (some (.Name y py)) spos.line X.env = pure true) (hi : PIv X Φ gl tg iter it) (ok : BlkOk X.N X.env.scope scope own) (hvs : own.map (·.2) = vs) (hgv : ∀ i, i ∈ gv g → i ∈ vs) (hgv1 : ∀ i, i ∈ gv g1 → i ∈ vs1) (h1v : ∀ i, i ∈ vs1 → i ∈ vs)
    (hg : ∀ (s : Shared) (H : Hp) (C : Addr) (cl : List (Str × Addr)) (fp : List Addr), PGv (X.blk s H scope (compEnvC scope cl C X.env) fp) tg g) (ht : ∀ (s : Shared) (H : Hp) (C : Addr) (cl : List (Str × Addr)) (fp : List Addr), PTsv (X.blk s H scope (compEnvC scope cl C X.env) fp) Φ gl ifs c)
    (hi1 : ∀ (s : Shared) (H : Hp) (C : Addr) (cl : List (Str × Addr)) (fp : List Addr), PIv (X.blk s H scope (compEnvC scope cl C X.env) fp) Φ gl tg1 iter1 it1)
    (hg1 : ∀ (s : Shared) (H : Hp) (C : Addr) (cl : List (Str × Addr)) (fp : List Addr), PGv (X.blk s H scope (compEnvC scope cl C X.env) fp) tg1 g1) (ht1 : ∀ (s : Shared) (H : Hp) (C : Addr) (cl : List (Str × Addr)) (fp : List Addr), PTsv (X.blk s H scope (compEnvC scope cl C X.env) fp) Φ gl ifs1 c1)
    (he : ∀ (s : Shared) (H : Hp) (C : Addr) (cl : List (Str × Addr)) (fp : List Addr), PEv (X.blk s H scope (compEnvC scope cl C X.env) fp) Φ gl elt e) (hs : ∀ x, foldedSetIterable iter X.env x = pure x := by intro _; rfl) (hs1 : ∀ env x, foldedSetIterable iter1 env x = pure x := by intro _ _; rfl) :
    PS X (.Assign [.Name y py] (.ListComp elt [⟨tg, iter, ifs, 0⟩, ⟨tg1, iter1, ifs1, 0⟩] scope pos) spos) (tAsg (tE X.K Φ gl (.comp2 vs vs1 g it c g1 it1 c1 e)) (gName i)) := by
  have h := ps_setLc2 (g := tG X.K g) (tt := tT X.K Φ gl c) (wi1 := tI X.K Φ gl it1) (g1 := tG X.K g1) (tt1 := tT X.K Φ gl c1) (te := tE X.K Φ gl e) hc hN hy hyl hsw hi ok (by intro i hi; rw [hvs]; exact h1v i hi) hg ht hi1 hg1 ht1 he hs hs1
  refine ⟨fun pins s σ H D I w => h.run pins s σ H D I ?_⟩
  rw [hvs]
  exact comp2_core hgv hgv1 h1v w
end

/-! ### a dict walked: it is locked meanwhile -/
structure Sim (H H' : Hp) : Prop where
  lst : ∀ a xs, H a = some (.lst xs) → H' a = some (.lst xs)
  tup : ∀ a xs, H a = some (.tup xs) → H' a = some (.tup xs)
  dk : ∀ a kvs, RdK H a kvs → RdK H' a kvs
  dt : ∀ a kvs, RdT H a kvs → RdT H' a kvs
section
variable {K : PySem.W.Frag} {P : Addr → Prop} {H H' : Hp}
mutual
theorem Rp.sim (e : Sim H H') : ∀ {v : V} {d : PyData}, Rp K H P v d → Rp K H' P v d
  | _, _, .non => .non
  | _, _, .bl b => .bl b
  | _, _, .int i => .int i
  | _, _, .str x => .str x
  | _, _, .lst n h r => .lst n (e.lst _ _ h) (RpAll.sim e r)
  | _, _, .tup h r => .tup (e.tup _ _ h) (RpAll.sim e r)
  | _, _, .dk n h r => .dk n (e.dk _ _ h) (RpK.sim e r)
  | _, _, .dt n h r => .dt n (e.dt _ _ h) (RpT.sim e r)
theorem RpAll.sim (e : Sim H H') : ∀ {v : List V} {d : List PyData}, RpAll K H P v d → RpAll K H' P v d
  | _, _, .nil => .nil
  | _, _, .cons r rs => .cons (Rp.sim e r) (RpAll.sim e rs)
theorem RpK.sim (e : Sim H H') : ∀ {v : List (L2.Key × V)} {d : List (PyData × PyData)}, RpK K H P v d → RpK K H' P v d
  | _, _, .nil => .nil
  | _, _, .cons r rs => .cons (Rp.sim e r) (RpK.sim e rs)
theorem RpT.sim (e : Sim H H') : ∀ {v : List (List L2.Key × V)} {d : List (PyData × PyData)}, RpT K H P v d → RpT K H' P v d
  | _, _, .nil => .nil
  | _, _, .cons r rs => .cons (Rp.sim e r) (RpT.sim e rs)
end
theorem Own.sim {a : Addr} {d : PyData} (e : Sim H H') (k : H' a = H a) (o : Own K H P a d) : Own K H' P a d := by
  cases o with
  | lst h r => exact .lst (by rw [k]; exact h) (r.sim e)
  | dk h r => exact .dk (by rw [k]; exact h) (r.sim e)
  | dt n h r => exact .dt n (by rw [k]; exact h) (r.sim e)
end
/-- a dict that may be locked -/
inductive IsD : HO → Prop
  | k {kvs : List (L2.Key × V)} : kvs ≠ [] → IsD (.dK kvs)
  | t {kvs : List (List L2.Key × V)} : kvs ≠ [] → IsD (.dT kvs)
theorem IsD.mut {u : HO} (h : IsD u) : Mut (some u) := by cases h <;> exact True.intro
theorem sim_lock {H : Hp} {a : Addr} {u : HO} {od : Obj} (h : H a = some u) (d : IsD u) : Sim H (upd H a (.frz od u)) := by
  refine ⟨fun b xs e => ?_, fun b xs e => ?_, fun b kvs e => ?_, fun b kvs e => ?_⟩
  · rw [upd_ne fun z => by rw [z, h] at e; cases e; cases d]; exact e
  · rw [upd_ne fun z => by rw [z, h] at e; cases e; cases d]; exact e
  · by_cases z : b = a
    · subst z
      rcases e with e | ⟨n, o, e⟩
      · rw [h] at e; cases e
        cases d with
        | k n => exact .inr ⟨n, od, upd_same⟩
      · rw [h] at e; cases e; cases d
    · rcases e with e | ⟨n, o, e⟩
      · exact .inl (by rw [upd_ne z]; exact e)
      · exact .inr ⟨n, o, by rw [upd_ne z]; exact e⟩
  · by_cases z : b = a
    · subst z
      rcases e with ⟨n, e | ⟨o, e⟩⟩
      · rw [h] at e; cases e
        exact ⟨n, .inr ⟨od, upd_same⟩⟩
      · rw [h] at e; cases e; cases d
    · rcases e with ⟨n, e | ⟨o, e⟩⟩
      · exact ⟨n, .inl (by rw [upd_ne z]; exact e)⟩
      · exact ⟨n, .inr ⟨o, by rw [upd_ne z]; exact e⟩⟩
theorem sim_unlock {H : Hp} {a : Addr} {u : HO} {od : Obj} (h : H a = some (.frz od u)) (d : IsD u) : Sim H (upd H a u) := by
  refine ⟨fun b xs e => ?_, fun b xs e => ?_, fun b kvs e => ?_, fun b kvs e => ?_⟩
  · rw [upd_ne fun z => by rw [z, h] at e; cases e]; exact e
  · rw [upd_ne fun z => by rw [z, h] at e; cases e]; exact e
  · by_cases z : b = a
    · subst z
      rcases e with e | ⟨n, o, e⟩
      · rw [h] at e; cases e
      · rw [h] at e; cases e; exact .inl upd_same
    · rcases e with e | ⟨n, o, e⟩
      · exact .inl (by rw [upd_ne z]; exact e)
      · exact .inr ⟨n, o, by rw [upd_ne z]; exact e⟩
  · by_cases z : b = a
    · subst z
      rcases e with ⟨n, e | ⟨o, e⟩⟩
      · rw [h] at e; cases e
      · rw [h] at e; cases e; exact ⟨n, .inl upd_same⟩
    · rcases e with ⟨n, e | ⟨o, e⟩⟩
      · exact ⟨n, .inl (by rw [upd_ne z]; exact e)⟩
      · exact ⟨n, .inr ⟨o, by rw [upd_ne z]; exact e⟩⟩
section
variable {K : PySem.W.Frag} {F : Fr} {ρ ρ' : PEnv} {σ : L2.St} {H H' : Hp}
theorem EnvOk.sim (en : EnvOk K F ρ σ H) (e : Sim H H') (k : ∀ i a, i ∈ F.O → σ[i]? = some (some (V.ref a)) → H' a = H a) (ht : ∀ a, F.P a → ∃ u, H' a = some u) : EnvOk K F ρ σ H' where
  adr := en.adr
  inj := en.inj
  zp := en.zp
  mo := en.mo
  shape := en.shape
  ow := fun i d e1 => let ⟨h, a, e2, o⟩ := en.ow i d e1; ⟨h, a, e2, o.sim e (k i a h e2)⟩
  fz := fun i d e1 => let ⟨v, e2, r⟩ := en.fz i d e1; ⟨v, e2, r.sim e⟩
  there := ht
  nd := en.nd
  len := en.len
/-- a dict that is read is no own thing -/
theorem EnvOk.noD (en : EnvOk K F ρ σ H) (hk : lkM ∈ F.A) {a : Addr} (np : ¬ F.P a) {o : HO} (h : H a = some o) (nl : ∀ xs, o ≠ .lst xs) : ∀ i b, i ∈ F.O → σ[i]? = some (some (V.ref b)) → b ≠ a := fun i b hi e z => by
  subst z
  obtain ⟨b, e2, h1, _⟩ := en.adr i hi
  rw [e] at e2; cases e2
  by_cases hA : i ∈ F.A
  · obtain ⟨d, hd⟩ := en.shape i hi
    have n := en.nd hk i d hA hd
    obtain ⟨_, b, e3, w⟩ := en.ow i d hd
    rw [e] at e3; cases e3
    cases w with
    | lst e4 _ => rw [h] at e4; cases e4; exact nl _ rfl
    | dk e4 _ => cases n
    | dt _ e4 _ => cases n
  · exact np (h1.mpr hA)
theorem upd_keep {H : Hp} {a : Addr} {o : HO} : ∀ b, (∃ u, H b = some u) → ∃ u, upd H a o b = some u := fun b ⟨u, hu⟩ => by
  by_cases z : b = a
  · subst z; exact ⟨_, upd_same⟩
  · exact ⟨u, by rw [upd_ne z]; exact hu⟩
theorem EnvOk.lock (en : EnvOk K F ρ σ H) (hk : lkM ∈ F.A) {a : Addr} {u : HO} {od : Obj} (np : ¬ F.P a) (h : H a = some u) (d : IsD u) : EnvOk K F ρ σ (upd H a (.frz od u)) :=
  en.sim (sim_lock h d) (fun i b hi e => upd_ne (en.noD hk np h (fun xs z => by subst z; cases d) i b hi e)) fun b hb => upd_keep b (en.there b hb)
theorem EnvOk.unlock (en : EnvOk K F ρ σ H) (hk : lkM ∈ F.A) {a : Addr} {u : HO} {od : Obj} (np : ¬ F.P a) (h : H a = some (.frz od u)) (d : IsD u) : EnvOk K F ρ σ (upd H a u) :=
  en.sim (sim_unlock h d) (fun i b hi e => upd_ne (en.noD hk np h (fun xs z => nomatch z) i b hi e)) fun b hb => upd_keep b (en.there b hb)
theorem backP_wipe {ρ : PEnv} {vs : List Nat} : backP ρ (wipeP ρ vs) vs = ρ := by
  apply List.ext_getElem?
  intro i
  by_cases h : i ∈ vs
  · exact backP_in (wipeP_len ρ vs).symm h
  · rw [backP_out h, wipeP_out h]
/-- [elt for tg in d if ..], d a dict -/
theorem compK_core {Φ : Nat → List PyData → Option (PyData × List PyData)} {gl : List PyData} {vs : List Nat} {g : G} {i : Nat} {c e : E} (hg : ∀ i, i ∈ gv g → i ∈ vs) {Q : VK} (w : tE K Φ gl (.comp vs g (.dk i) c e) σ H Q) :
    tLc (iKeys (tVar i)) (tG K g) (tT K Φ gl c) (tE K Φ gl e) vs σ H Q ∨ tLockE (tLc (iKeys (tVar i)) (tG K g) (tT K Φ gl c) (tE K Φ gl e) vs) σ H Q := by
  obtain ⟨F, ρ, d, fl, ρ', en, sa, sm, h, q⟩ := w
  simp only [ev, evi] at h
  obtain ⟨⟨ds, ρ1⟩, h1, h⟩ := bind_some h
  cases hs : getS ρ i with
  | none => rw [hs] at h1; cases h1
  | some dd =>
  rw [hs] at h1
  cases dd with
  | dict kvs =>
    cases h1
    dsimp only at h
    split at h
    · rename_i hn
      obtain ⟨⟨acc, ρ2⟩, h2, h⟩ := bind_some h
      cases h
      have sa : ∀ j, j ∈ [i, lkM] ++ (als c ++ als e) → j ∈ F.A := by simpa [als, alsI] using sa
      have sm : ∀ i, i ∈ mods c ++ mods e → i ∈ F.M := by simpa [mods, modsI] using sm
      have hk : lkM ∈ F.A := sa _ (by simp)
      have sa' : ∀ j, j ∈ als c ++ als e → j ∈ F.A := fun j z => sa j (List.mem_append_right _ z)
      have slot : ∃ v, σ[i]? = some (some v) ∧ Rp K H F.P v (.dict kvs) := by
        unfold getS at hs
        cases e2 : ρ[i]? with
        | none => rw [e2] at hs; cases hs
        | some s =>
          rw [e2] at hs
          cases s with
          | no => cases hs
          | fz d2 => cases hs; exact en.fz i _ e2
          | ow d2 =>
            cases hs
            have := en.nd hk i _ (sa i (by simp)) e2
            cases this
      obtain ⟨v, e3, r⟩ := slot
      -- locked by us
      have locking : ∀ {a : Addr} {u : HO}, ¬ F.P a → H a = some u → IsD u → v = .ref a → (∀ od, ∃ J, ItOk K F.P J (upd H a (.frz od u)) (kvs.map (·.1)) ∧ ∀ R : It → Hp → Prop, R J (upd H a (.frz od u)) → iKeys (tVar i) σ (upd H a (.frz od u)) R) →
          tLockE (tLc (iKeys (tVar i)) (tG K g) (tT K Φ gl c) (tE K Φ gl e) vs) σ H Q := by
        intro a u np ha hd hv hj
        refine ⟨a, u, ha, hd.mut, fun od => ?_⟩
        obtain ⟨J, ok, hR⟩ := hj od
        refine hR _ (comp_walk (Q := fun v H' => H' a = some (.frz od u) ∧ Q v (upd H' a u)) hg (en.lock hk np ha hd) hn ok sa' sm h2 fun v H' en' k' r' => ?_)
        have nw : ¬ Wr σ F.M a := fun z => np (en.wr z)
        have hf : H' a = some (.frz od u) := k'.keep a _ upd_same nw
        have old : ∀ b, b ≠ a → upd H a (.frz od u) b = H b := fun b hb => upd_ne hb
        refine ⟨hf, q v _ (en'.unlock hk np hf hd) ⟨fun b o hb nb => ?_, fun b xs hb => ?_, fun b hb => ?_⟩ ⟨r'.rp.sim (sim_unlock hf hd), fun z => ?_⟩⟩
        · by_cases z : b = a
          · subst z; rw [ha] at hb; cases hb; exact upd_same
          · rw [upd_ne z]; exact k'.keep b o (by rw [old b z]; exact hb) nb
        · have z : b ≠ a := fun z => by subst z; rw [ha] at hb; cases hb; cases hd
          rw [upd_ne z]; exact k'.tups b xs (by rw [old b z]; exact hb)
        · by_cases z : b = a
          · subst z; rw [upd_same] at hb; cases hb
          · rw [upd_ne z] at hb
            have := k'.gone b hb
            rw [old b z] at this; exact this
        · obtain ⟨b, g1, g2, g3, g4⟩ := r'.fr z
          have nb : b ≠ a := fun z => by subst z; rw [upd_same] at g2; cases g2
          exact ⟨b, g1, by rw [old b nb] at g2; exact g2, g3.sim (sim_unlock hf hd) (upd_ne nb), g4.unlock hk (fun z => z.elim np fun z => nb z.symm) hf hd⟩
      cases r with
      | @dk a kv _ n hr ra =>
        rcases hr with ha | ⟨ne, o, ha⟩
        · refine .inr ?_
          cases kv with
          | nil =>
            cases ra
            simp only [List.map_nil, compL, compL2, Option.some.injEq, Prod.mk.injEq] at h2
            obtain ⟨rfl, rfl⟩ := h2
            rw [backP_wipe] at q
            refine ⟨a, .dK [], ha, True.intro, fun od => ?_⟩
            refine ⟨_, e3, a, od, rfl, .inl ⟨[], upd_same, fun D hD => ⟨fun j m H' => j = 0 ∧ H' = upd (upd H a (.frz od (.dK []))) D (.lst []), ⟨0, rfl, rfl⟩, ?_⟩⟩⟩
            rintro j m H' ⟨rfl, rfl⟩
            have nD : a ≠ D := fun z => by subst z; rw [upd_same] at hD; cases hD
            have hD' : H D = none := by rw [upd_ne nD.symm] at hD; exact hD
            have hf : upd (upd H a (.frz od (.dK []))) D (.lst []) a = some (.frz od (.dK [])) := by rw [upd_ne nD, upd_same]
            have eqH : upd (upd (upd H a (.frz od (.dK []))) D (.lst [])) a (.dK []) = upd H D (.lst []) := by
              funext b
              by_cases z : b = a
              · subst z; rw [upd_same, upd_ne nD]; exact ha.symm
              · rw [upd_ne z]
                by_cases z2 : b = D
                · subst z2; rw [upd_same, upd_same]
                · rw [upd_ne z2, upd_ne z, upd_ne z2]
            refine .inl ⟨⟨hf, Nat.le_refl _⟩, hf, ?_⟩
            rw [eqH]
            exact fin en .refl q _ _ (.fr hD' rfl (.lst upd_same .nil))
          | cons x xs =>
            refine locking n ha (.k (by simp)) rfl fun od => ⟨Itk a od (x :: xs), it_keys n upd_same (ra.sim (sim_lock ha (.k (by simp)))), fun R hR => ⟨_, e3, a, od, rfl, .inl ⟨_, upd_same, hR⟩⟩⟩
        · refine .inl ⟨_, e3, a, o, rfl, .inl ⟨kv, ha, ?_⟩⟩
          exact comp_walk hg en hn (it_keys n ha ra) sa' sm h2 q
      | @dt a kv _ n hr ra =>
        obtain ⟨ne, hr⟩ := hr
        rcases hr with ha | ⟨o, ha⟩
        · refine .inr (locking n ha (.t ne) rfl fun od => ⟨Itkt a od kv, it_keysT n upd_same (ra.sim (sim_lock ha (.t ne))), fun R hR => ⟨_, e3, a, od, rfl, .inr ⟨_, upd_same, hR⟩⟩⟩)
        · refine .inl ⟨_, e3, a, o, rfl, .inr ⟨kv, ha, ?_⟩⟩
          exact comp_walk hg en hn (it_keysT n ha ra) sa' sm h2 q
    · cases h
  | _ => cases h1
end
section
variable {X : Cx} {Φ : Nat → List PyData → Option (PyData × List PyData)} {gl : List PyData}
theorem e_compK {elt tg : Expr} {ifs : List Expr} {scope : Scope} {own : List (Str × Nat)} {pos p : Pos} {vs : List Nat} {g : G} {i : Nat} {x : Str} {c e : E} (hc : X.calm = true) (hN : X.N.Nodup) (hx : X.N[i]? = some x) (hv : Vis X.env.scope x) (ok : BlkOk X.N X.env.scope scope own) (hvs : own.map (·.2) = vs) (hgv : ∀ i, i ∈ gv g → i ∈ vs)
    (hg : ∀ (s : Shared) (H : Hp) (C : Addr) (cl : List (Str × Addr)) (fp : List Addr), PGv (X.blk s H scope (compEnvC scope cl C X.env) fp) tg g) (ht : ∀ (s : Shared) (H : Hp) (C : Addr) (cl : List (Str × Addr)) (fp : List Addr), PTsv (X.blk s H scope (compEnvC scope cl C X.env) fp) Φ gl ifs c)
    (he : ∀ (s : Shared) (H : Hp) (C : Addr) (cl : List (Str × Addr)) (fp : List Addr), PEv (X.blk s H scope (compEnvC scope cl C X.env) fp) Φ gl elt e) (hd : (x == ("__debug__" : Str)) = false := by decide) (hcd : (x == ("__classdict__" : Str)) = false := by decide) (hs : ∀ z, foldedSetIterable (.Name x p) X.env z = pure z := by intro _; rfl) :
    PEv X Φ gl (.ListComp elt [⟨tg, .Name x p, ifs, 0⟩] scope pos) (.comp vs g (.dk i) c e) := by
  have h := pe_lc (pos := pos) (g := tG X.K g) (tt := tT X.K Φ gl c) (te := tE X.K Φ gl e) hc hN (pi_keys (tg := tg) (pe_var (pos := p) hx hv hd hcd)) ok hg ht he hs
  have h2 := pe_lock h
  refine ⟨fun pins s σ H Q I w => ?_⟩
  subst hvs
  rcases compK_core hgv w with w | w
  · exact h.run pins s σ H Q I w
  · exact h2.run pins s σ H Q I w
end
end PP

/-! PP10: statements. -/
namespace PP
open PySem PySem.Spec PyProof.Rows L2 RZ

/-- fixed through a def's run: Z hidden from the start, W what may be changed of what was there, H0 the heap at the start, io the changed parameters -/
structure Bs where
  Z : Addr → Prop
  W : Addr → Prop
  H0 : Hp
  io : List (Nat × Addr)
abbrev frO (B : Bs) (P : Addr → Prop) (O : List Nat) : Fr := ⟨B.Z, P, O, [], []⟩
structure EnvS (K : PySem.W.Frag) (B : Bs) (P : Addr → Prop) (O : List Nat) (ρ : PEnv) (σ : L2.St) (H : Hp) : Prop where
  env : EnvOk K (frO B P O) ρ σ H
  hid : ∀ a, P a → B.Z a ∨ B.W a ∨ B.H0 a = none
  keep : Keep B.W B.H0 H
  io : ∀ p, p ∈ B.io → p.1 ∈ O → σ[p.1]? = some (some (V.ref p.2))
def ES (K : PySem.W.Frag) (B : Bs) (ρ : PEnv) (σ : L2.St) (H : Hp) : Prop := ∃ P O, EnvS K B P O ρ σ H
/-- what a value is that has come: new ones are nobody's -/
structure Got (K : PySem.W.Frag) (B : Bs) (P : Addr → Prop) (O : List Nat) (σ : L2.St) (H : Hp) (v : V) (d : PyData) (f : Fl) : Prop where
  rp : f = .sh → Rp K H P v d
  fr : f = .fr → ∃ a, v = .ref a ∧ P a ∧ B.H0 a = none ∧ ¬ B.Z a ∧ (∀ j, j ∈ O → σ[j]? ≠ some (some (V.ref a))) ∧ Own K H P a d
section
variable {K : PySem.W.Frag} {Φ : Nat → List PyData → Option (PyData × List PyData)} {gl : List PyData} {B : Bs} {P : Addr → Prop} {O : List Nat} {ρ ρ1 ρ2 : PEnv} {σ : L2.St} {H H1 : Hp}
theorem Own.tracked {a : Addr} {d : PyData} (o : Own K H P a d) : H a ≠ none := fun z => by
  obtain ⟨u, e, _⟩ := o.there
  rw [z] at e; cases e
theorem EnvS.at (s : EnvS K B P O ρ σ H) {i : Nat} (hi : i ∈ O) : ∃ a d, σ[i]? = some (some (V.ref a)) ∧ ρ[i]? = some (.ow d) ∧ P a ∧ ¬ B.Z a ∧ Own K H P a d := by
  obtain ⟨d, hd⟩ := s.env.shape i hi
  obtain ⟨_, a, e, o⟩ := s.env.ow i d hd
  obtain ⟨b, e2, h1, h2⟩ := s.env.adr i hi
  rw [e] at e2; cases e2
  exact ⟨a, d, e, hd, h1.mpr (by simp), h2, o⟩
/-- the frame of an expression -/
def frE (B : Bs) (P : Addr → Prop) (O : List Nat) (σ : L2.St) (as ms : List Nat) : Fr := ⟨B.Z, fun a => P a ∧ ¬ ∃ i, i ∈ O ∧ i ∈ as ∧ σ[i]? = some (some (V.ref a)), O, as, ms⟩
theorem EnvS.open' (s : EnvS K B P O ρ σ H) {as ms : List Nat} (h : okM ρ as ms = true) : EnvOk K (frE B P O σ as ms) ρ σ H := by
  unfold okM at h
  rw [Bool.and_eq_true] at h
  obtain ⟨h1, h2⟩ := h
  have x : Ext P (frE B P O σ as ms).P H H := .less fun a z => z.1
  refine ⟨fun i hi => ?_, s.env.inj, fun a z => ⟨s.env.zp a z, fun ⟨i, hi, _, e⟩ => ?_⟩, fun i hi => ?_, s.env.shape, fun i d e => ?_, fun i d e => ?_, fun a z => s.env.there a z.1, fun hk i d hi e => ?_, s.env.len⟩
  · obtain ⟨a, d, e1, e2, p1, p2, o⟩ := s.at hi
    refine ⟨a, e1, ⟨fun z hA => z.2 ⟨i, hi, hA, e1⟩, fun z => ⟨p1, fun ⟨j, hj, hA, e⟩ => ?_⟩⟩, p2⟩
    have := s.env.inj i j a hi hj e1 e
    subst this
    exact z hA
  · obtain ⟨a', d, e1, e2, p1, p2, o⟩ := s.at hi
    rw [e] at e1; cases e1
    exact p2 z
  · have := List.all_eq_true.mp h1 i hi
    rw [Bool.and_eq_true] at this
    obtain ⟨q1, q2⟩ := this
    unfold isOwn at q1
    split at q1
    · rename_i d e
      exact ⟨(s.env.ow i d e).1, show i ∉ as by simpa using q2⟩
    · cases q1
  · obtain ⟨hi, a, e2, o⟩ := s.env.ow i d e
    exact ⟨hi, a, e2, o.ext x fun _ z => z⟩
  · obtain ⟨v, e2, r⟩ := s.env.fz i d e
    exact ⟨v, e2, r.ext x⟩
  · have hk : lkM ∈ as := hk
    have hk' : as.contains lkM = true := by simpa using hk
    rw [hk', Bool.not_true, Bool.false_or] at h2
    have := List.all_eq_true.mp h2 i hi
    rw [e] at this
    exact this
theorem frz1_get {ρ : PEnv} {i j : Nat} : (match ρ[i]? with | some (Sl.ow d) => ρ.set i (.fz d) | _ => ρ)[j]? = if j = i then (ρ[j]?).map frzS else ρ[j]? := by
  by_cases z : j = i
  · subst z
    rw [if_pos rfl]
    cases e : ρ[j]? with
    | none => simp [e]
    | some s =>
      cases s with
      | ow d =>
        have hl := (List.getElem?_eq_some_iff.mp e).1
        simp [List.getElem?_set_self hl, frzS]
      | no => simp [e, frzS]
      | fz d => simp [e, frzS]
  · rw [if_neg z]
    split
    · rw [List.getElem?_set_ne fun h => z h.symm]
    · rfl
theorem frz_get : ∀ {is : List Nat} {ρ : PEnv} {j : Nat}, (frz ρ is)[j]? = if j ∈ is then (ρ[j]?).map frzS else ρ[j]?
  | [], ρ, j => by simp [frz]
  | i :: is, ρ, j => by
    have e : frz ρ (i :: is) = frz (match ρ[i]? with | some (Sl.ow d) => ρ.set i (.fz d) | _ => ρ) is := rfl
    rw [e, frz_get, frz1_get]
    by_cases z : j = i
    · subst z
      simp only [if_true, List.mem_cons, true_or]
      split
      · cases ρ[j]? with
        | none => rfl
        | some s => cases s <;> rfl
      · rfl
    · rw [if_neg z]
      simp only [List.mem_cons, z, false_or]
theorem frz_len : ∀ {is : List Nat} {ρ : PEnv}, (frz ρ is).length = ρ.length
  | [], ρ => rfl
  | i :: is, ρ => by
    have e : frz ρ (i :: is) = frz (match ρ[i]? with | some (Sl.ow d) => ρ.set i (.fz d) | _ => ρ) is := rfl
    rw [e, frz_len]
    split <;> simp
/-- what was read as it stands is no longer one's own -/
def Fr.froz (F : Fr) : Fr := ⟨F.Z, F.P, F.O.filter fun i => !F.A.contains i, [], []⟩
theorem EnvOk.froz {F : Fr} (en : EnvOk K F ρ σ H) : EnvOk K F.froz (frz ρ F.A) σ H := by
  have mem : ∀ {i}, i ∈ F.froz.O ↔ i ∈ F.O ∧ i ∉ F.A := fun {i} => by unfold Fr.froz; simp
  refine ⟨fun i hi => ?_, fun i j a hi hj => en.inj i j a (mem.mp hi).1 (mem.mp hj).1, en.zp, fun i z => by unfold Fr.froz at z; simp at z, fun i hi => ?_, fun i d e => ?_, fun i d e => ?_, en.there, fun z => by unfold Fr.froz at z; simp at z, by rw [frz_len]; exact en.len⟩
  · obtain ⟨h1, h2⟩ := mem.mp hi
    obtain ⟨a, e, p, n⟩ := en.adr i h1
    exact ⟨a, e, ⟨fun _ z => by unfold Fr.froz at z; simp at z, fun _ => p.mpr h2⟩, n⟩
  · obtain ⟨h1, h2⟩ := mem.mp hi
    rw [frz_get, if_neg h2]
    exact en.shape i h1
  · rw [frz_get] at e
    split at e
    · obtain ⟨y, _, e2⟩ := Option.map_eq_some_iff.mp e
      cases y <;> simp [frzS] at e2
    · rename_i hA
      obtain ⟨hi, r⟩ := en.ow i d e
      exact ⟨mem.mpr ⟨hi, hA⟩, r⟩
  · rw [frz_get] at e
    split at e
    · rename_i hA
      obtain ⟨y, e1, e2⟩ := Option.map_eq_some_iff.mp e
      cases y with
      | no => simp [frzS] at e2
      | fz d2 => simp only [frzS, Sl.fz.injEq] at e2; subst e2; exact en.fz i _ e1
      | ow d2 =>
        simp only [frzS, Sl.fz.injEq] at e2
        subst e2
        obtain ⟨hi, a, e3, o⟩ := en.ow i _ e1
        obtain ⟨b, e4, p, _⟩ := en.adr i hi
        rw [e3] at e4; cases e4
        exact ⟨_, e3, o.rp fun z => p.mp z hA⟩
    · exact en.fz i d e

/-- behind an expression of a statement -/
theorem after {as ms : List Nat} {b : Bool} (s : EnvS K B P O ρ σ H) (ok : okM ρ as ms = true) (en : EnvOk K (frE B P O σ as ms) ρ1 σ H1) (k : Keep (Wr σ ms) H H1) (e2 : ρ2 = frzIf ρ ρ1 as ms b) :
    ∃ P2 O2, EnvS K B P2 O2 ρ2 σ H1 ∧ (∀ a, P2 a → P a) ∧ (∀ i, i ∈ O2 → i ∈ O) ∧ (∀ a, P a → (∀ j, j ∈ O → σ[j]? ≠ some (some (V.ref a))) → P2 a) ∧ (∀ v d, ((b && ms.isEmpty) = true → immD d = true) → Rp K H1 (frE B P O σ as ms).P v d → Rp K H1 P2 v d) ∧
      ∀ a d, H a = none → ((b && ms.isEmpty) = true → immTop d = true) → Own K H1 (fun b => (frE B P O σ as ms).P b ∨ b = a) a d → EnvOk K ((frE B P O σ as ms).plus a) ρ1 σ H1 → Own K H1 (fun b => P2 b ∨ b = a) a d ∧ EnvOk K ((frO B P2 O2).plus a) ρ2 σ H1 := by
  have en0 := s.open' ok
  have kW : Keep B.W B.H0 H1 := ⟨fun a o e n => k.keep a o (s.keep.keep a o e n) fun z => ?_, fun a xs e => k.tups a xs (s.keep.tups a xs e), fun a e => s.keep.gone a (k.gone a e)⟩
  · unfold frzIf at e2
    split at e2
    · rename_i hb
      subst e2
      have hm : ms = [] := by
        rw [Bool.and_eq_true] at hb
        exact List.isEmpty_iff.mp hb.2
      have g : ∀ a o, H a = some o → H1 a = some o := k.all fun a ⟨i, hi, _⟩ => by rw [hm] at hi; simp at hi
      have ht : ∀ a xs, H1 a = some (.tup xs) → H1 a = some (.tup xs) := fun _ _ z => z
      refine ⟨P, O, ⟨s.env.grow g, s.hid, kW, s.io⟩, fun _ z => z, fun _ z => z, fun _ z _ => z, fun v d hi r => r.imm ht (hi hb), fun a d ha hi o _ => ?_⟩
      have o' : Own K H1 (fun b => P b ∨ b = a) a d := o.imm ht (fun _ z => z) (hi hb)
      exact ⟨o', s.env.hideG ha g (let ⟨u, hu, _⟩ := o'.there; ⟨u, hu⟩)⟩
    · rename_i hb
      subst e2
      refine ⟨(frE B P O σ as ms).P, _, ⟨en.froz, fun a z => s.hid a z.1, kW, fun p hp hi => s.io p hp ?_⟩, fun a z => z.1, fun i hi => ?_, fun a z n => ⟨z, fun ⟨i, hi, _, e⟩ => n i hi e⟩, fun v d _ r => r, fun a d _ _ o en2 => ⟨o, en2.froz⟩⟩
      · exact (List.mem_filter.mp hi).1
      · exact (List.mem_filter.mp hi).1
  · obtain ⟨i, hi, e1⟩ := z
    have := en0.mo i hi
    obtain ⟨a', d, e3, _, p1, p2, o⟩ := s.at this.1
    rw [e1] at e3; cases e3
    rcases s.hid _ p1 with z | z | z
    · exact p2 z
    · exact n z
    · rw [z] at e; cases e
/-- from one point of a def's run to another, the slots as they were -/
structure Mv (P : Addr → Prop) (O : List Nat) (P2 : Addr → Prop) (O2 : List Nat) (σ : L2.St) (H H1 : Hp) : Prop where
  ext : Ext P P2 H H1
  hid : ∀ a, P a → (∀ j, j ∈ O → σ[j]? ≠ some (some (V.ref a))) → P2 a
  own : ∀ a o, H a = some o → (∀ j, j ∈ O → σ[j]? ≠ some (some (V.ref a))) → H1 a = some o
  sub : ∀ i, i ∈ O2 → i ∈ O
  gone : ∀ a, H1 a = none → H a = none
theorem Mv.refl : Mv P O P O σ H H := ⟨.refl, fun _ z _ => z, fun _ _ z _ => z, fun _ z => z, fun _ z => z⟩
theorem Mv.trans {P2 P3 : Addr → Prop} {O2 O3 : List Nat} {H2 : Hp} (a : Mv P O P2 O2 σ H H1) (b : Mv P2 O2 P3 O3 σ H1 H2) : Mv P O P3 O3 σ H H2 where
  ext := ⟨fun x o e n => b.ext.keep x o (a.ext.keep x o e n) fun z => (a.ext.sub x z).elim n fun z => (by rw [e] at z; cases z), fun x xs e => b.ext.tups x xs (a.ext.tups x xs e), fun x z => (b.ext.sub x z).elim (a.ext.sub x) fun z => .inr (a.gone x z)⟩
  hid := fun x p n => b.hid x (a.hid x p n) fun j hj => n j (a.sub j hj)
  own := fun x o e n => b.own x o (a.own x o e n) fun j hj => n j (a.sub j hj)
  sub := fun i z => a.sub i (b.sub i z)
  gone := fun x z => a.gone x (b.gone x z)
theorem Got.mv {P2 : Addr → Prop} {O2 : List Nat} {v : V} {d : PyData} {f : Fl} (q : Got K B P O σ H v d f) (m : Mv P O P2 O2 σ H H1) : Got K B P2 O2 σ H1 v d f :=
  ⟨fun z => (q.rp z).ext m.ext, fun z => let ⟨a, e, p, h0, nz, n, o⟩ := q.fr z; ⟨a, e, m.hid a p n, h0, nz, fun j hj => n j (m.sub j hj), o.ext m.ext fun u hu => m.own a u hu n⟩⟩
theorem evE_ok {e : E} {d : PyData} {f : Fl} (s : EnvS K B P O ρ σ H) (h : evE Φ gl e ρ = some (d, f, ρ2)) {Q : VK}
    (q : ∀ v H1 P2 O2, EnvS K B P2 O2 ρ2 σ H1 → Mv P O P2 O2 σ H H1 → Rp K H1 P2 v d → (f = .fr → ∃ a, v = .ref a ∧ H a = none ∧ Own K H1 (fun b => P2 b ∨ b = a) a d ∧ EnvS K B (fun b => P2 b ∨ b = a) O2 ρ2 σ H1) → Q v H1) : tE K Φ gl e σ H Q := by
  unfold evE at h
  split at h
  · rename_i ok
    obtain ⟨⟨d', f', ρ1⟩, h1, h⟩ := bind_some h
    cases h
    have en0 := s.open' ok
    refine ⟨frE B P O σ (als e) (mods e), ρ, d, f, ρ1, en0, fun i z => z, fun i z => z, h1, fun v H1 en1 k1 r1 => ?_⟩
    obtain ⟨P2, O2, s2, hp, ho, hh, hr, hw⟩ := after s ok en1 k1 rfl
    have m : Mv P O P2 O2 σ H H1 := ⟨⟨fun a o e n => k1.keep a o e fun z => n (en0.wr z).1, k1.tups, fun a z => .inl (hp a z)⟩, hh, fun a o e n => k1.keep a o e fun ⟨i, hi, z⟩ => n i (en0.mo i hi).1 z, ho, k1.gone⟩
    refine q v H1 P2 O2 s2 m ?_ fun z => ?_
    · cases f with
      | sh => exact hr v d (fun z => by rw [Bool.and_eq_true] at z; exact z.1) r1.rp
      | fr =>
        obtain ⟨a, e1, e2, o, en3⟩ := r1.fr rfl
        obtain ⟨o', _⟩ := hw a d e2 (fun z => by rw [Bool.and_eq_true] at z; exact z.1) o en3
        subst e1
        refine (o'.ext (Ext.less fun b z => .inl z) fun _ z => z).rp fun z => ?_
        obtain ⟨u, z⟩ := s.env.there a (hp a z)
        rw [e2] at z; cases z
    · subst z
      obtain ⟨a, e1, e2, o, en3⟩ := r1.fr rfl
      obtain ⟨o', en4⟩ := hw a d e2 (fun z => by rw [Bool.and_eq_true] at z; exact z.1) o en3
      exact ⟨a, e1, e2, o', en4, fun b z => z.elim (s2.hid b) fun z => .inr (.inr (by rw [z]; exact s.keep.gone a e2)), s2.keep, s2.io⟩
  · cases h
/-- .. the value nobody's, where it is new -/
theorem evE_got {e : E} {d : PyData} {f : Fl} (s : EnvS K B P O ρ σ H) (h : evE Φ gl e ρ = some (d, f, ρ2)) {Q : VK}
    (q : ∀ v H1 P2 O2, EnvS K B P2 O2 ρ2 σ H1 → Mv P O P2 O2 σ H H1 → Got K B P2 O2 σ H1 v d f → (f = .fr → ∃ a, v = .ref a ∧ H a = none) → Q v H1) : tE K Φ gl e σ H Q :=
  evE_ok s h fun v H1 P2 O2 s2 m r w => by
    cases f with
    | sh => exact q v H1 P2 O2 s2 m ⟨fun _ => r, (fun z => nomatch z)⟩ (fun z => nomatch z)
    | fr =>
      obtain ⟨a, e1, e2, o, s3⟩ := w rfl
      have nz : ¬ B.Z a := fun z => by
        obtain ⟨u, z⟩ := s.env.there a (s.env.zp a z)
        rw [e2] at z; cases z
      have no : ∀ j, j ∈ O2 → σ[j]? ≠ some (some (V.ref a)) := fun j hj z => by
        obtain ⟨b, d2, e3, _, _, _, o2⟩ := s.at (m.sub j hj)
        rw [z] at e3; cases e3
        exact o2.tracked e2
      have x : Ext P (fun b => P2 b ∨ b = a) H H1 := ⟨m.ext.keep, m.ext.tups, fun b z => z.elim (m.ext.sub b) fun z => .inr (by rw [z]; exact e2)⟩
      exact q v H1 _ O2 s3 ⟨x, fun b p n => .inl (m.hid b p n), m.own, m.sub, m.gone⟩ ⟨(fun z => nomatch z), fun _ => ⟨a, e1, .inr rfl, s.keep.gone a e2, nz, no, o⟩⟩ fun _ => ⟨a, e1, e2⟩
theorem evT_ok {e : E} {b : Bool} (s : EnvS K B P O ρ σ H) (h : evT Φ gl e ρ = some (b, ρ2)) {Q : Bool → Hp → Prop} (q : ∀ H1, ES K B ρ2 σ H1 → Q b H1) : tT K Φ gl e σ H Q := by
  unfold evT at h
  obtain ⟨⟨d, f, ρ3⟩, h1, h⟩ := bind_some h
  unfold evE at h1
  split at h1
  · rename_i ok
    obtain ⟨⟨d', f', ρ1⟩, h2, h1⟩ := bind_some h1
    cases h1
    cases d with
    | bool b' =>
      cases h
      have en0 := s.open' ok
      refine ⟨frE B P O σ (als e) (mods e), ρ, b, f, ρ1, en0, fun i z => z, fun i z => z, h2, fun H1 en1 k1 => ?_⟩
      obtain ⟨P2, O2, s2, _⟩ := after s ok en1 k1 rfl
      exact q H1 ⟨P2, O2, s2⟩
    | _ => cases h
  · cases h1
theorem evIt_ok {it : I} {ds : List PyData} {ρ2 : PEnv} (s : EnvS K B P O ρ σ H) (h : evIt Φ gl it ρ = some (ds, ρ2)) {Q : It → Hp → Prop} (q : ∀ J H1 P2 O2, EnvS K B P2 O2 ρ2 σ H1 → ItOk K P2 J H1 ds → Q J H1) : tI K Φ gl it σ H Q := by
  unfold evIt at h
  split at h
  · rename_i ok
    obtain ⟨⟨ds', ρ1⟩, h2, h⟩ := bind_some h
    simp only [Option.pure_def, Option.some.injEq, Prod.mk.injEq] at h
    obtain ⟨hd, e2⟩ := h
    subst hd
    have en0 := s.open' ok
    refine ⟨frE B P O σ (alsI it) (modsI it), ρ, ds', ρ1, en0, fun i z => z, fun i z => z, h2, fun J H1 en1 k1 w => ?_⟩
    have key : ∀ b, ρ2 = frzIf ρ ρ1 (alsI it) (modsI it) b → (b = false ∨ ∃ es, it = .rng es) → Q J H1 := fun b e hb => by
      have hP : ∃ P2 O2, EnvS K B P2 O2 ρ2 σ H1 ∧ (P2 = (frE B P O σ (alsI it) (modsI it)).P ∨ ∃ es, it = .rng es) := by
        rcases hb with hb | hb
        · subst hb
          subst e
          refine ⟨_, _, ⟨en1.froz, fun a z => s.hid a z.1, ?_, fun p hp hi => s.io p hp (List.mem_filter.mp hi).1⟩, .inl rfl⟩
          obtain ⟨P2, O2, s2, _⟩ := after (b := false) s ok en1 k1 rfl
          exact s2.keep
        · obtain ⟨P2, O2, s2, _⟩ := after s ok en1 k1 e
          exact ⟨P2, O2, s2, .inr hb⟩
      obtain ⟨P2, O2, s2, e | ⟨es, e⟩⟩ := hP
      · subst e
        exact q J H1 _ O2 s2 (itP_ok w)
      · subst e
        exact q J H1 P2 O2 s2 fun i P' H2 x => w i P' H2 ⟨fun a o _ n => absurd trivial n, x.tups, fun a _ => .inl trivial⟩
    cases it with
    | rng es => exact key true e2.symm (.inr ⟨es, rfl⟩)
    | _ => exact key false e2.symm (.inl rfl)
  · cases h
end
end PP

/-! PP11: statements: stores, blocks, loops. -/
namespace PP
open PySem PySem.Spec PyProof.Rows L2 RZ
section
variable {K : PySem.W.Frag} {Φ : Nat → List PyData → Option (PyData × List PyData)} {gl : List PyData} {B : Bs} {P : Addr → Prop} {O : List Nat} {ρ ρ1 ρ2 : PEnv} {σ : L2.St} {H H1 : Hp}
theorem EnvS.setSh (s : EnvS K B P O ρ σ H) {i : Nat} {v : V} {d : PyData} (hl : i < ρ.length) (r : Rp K H P v d) : EnvS K B P (O.filter fun j => !([i] : List Nat).contains j) (ρ.set i (.fz d)) (σ.set i (some v)) H := by
  refine ⟨s.env.setFz (by simp) hl r, s.hid, s.keep, fun p hp hi => ?_⟩
  obtain ⟨h1, h2⟩ := List.mem_filter.mp hi
  rw [List.getElem?_set_ne fun z => by simp [z] at h2]
  exact s.io p hp h1
theorem EnvS.setOw (s : EnvS K B P O ρ σ H) {i : Nat} {a : Addr} {d : PyData} (hl : i < ρ.length) (hio : i ∉ B.io.map (·.1)) (hp : P a) (nz : ¬ B.Z a) (no : ∀ j, j ∈ O → σ[j]? ≠ some (some (V.ref a))) (o : Own K H P a d) :
    EnvS K B P (i :: O.filter fun j => !([i] : List Nat).contains j) (ρ.set i (.ow d)) (σ.set i (some (.ref a))) H := by
  have hs : i < σ.length := by rw [← s.env.len]; exact hl
  have off : ∀ j, j ≠ i → (σ.set i (some (V.ref a)))[j]? = σ[j]? := fun j hj => List.getElem?_set_ne fun z => hj z.symm
  have offr : ∀ j, j ≠ i → (ρ.set i (.ow d))[j]? = ρ[j]? := fun j hj => List.getElem?_set_ne fun z => hj z.symm
  have mem : ∀ {j}, j ∈ (i :: O.filter fun j => !([i] : List Nat).contains j) → j = i ∨ (j ∈ O ∧ j ≠ i) := fun {j} hj => by
    rcases List.mem_cons.mp hj with z | z
    · exact .inl z
    · obtain ⟨h1, h2⟩ := List.mem_filter.mp z
      exact .inr ⟨h1, fun z => by simp [z] at h2⟩
  have mem' : ∀ {j}, j ∈ O → j ≠ i → j ∈ (i :: O.filter fun j => !([i] : List Nat).contains j) := fun {j} hj n => List.mem_cons_of_mem _ (List.mem_filter.mpr ⟨hj, by simp [n]⟩)
  have get : (σ.set i (some (V.ref a)))[i]? = some (some (V.ref a)) := List.getElem?_set_self hs
  refine ⟨⟨fun j hj => ?_, fun j k b hj hk e1 e2 => ?_, s.env.zp, fun j hj => by simp at hj, fun j hj => ?_, fun j d2 e => ?_, fun j d2 e => ?_, s.env.there, fun hk => by simp at hk, by rw [List.length_set, List.length_set]; exact s.env.len⟩, s.hid, s.keep, fun p hpp hi => ?_⟩
  · rcases mem hj with z | ⟨h1, h2⟩
    · subst z
      exact ⟨a, get, ⟨fun _ z => by simp at z, fun _ => hp⟩, nz⟩
    · rw [off j h2]
      exact s.env.adr j h1
  · rcases mem hj with z | ⟨h1, h2⟩
    · rcases mem hk with z2 | ⟨h3, h4⟩
      · rw [z, z2]
      · rw [off k h4] at e2
        subst z
        rw [get] at e1; cases e1
        exact absurd e2 (no k h3)
    · rw [off j h2] at e1
      rcases mem hk with z2 | ⟨h3, h4⟩
      · subst z2
        rw [get] at e2; cases e2
        exact absurd e1 (no j h1)
      · rw [off k h4] at e2
        exact s.env.inj j k b h1 h3 e1 e2
  · rcases mem hj with z | ⟨h1, h2⟩
    · subst z; exact ⟨d, List.getElem?_set_self hl⟩
    · rw [offr j h2]
      exact s.env.shape j h1
  · by_cases z : j = i
    · subst z
      rw [List.getElem?_set_self hl] at e
      cases e
      exact ⟨List.mem_cons_self .., a, get, o⟩
    · rw [offr j z] at e
      obtain ⟨h1, b, e2, o2⟩ := s.env.ow j d2 e
      exact ⟨mem' h1 z, b, by rw [off j z]; exact e2, o2⟩
  · by_cases z : j = i
    · subst z
      rw [List.getElem?_set_self hl] at e
      cases e
    · rw [offr j z] at e
      rw [off j z]
      exact s.env.fz j d2 e
  · rcases mem hi with z | ⟨h1, h2⟩
    · exact absurd (List.mem_map.mpr ⟨p, hpp, z⟩) hio
    · rw [off p.1 h2]
      exact s.io p hpp h1
/-- a value is stored -/
theorem EnvS.store (s : EnvS K B P O ρ σ H) {i : Nat} {v : V} {d : PyData} {f : Fl} (hl : i < ρ.length) (hio : i ∉ B.io.map (·.1)) (g : Got K B P O σ H v d f) : ∃ O', EnvS K B P O' (setF ρ i d f) (σ.set i (some v)) H ∧ ∀ j, j ∈ O' → (j = i ∧ f = .fr) ∨ (j ∈ O ∧ j ≠ i) := by
  cases f with
  | sh => exact ⟨_, s.setSh hl (g.rp rfl), fun j hj => .inr ⟨(List.mem_filter.mp hj).1, fun z => by have := (List.mem_filter.mp hj).2; simp [z] at this⟩⟩
  | fr =>
    obtain ⟨a, e, hp, h0, nz, no, o⟩ := g.fr rfl
    subst e
    refine ⟨_, s.setOw hl hio hp nz no o, fun j hj => ?_⟩
    rcases List.mem_cons.mp hj with z | z
    · exact .inl ⟨z, rfl⟩
    · exact .inr ⟨(List.mem_filter.mp z).1, fun z2 => by have := (List.mem_filter.mp z).2; simp [z2] at this⟩
/-- slots forgotten, what they hold left alone -/
theorem EnvS.forget (s : EnvS K B P O ρ σ H) (vs : List Nat) : EnvS K B P (O.filter fun j => !vs.contains j) (wipeP ρ vs) σ H := by
  have mem : ∀ {j}, j ∈ (O.filter fun j => !vs.contains j) → j ∈ O ∧ j ∉ vs := fun {j} hj => by simpa using hj
  refine ⟨⟨fun j hj => s.env.adr j (mem hj).1, fun j k b hj hk => s.env.inj j k b (mem hj).1 (mem hk).1, s.env.zp, fun j hj => by simp at hj, fun j hj => ?_, fun j d e => ?_, fun j d e => ?_, s.env.there, fun hk => by simp at hk, by rw [wipeP_len]; exact s.env.len⟩, s.hid, s.keep, fun p hp hi => s.io p hp (mem hi).1⟩
  · rw [wipeP_out (mem hj).2]
    exact s.env.shape j (mem hj).1
  · obtain ⟨e1, e2⟩ := wipeP_some e (by simp)
    obtain ⟨h1, r⟩ := s.env.ow j d e1
    exact ⟨List.mem_filter.mpr ⟨h1, by simp [e2]⟩, r⟩
  · obtain ⟨e1, e2⟩ := wipeP_some e (by simp)
    exact s.env.fz j d e1
theorem EnvS.grow (s : EnvS K B P O ρ σ H) (g : ∀ a o, H a = some o → H1 a = some o) : EnvS K B P O ρ σ H1 := ⟨s.env.grow g, s.hid, s.keep.grow g, s.io⟩
/-- what is one's own changes -/
theorem EnvS.write (s : EnvS K B P O ρ σ H) {i : Nat} {a : Addr} {d' : PyData} {u : HO} (hi : i ∈ O) (ha : σ[i]? = some (some (V.ref a))) (o : Own K (upd H a u) P a d') : EnvS K B P O (ρ.set i (.ow d')) σ (upd H a u) := by
  obtain ⟨b, d, e1, e2, hp, nz, o1⟩ := s.at hi
  rw [ha] at e1; cases e1
  have nt : ∀ x xs, H x = some (.tup xs) → x ≠ a := fun x xs e z => by
    obtain ⟨w, hw, hm⟩ := o1.there
    subst z
    rw [e] at hw; cases hw; exact hm
  have x : Ext P P H (upd H a u) := ⟨fun b w e n => by rw [upd_ne fun z => n (by rw [z]; exact hp)]; exact e, fun b xs e => by rw [upd_ne (nt b xs e)]; exact e, fun _ z => .inl z⟩
  have hl : i < ρ.length := (List.getElem?_eq_some_iff.mp e2).1
  have offr : ∀ j, j ≠ i → (ρ.set i (.ow d'))[j]? = ρ[j]? := fun j hj => List.getElem?_set_ne fun z => hj z.symm
  refine ⟨⟨s.env.adr, s.env.inj, s.env.zp, s.env.mo, fun j hj => ?_, fun j d2 e => ?_, fun j d2 e => ?_, fun b hb => upd_keep b (s.env.there b hb), fun hk => by simp at hk, by rw [List.length_set]; exact s.env.len⟩, s.hid, ⟨fun b w e n => ?_, fun b xs e => x.tups b xs (s.keep.tups b xs e), fun b e => ?_⟩, s.io⟩
  · by_cases z : j = i
    · subst z; exact ⟨d', List.getElem?_set_self hl⟩
    · rw [offr j z]; exact s.env.shape j hj
  · by_cases z : j = i
    · subst z
      rw [List.getElem?_set_self hl] at e; cases e
      exact ⟨hi, a, ha, o⟩
    · rw [offr j z] at e
      obtain ⟨h1, b, e3, o2⟩ := s.env.ow j d2 e
      refine ⟨h1, b, e3, o2.ext x fun w hw => ?_⟩
      rw [upd_ne fun z2 => z (s.env.inj j i a h1 hi (by rw [e3, z2]) ha)]
      exact hw
  · by_cases z : j = i
    · subst z
      rw [List.getElem?_set_self hl] at e; cases e
    · rw [offr j z] at e
      obtain ⟨v, e3, r⟩ := s.env.fz j d2 e
      exact ⟨v, e3, r.ext x⟩
  · have := s.keep.keep b w e n
    rw [upd_ne fun z => ?_]
    · exact this
    · subst z
      rcases s.hid _ hp with q | q | q
      · exact nz q
      · exact n q
      · rw [q] at e; cases e
  · refine s.keep.gone b ?_
    cases e5 : H b with
    | none => rfl
    | some w =>
      obtain ⟨w2, e6⟩ := upd_keep (H := H) (a := a) (o := u) b ⟨w, e5⟩
      rw [e6] at e; cases e
theorem EnvS.extA (s : EnvS K B P O ρ σ H) {i : Nat} {a : Addr} {u : HO} (hi : i ∈ O) (ha : σ[i]? = some (some (V.ref a))) : Ext P P H (upd H a u) := by
  obtain ⟨b, d, e1, e2, hp, nz, o1⟩ := s.at hi
  rw [ha] at e1; cases e1
  have nt : ∀ x xs, H x = some (.tup xs) → x ≠ a := fun x xs e z => by
    obtain ⟨w, hw, hm⟩ := o1.there
    subst z
    rw [e] at hw; cases hw; exact hm
  exact ⟨fun b w e n => by rw [upd_ne fun z => n (by rw [z]; exact hp)]; exact e, fun b xs e => by rw [upd_ne (nt b xs e)]; exact e, fun _ z => .inl z⟩

/-! ### the judgement -/
def Post (K : PySem.W.Frag) (B : Bs) : Out → Ends → Prop
  | .nx ρ', D => ∀ σ' H', ES K B ρ' σ' H' → D.nx σ' H'
  | .bk ρ', D => ∀ σ' H', ES K B ρ' σ' H' → D.bk σ' H'
  | .rt d ρ', D => ∀ v σ' H' P O, EnvS K B P O ρ' σ' H' → Rp K H' P v d → D.rt v H'
variable (K Φ gl) (ios : List Nat)
def tS (st : S) : TS := fun D σ H => ∃ B ρ o, B.io.map (·.1) = ios ∧ ES K B ρ σ H ∧ run Φ gl ios st ρ = some o ∧ Post K B o D
def tSs (st : Ss) : TS := fun D σ H => ∃ B ρ o, B.io.map (·.1) = ios ∧ ES K B ρ σ H ∧ runs Φ gl ios st ρ = some o ∧ Post K B o D
end
def PSv (X : Cx) (Φ : Nat → List PyData → Option (PyData × List PyData)) (gl : List PyData) (ios : List Nat) (p : Stmt) (st : S) : Prop := PS X p (tS X.K Φ gl ios st)
def PSsv (X : Cx) (Φ : Nat → List PyData → Option (PyData × List PyData)) (gl : List PyData) (ios : List Nat) (p : List Stmt) (st : Ss) : Prop := PSs X p (tSs X.K Φ gl ios st)
theorem _root_.L2.PS.imp {X : Cx} {p : Stmt} {t t' : TS} (h : PS X p t) (i : ∀ D σ H, t' D σ H → t D σ H) : PS X p t' := ⟨fun pins s σ H D I w => h.run pins s σ H D I (i D σ H w)⟩
theorem _root_.L2.PSs.imp {X : Cx} {p : List Stmt} {t t' : TS} (h : PSs X p t) (i : ∀ D σ H, t' D σ H → t D σ H) : PSs X p t' := ⟨fun pins s σ H D I w => h.run pins s σ H D I (i D σ H w)⟩
section
variable {X : Cx} {Φ : Nat → List PyData → Option (PyData × List PyData)} {gl : List PyData} {ios : List Nat} {pos : Pos}
theorem ss_nil : PSsv X Φ gl ios [] .nil :=
  pss_nil.imp fun D σ H ⟨B, ρ, o, hb, s, h, q⟩ => by
    simp only [runs, Option.some.injEq] at h
    subst h
    exact q σ H s
theorem ss_cons {p : Stmt} {ps : List Stmt} {st : S} {ss : Ss} (h1 : PSv X Φ gl ios p st) (h2 : PSsv X Φ gl ios ps ss) : PSsv X Φ gl ios (p :: ps) (.cons st ss) :=
  (pss_cons h1 h2).imp fun D σ H ⟨B, ρ, o, hb, s, h, q⟩ => by
    simp only [runs] at h
    obtain ⟨o1, h1, h⟩ := bind_some h
    refine ⟨B, ρ, o1, hb, s, h1, ?_⟩
    cases o1 with
    | nx ρ1 => exact fun σ' H' s' => ⟨B, ρ1, o, hb, s', h, q⟩
    | bk ρ1 => cases h; exact q
    | rt d ρ1 => cases h; exact q
/-- a docstring, pass: nothing -/
theorem ss_skip {p : Stmt} {ps : List Stmt} {ss : Ss} (h1 : PS X p tNext) (h2 : PSsv X Φ gl ios ps ss) : PSsv X Φ gl ios (p :: ps) ss :=
  (pss_cons h1 h2).imp fun D σ H w => w
theorem asg_core {K : PySem.W.Frag} {i : Nat} {e : E} {D : Ends} {σ : L2.St} {H : Hp} (w : tS K Φ gl ios (.asg i e) D σ H) : tAsg (tE K Φ gl e) (gName i) D σ H := by
  obtain ⟨B, ρ, o, hb, ⟨P, O, s⟩, h, q⟩ := w
  simp only [run] at h
  obtain ⟨⟨d, f, ρ1⟩, h1, h⟩ := bind_some h
  dsimp only at h
  split at h
  · rename_i hc
    cases h
    rw [Bool.and_eq_true] at hc
    obtain ⟨c1, c2⟩ := hc
    refine evE_got s h1 fun v H1 P2 O2 s2 m g _ => ?_
    obtain ⟨O3, s3, _⟩ := s2.store (i := i) (by rw [s2.env.len, ← s.env.len]; exact of_decide_eq_true c1) (by rw [hb]; simpa using c2) g
    exact q _ _ ⟨P2, O3, s3⟩
  · cases h
theorem s_asg {i : Nat} {x : Str} {p : Expr} {e : E} {pos' : Pos} (hN : X.N.Nodup) (hi : X.N[i]? = some x) (hx : Loc X.env.scope x) (he : PEv X Φ gl p e) (hs : swapsWith p (some (.Name x pos')) pos.line X.env = pure false := by rfl) (hf : X.fn x = true ∨ X.env.scope.names.lookup x = some .local := by first | exact .inl rfl | exact .inr rfl | assumption) :
    PSv X Φ gl ios (.Assign [.Name x pos'] p pos) (.asg i e) := (ps_set hN hi hx he hs hf).imp fun D σ H w => asg_core w
theorem s_asgC {i : Nat} {e : E} {p : Stmt} (h : PS X p (tAsg (tE X.K Φ gl e) (gName i))) : PSv X Φ gl ios p (.asg i e) := h.imp fun D σ H w => asg_core w
theorem s_asgT {tg p : Expr} {g : G} {e : E} (he : PEv X Φ gl p e) (hg : PGv X tg g) (hs : swapsWithSole [tg] p pos.line X.env = pure false := by rfl) (hw : swappedStores [tg] p X.env = pure none := by rfl)
    (h1 : (assignEach [tg] X.env).map (·.2) = [assign tg X.env] := by rfl) : PSv X Φ gl ios (.Assign [tg] p pos) (.asgT g e) :=
  (ps_asg he hg hs hw h1).imp fun D σ H ⟨B, ρ, o, hb, ⟨P, O, s⟩, h, q⟩ => by
    simp only [run] at h
    obtain ⟨⟨d, f, ρ1⟩, h1, h⟩ := bind_some h
    obtain ⟨ρ2, h2, h⟩ := bind_some h
    cases h
    refine evE_ok s h1 fun v H1 P2 O2 s2 m r _ => ⟨_, ρ1, d, ρ2, s2.env, fun i _ z => by simp at z, r, h2, fun σ' en' k => q _ _ ⟨P2, _, en', s2.hid, s2.keep, fun p hp hi => ?_⟩⟩
    obtain ⟨h3, h4⟩ := mem_less.mp hi
    rw [k p.1 h4]
    exact s2.io p hp h3
theorem s_ret {p : Expr} {e : E} (he : PEv X Φ gl p e) : PSv X Φ gl ios (.Return (some p) pos) (.ret e) :=
  (ps_ret he).imp fun D σ H ⟨B, ρ, o, hb, ⟨P, O, s⟩, h, q⟩ => by
    simp only [run] at h
    obtain ⟨⟨d, f, ρ1⟩, h1, h⟩ := bind_some h
    cases h
    exact evE_ok s h1 fun v H1 P2 O2 s2 m r _ => q v _ _ P2 O2 s2 r
theorem s_brk : PSv X Φ gl ios (.Break pos) .brk :=
  ps_break.imp fun D σ H ⟨B, ρ, o, hb, s, h, q⟩ => by
    simp only [run, Option.some.injEq] at h
    subst h
    exact q _ _ s
theorem s_if {c : Expr} {a b : List Stmt} {ec : E} {sa sb : Ss} (hc : PTv X Φ gl c ec) (ha : PSsv X Φ gl ios a sa) (hb : PSsv X Φ gl ios b sb) : PSv X Φ gl ios (.If c a b pos) (.ifs ec sa sb) :=
  (ps_if hc ha hb).imp fun D σ H ⟨B, ρ, o, hb, ⟨P, O, s⟩, h, q⟩ => by
    simp only [run] at h
    obtain ⟨⟨b, ρ1⟩, h1, h⟩ := bind_some h
    refine evT_ok s h1 fun H1 s1 => ?_
    cases b with
    | true => exact ⟨B, ρ1, o, hb, s1, h, q⟩
    | false => exact ⟨B, ρ1, o, hb, s1, h, q⟩
theorem s_while {c : Expr} {a : List Stmt} {ec : E} {sa : Ss} {dead : List Nat} (hp : PassesOwn (model X.prog X.w) X.A X.env X.xe) (hc : PTv X Φ gl c ec) (ha : PSsv X Φ gl ios a sa) : PSv X Φ gl ios (.While c a [] pos) (.whil ec sa dead) :=
  (ps_while hp hc ha).imp fun D σ H ⟨B, ρ, o, hb, s, h, q⟩ => by
    simp only [run] at h
    refine ⟨fun m σ H => ∃ ρ, ES X.K B ρ σ H ∧ whileL (fun ρ => evT Φ gl ec ρ) (fun ρ => runs Φ gl ios sa ρ) dead m ρ = some o, ⟨1000000, ρ, s, h⟩, ?_⟩
    rintro m σ H ⟨ρ, ⟨P, O, s⟩, h⟩
    cases m with
    | zero => simp [whileL] at h
    | succ m =>
      simp only [whileL] at h
      obtain ⟨⟨b, ρ1⟩, h1, h⟩ := bind_some h
      refine evT_ok (s.forget dead) h1 fun H1 s1 => ?_
      cases b with
      | false =>
        cases h
        exact q _ _ s1
      | true =>
        obtain ⟨o1, h2, h⟩ := bind_some h
        refine ⟨fun σ' H' => ∃ ρ, ES X.K B ρ σ' H' ∧ whileL (fun ρ => evT Φ gl ec ρ) (fun ρ => runs Φ gl ios sa ρ) dead m ρ = some o, fun σ' H' z => ⟨m, Nat.lt_succ_self m, z⟩, B, ρ1, o1, hb, s1, h2, ?_⟩
        cases o1 with
        | nx ρ2 => exact fun σ' H' s' => ⟨ρ2, s', h⟩
        | bk ρ2 =>
          cases h
          exact fun σ' H' ⟨P', O', s'⟩ => q _ _ ⟨P', _, s'.forget dead⟩
        | rt d ρ2 => cases h; exact q
/-- a fresh start within a def's run -/
theorem EnvS.rebase {K : PySem.W.Frag} {B : Bs} {P : Addr → Prop} {O : List Nat} {ρ : PEnv} {σ : L2.St} {H : Hp} (s : EnvS K B P O ρ σ H) : EnvS K ⟨B.Z, fun a => P a ∧ ¬ B.Z a, H, B.io⟩ P O ρ σ H :=
  ⟨s.env, fun a p => by
    by_cases z : B.Z a
    · exact .inl z
    · exact .inr (.inl ⟨p, z⟩), .refl, s.io⟩
theorem EnvS.unbase {K : PySem.W.Frag} {B : Bs} {P P' : Addr → Prop} {O O' : List Nat} {ρ ρ' : PEnv} {σ σ' : L2.St} {H H' : Hp} (s : EnvS K B P O ρ σ H) (s' : EnvS K ⟨B.Z, fun a => P a ∧ ¬ B.Z a, H, B.io⟩ P' O' ρ' σ' H') : EnvS K B P' O' ρ' σ' H' :=
  ⟨s'.env, fun a p => by
    rcases s'.hid a p with z | z | z
    · exact .inl z
    · exact s.hid a z.1
    · exact .inr (.inr (s.keep.gone a z)), ⟨fun a o e n => s'.keep.keep a o (s.keep.keep a o e n) fun z => (by
      rcases s.hid a z.1 with q | q | q
      · exact z.2 q
      · exact n q
      · rw [q] at e; cases e), fun a xs e => s'.keep.tups a xs (s.keep.tups a xs e), fun a e => s.keep.gone a (s'.keep.gone a e)⟩, s'.io⟩
theorem EnvS.extB {K : PySem.W.Frag} {B : Bs} {P P' : Addr → Prop} {O O' : List Nat} {ρ ρ' : PEnv} {σ σ' : L2.St} {H H' : Hp} (s : EnvS K B P O ρ σ H) (s' : EnvS K ⟨B.Z, fun a => P a ∧ ¬ B.Z a, H, B.io⟩ P' O' ρ' σ' H') : Ext P P' H H' :=
  ⟨fun a o e n => s'.keep.keep a o e fun z => n z.1, s'.keep.tups, fun a p => by
    rcases s'.hid a p with z | z | z
    · exact .inl (s.env.zp a z)
    · exact .inl z.1
    · exact .inr z⟩
theorem Post.unbase {K : PySem.W.Frag} {B : Bs} {P : Addr → Prop} {O : List Nat} {ρ : PEnv} {σ : L2.St} {H : Hp} (s : EnvS K B P O ρ σ H) {o : Out} {D : Ends} (q : Post K B o D) : Post K ⟨B.Z, fun a => P a ∧ ¬ B.Z a, H, B.io⟩ o D := by
  cases o with
  | nx ρ' => exact fun σ' H' ⟨P', O', s'⟩ => q _ _ ⟨P', O', s.unbase s'⟩
  | bk ρ' => exact fun σ' H' ⟨P', O', s'⟩ => q _ _ ⟨P', O', s.unbase s'⟩
  | rt d ρ' => exact fun v σ' H' P' O' s' r => q v _ _ P' O' (s.unbase s') r
theorem for_core {K : PySem.W.Frag} {g : G} {sa : Ss} {dead : List Nat} {o : Out} {D : Ends} {B : Bs} {P : Addr → Prop} {O : List Nat} {ρ : PEnv} {σ : L2.St} {H : Hp} {J : It} {ds : List PyData} (hb : B.io.map (·.1) = ios) (s : EnvS K B P O ρ σ H) (ok : ItOk K P J H ds)
    (h : forL (asgG g) (fun ρ => runs Φ gl ios sa ρ) dead ds ρ = some o) (q : Post K B o D) : ∃ W : Nat → Nat → L2.St → Hp → Prop, (∃ m, W 0 m σ H) ∧ ∀ i m σ H, W i m σ H →
    (J.stop i H ∧ D.nx σ H) ∨ (J.go i H ∧ ∃ N : L2.St → Hp → Prop, (∀ σ' H', N σ' H' → ∃ m', m' < m ∧ W (i + 1) m' σ' H') ∧ ∀ x H', J.yld i H x H' → tG K g x σ H' fun σ2 H2 => tSs K Φ gl ios sa { D with nx := N, ct := N, bk := D.nx } σ2 H2) := by
  refine ⟨fun i m σ' H' => m = ds.length - i ∧ i ≤ ds.length ∧ ∃ ρ', ES K ⟨B.Z, fun a => P a ∧ ¬ B.Z a, H, B.io⟩ ρ' σ' H' ∧ forL (asgG g) (fun ρ => runs Φ gl ios sa ρ) dead (ds.drop i) ρ' = some o, ⟨ds.length, by simp, Nat.zero_le _, ρ, ⟨P, O, s.rebase⟩, by simpa using h⟩, ?_⟩
  rintro i m σ' H' ⟨rfl, hi, ρ', ⟨P', O', s'⟩, h⟩
  have x := s.extB s'
  obtain ⟨hstop, hgo⟩ := ok i P' H' x
  have q' := Post.unbase s q
  by_cases hlt : i < ds.length
  · obtain ⟨go, yl⟩ := hgo ds[i] (by simp [hlt])
    rw [List.drop_eq_getElem_cons hlt] at h
    simp only [forL] at h
    obtain ⟨ρ1, h1, h⟩ := bind_some h
    obtain ⟨o1, h2, h⟩ := bind_some h
    refine .inr ⟨go, fun σ2 H2 => ∃ ρ2, ES K ⟨B.Z, fun a => P a ∧ ¬ B.Z a, H, B.io⟩ ρ2 σ2 H2 ∧ forL (asgG g) (fun ρ => runs Φ gl ios sa ρ) dead (ds.drop (i + 1)) ρ2 = some o, fun σ2 H2 ⟨ρ2, z1, z2⟩ => ⟨ds.length - (i + 1), by omega, rfl, hlt, ρ2, z1, z2⟩, fun v H1 hy => ?_⟩
    obtain ⟨g1, r1⟩ := yl v H1 hy
    have s1 := (s'.forget dead).grow g1
    refine ⟨_, _, ds[i], ρ1, s1.env, fun i _ z => by simp at z, r1, h1, fun σ2 en2 k2 => ?_⟩
    refine ⟨⟨B.Z, fun a => P a ∧ ¬ B.Z a, H, B.io⟩, ρ1, o1, hb, ⟨P', _, en2, s1.hid, s1.keep, fun p hp hi => ?_⟩, h2, ?_⟩
    · obtain ⟨h3, h4⟩ := mem_less.mp hi
      rw [k2 p.1 h4]
      exact s1.io p hp h3
    · cases o1 with
      | nx ρ2 => exact fun σ3 H3 s3 => ⟨ρ2, s3, h⟩
      | bk ρ2 =>
        cases h
        exact fun σ3 H3 ⟨P3, O3, s3⟩ => q' _ _ ⟨P3, _, s3.forget dead⟩
      | rt d ρ2 => cases h; exact q'
  · rw [List.drop_eq_nil_of_le (by omega)] at h
    simp only [forL, Option.some.injEq] at h
    subst h
    exact .inl ⟨hstop (by omega), q' _ _ ⟨P', _, s'.forget dead⟩⟩
theorem s_for {tg iter : Expr} {a : List Stmt} {g : G} {it : I} {sa : Ss} {dead : List Nat} (hp : PassesOwn (model X.prog X.w) X.A X.env X.xe) (hc : X.calm = true) (hi : PIv X Φ gl tg iter it) (hg : PGv X tg g) (ha : PSsv X Φ gl ios a sa)
    (hs : ∀ x, foldedSetIterable iter X.env x = pure x := by intro _; rfl) : PSv X Φ gl ios (.For tg iter a [] pos) (.for_ g it sa dead) :=
  (ps_for hp hc hi hg ha hs).imp fun D σ H ⟨B, ρ, o, hb, ⟨P, O, s⟩, h, q⟩ => by
    simp only [run] at h
    obtain ⟨⟨ds, ρ1⟩, h1, h⟩ := bind_some h
    exact evIt_ok s h1 fun J H1 P2 O2 s2 ok => for_core hb s2 ok h q
/-- slots that are only read from here on -/
theorem ss_frz {is : List Nat} {ps : List Stmt} {ss : Ss} (h2 : PSsv X Φ gl ios ps ss) : PSsv X Φ gl ios ps (.cons (.frz is) ss) :=
  PSs.imp h2 fun D σ H ⟨B, ρ, o, hb, ⟨P, O, s⟩, h, q⟩ => by
    simp only [runs, run] at h
    split at h
    · cases h
    · rename_i hk
      simp only [Option.bind_eq_bind, Option.bind_some] at h
      have ok : okM ρ is [] = true := by
        unfold okM
        simp only [List.all_nil, Bool.true_and, Bool.or_eq_true, Bool.not_eq_true']
        exact .inl (by simpa using hk)
      have en := (s.open' ok).froz
      exact ⟨B, _, o, hb, ⟨_, _, ⟨en, fun a z => s.hid a z.1, s.keep, fun p hp hi => s.io p hp (List.mem_filter.mp hi).1⟩⟩, h, q⟩
end
end PP

/-! PP12: statements that change lists and dicts; several stores at once. -/
namespace PP
open PySem PySem.Spec PyProof.Rows L2 RZ
section
variable {K : PySem.W.Frag} {H : Hp} {P : Addr → Prop}
theorem rpT_has {k : List L2.Key} : ∀ {kvs : List (List L2.Key × V)} {ds : List (PyData × PyData)}, RpT K H P kvs ds → (kvs.any fun kv => decide (kv.1 = k)) = dhas ds (.inr k)
  | _, _, .nil => rfl
  | _, _, .cons (k := k') r rs => by
    rw [List.any_cons, rpT_has rs]
    show _ = (decide (dkey (PyData.tuple (k'.map keyPD)) = some (Sum.inr k)) || dhas _ _)
    rw [dkey_t]
    by_cases h : k' = k
    · simp [h]
    · have : ¬ (some (Sum.inr k') : Option DK) = some (Sum.inr k) := fun e => h (Sum.inr.inj (Option.some.inj e))
      simp [h, this]
theorem rpT_map {k : List L2.Key} {v : V} {d : PyData} (r : Rp K H P v d) : ∀ {kvs : List (List L2.Key × V)} {ds : List (PyData × PyData)}, RpT K H P kvs ds →
    RpT K H P (kvs.map fun kv => if kv.1 = k then (kv.1, v) else kv) (ds.map fun p => if dkey p.1 = some (.inr k) then (p.1, d) else p)
  | _, _, .nil => .nil
  | _, _, .cons (k := k') r' rs => by
    have ih := rpT_map r (k := k) rs
    rw [List.map_cons, List.map_cons]
    show RpT K H P _ ((if dkey (PyData.tuple (k'.map keyPD)) = some (Sum.inr k) then _ else _) :: _)
    rw [dkey_t]
    by_cases h : k' = k
    · subst h
      simp only [if_true]
      exact .cons r ih
    · have : ¬ (some (Sum.inr k') : Option DK) = some (Sum.inr k) := fun e => h (Sum.inr.inj (Option.some.inj e))
      simp only [if_neg this, if_neg h]
      exact .cons r' ih
theorem rpT_snoc {k : List L2.Key} {v : V} {d : PyData} (r : Rp K H P v d) : ∀ {kvs : List (List L2.Key × V)} {ds : List (PyData × PyData)}, RpT K H P kvs ds → RpT K H P (kvs ++ [(k, v)]) (ds ++ [(.tuple (k.map keyPD), d)])
  | _, _, .nil => .cons r .nil
  | _, _, .cons r' rs => .cons r' (rpT_snoc r rs)
theorem dput_rpT {k : List L2.Key} {v : V} {d : PyData} (r : Rp K H P v d) {kvs : List (List L2.Key × V)} {ds : List (PyData × PyData)} (rk : RpT K H P kvs ds) : RpT K H P (putK kvs k v) (dput ds (.inr k) (.tuple (k.map keyPD)) d) := by
  unfold putK dput
  rw [rpT_has rk]
  split
  · exact rpT_map r rk
  · exact rpT_snoc r rk
theorem putK_ne {α : Type} [DecidableEq α] {kvs : List (α × V)} {k : α} {v : V} : putK kvs k v ≠ [] := by
  unfold putK
  split
  · rename_i h
    cases kvs with
    | nil => simp at h
    | cons _ _ => simp
  · simp
end
/-- o[i] = v, o one's own -/
def rSt (K : PySem.W.Frag) : TSet := fun o i v H Q => ∃ (P : Addr → Prop) (a : Addr) (d kd dv d' : PyData), o = .ref a ∧ P a ∧ Own K H P a d ∧ Rp K H P i kd ∧ Rp K H P v dv ∧ setV d kd dv = some d' ∧ ∀ u, Own K (upd H a u) P a d' → Q (upd H a u)
section
variable {X : Cx}
theorem own_ext {H : Hp} {P : Addr → Prop} {a : Addr} {u o : HO} (hp : P a) (h : H a = some o) (hm : ∀ xs, o ≠ .tup xs) : Ext P P H (upd H a u) :=
  ⟨fun b w e n => by rw [upd_ne fun z => n (by rw [z]; exact hp)]; exact e, fun b xs e => by rw [upd_ne fun z => by rw [z, h] at e; cases e; exact hm _ rfl]; exact e, fun _ z => .inl z⟩
theorem set_own (hu : X.A.units + 70 < cLine) : PSet X (rSt X.K) := by
  intro pins s σ H o i v ov iv u Q I ro ri rv ⟨P, a, d, kd, dv, d', e, hp, ow, rk, rd, hs, q⟩
  subst e
  cases ow with
  | lst h r =>
    cases kd with
    | int k =>
      simp only [setV] at hs
      obtain ⟨j, ej, ed⟩ := Option.map_eq_some_iff.mp hs
      subst ed
      cases rk
      refine set_list pins s σ H _ _ _ ov iv u Q I ro ri rv ⟨a, _, k, j, rfl, rfl, h, by rw [r.length]; exact ej, q _ (.lst upd_same ((r.set j rd).ext (own_ext hp h fun _ z => nomatch z)))⟩
    | _ => simp [setV] at hs
  | dk h r =>
    simp only [setV] at hs
    obtain ⟨k, ek, hs⟩ := bind_some hs
    split at hs
    · rename_i hf
      rw [Bool.and_eq_true] at hf
      obtain ⟨hf, hz⟩ := hf
      have hz := of_decide_eq_true hz
      cases hs
      cases (show ov = Value.ref a from ro)
      cases k with
      | inl k =>
        have e : kd = keyPD k := dkey_inv ek
        subst e
        have := key_val rk
        subst this
        exact d_setItem (by omega) I (.k h (by rw [r.length]; exact hz)) ri rv fun s' I' => ⟨_, I', q _ (.dk upd_same ((dput_rp rd r).ext (own_ext hp h fun _ z => nomatch z)))⟩
      | inr ks =>
        have e : kd = .tuple (ks.map keyPD) := dkey_inv ek
        subst e
        obtain ⟨rfl, rfl⟩ := fit_k r hf
        cases rk with
        | tup hb rb =>
          rename_i b vs
          rw [keys_val rb] at hb
          have hb' : upd H a (.dT []) b = some (.tup (ks.map kV)) := by
            rw [upd_ne fun z => by rw [z, h] at hb; cases hb]; exact hb
          refine d_setItem (by omega) (to_dT I h) (.t upd_same hb' (Nat.lt_of_le_of_lt (Nat.zero_le _) hz)) ri rv fun s' I' => ⟨_, I', ?_⟩
          rw [upd_upd]
          exact q _ (.dt putK_ne upd_same ((dput_rpT rd .nil).ext (own_ext hp h fun _ z => nomatch z)))
    · cases hs
  | dt n h r =>
    simp only [setV] at hs
    obtain ⟨k, ek, hs⟩ := bind_some hs
    split at hs
    · rename_i hf
      rw [Bool.and_eq_true] at hf
      obtain ⟨hf, hz⟩ := hf
      have hz := of_decide_eq_true hz
      cases hs
      cases (show ov = Value.ref a from ro)
      cases k with
      | inl k => exact absurd (fit_t r hf).1 n
      | inr ks =>
        have e : kd = .tuple (ks.map keyPD) := dkey_inv ek
        subst e
        cases rk with
        | tup hb rb =>
          rename_i b vs
          rw [keys_val rb] at hb
          exact d_setItem (by omega) I (.t h hb (by rw [r.length]; exact hz)) ri rv fun s' I' => ⟨_, I', q _ (.dt putK_ne upd_same ((dput_rpT rd r).ext (own_ext hp h fun _ z => nomatch z)))⟩
    · cases hs
end
section
variable {X : Cx} {Φ : Nat → List PyData → Option (PyData × List PyData)} {gl : List PyData} {ios : List Nat} {pos cpos apos p : Pos}
theorem EnvS.atO {K : PySem.W.Frag} {B : Bs} {P : Addr → Prop} {O : List Nat} {ρ : PEnv} {σ : L2.St} {H : Hp} (s : EnvS K B P O ρ σ H) {i : Nat} {d : PyData} (h : getO ρ i = some d) : i ∈ O ∧ ∃ a, σ[i]? = some (some (V.ref a)) ∧ P a ∧ Own K H P a d := by
  have e := getO_iff h
  obtain ⟨hi, a, e2, o⟩ := s.env.ow i d e
  obtain ⟨b, d2, e3, e4, hp, _, _⟩ := s.at hi
  rw [e2] at e3; cases e3
  exact ⟨hi, a, e2, hp, o⟩
/-- x[k] = e -/
theorem s_setIx {i : Nat} {x : Str} {k e : Expr} {ek ee : E} {pos' : Pos} (hu : X.A.units + 70 < cLine) (hN : X.N[i]? = some x) (hv : Vis X.env.scope x) (hk : PEv X Φ gl k ek) (he : PEv X Φ gl e ee) (hd : (x == ("__debug__" : Str)) = false := by decide) (hcd : (x == ("__classdict__" : Str)) = false := by decide)
    (ha : ∀ v, assign (.Subscript (.Name x p) k pos') X.env v = (do
      let ov ← holding [v] (eval (.Name x p) X.env)
      let iv ← holding [v, ov] (eval k X.env)
      standAt pos'
      holding [v, ov, iv] (setItem ov iv v)
      release [v, ov, iv] []) := by intro _; rfl)
    (hs : swapsWithSole [.Subscript (.Name x p) k pos'] e pos.line X.env = pure false := by rfl) (hw : swappedStores [.Subscript (.Name x p) k pos'] e X.env = pure none := by rfl)
    (h1 : (assignEach [.Subscript (.Name x p) k pos'] X.env).map (·.2) = [assign (.Subscript (.Name x p) k pos') X.env] := by rfl) :
    PSv X Φ gl ios (.Assign [.Subscript (.Name x p) k pos'] e pos) (.setIx i ek ee) :=
  (ps_asg he (pg_sub (pe_var hN hv hd hcd) hk (set_own hu) ha) hs hw h1).imp fun D σ H ⟨B, ρ, o, hb, ⟨P, O, s⟩, h, q⟩ => by
    simp only [run] at h
    obtain ⟨⟨dv, fv, ρ1⟩, h1, h⟩ := bind_some h
    obtain ⟨c0, h2, h⟩ := bind_some h
    obtain ⟨⟨kd, fk, ρ2⟩, h3, h⟩ := bind_some h
    obtain ⟨c, h4, h⟩ := bind_some h
    obtain ⟨d', h5, h⟩ := bind_some h
    cases h
    refine evE_ok s h1 fun v H1 P1 O1 s1 m1 r1 _ => ?_
    obtain ⟨hi1, a, e1, hp1, o1⟩ := s1.atO h2
    refine ⟨_, e1, evE_ok s1 h3 fun kv H2 P2 O2 s2 m2 r2 _ => ?_⟩
    obtain ⟨hi2, a2, e2, hp2, o2⟩ := s2.atO h4
    have : a = a2 := by
      have e1 : σ[i]? = some (some (V.ref a)) := e1
      have e2 : σ[i]? = some (some (V.ref a2)) := e2
      rw [e1] at e2
      injection e2 with e2
      injection e2 with e2
      injection e2
    subst this
    exact ⟨P2, a, c, kd, dv, d', rfl, hp2, o2, r2, r1.ext m2.ext, h5, fun u ou => q _ _ ⟨P2, O2, s2.write hi2 e2 ou⟩⟩
theorem mut_core {K : PySem.W.Frag} {m : String} {i : Nat} {e : E} {D : Ends} {σ : L2.St} {H : Hp} {T : String} {r : V → List V → Hp → VK → Prop} (w : tS K Φ gl ios (.mut m i e) D σ H)
    (hT : ∀ P a d, mKind m d = true → Own K H P a d → tyV K T (.ref a) H)
    (hr : ∀ P H1 a v d dv d', P a → Own K H1 P a d → Rp K H1 P v dv → mutV m d dv = some d' → ∀ Q : VK, (∀ u z, Own K (upd H1 a u) P a d' → Q z (upd H1 a u)) → r (.ref a) [v] H1 Q) :
    tDrop (tBM K T r (tVar i) (tCons (tE K Φ gl e) tNil)) D σ H := by
  obtain ⟨B, ρ, o, hb, ⟨P, O, s⟩, h, q⟩ := w
  simp only [run] at h
  obtain ⟨d0, h0, h⟩ := bind_some h
  split at h
  · rename_i hk
    obtain ⟨⟨dv, fv, ρ1⟩, h1, h⟩ := bind_some h
    obtain ⟨d1, h2, h⟩ := bind_some h
    obtain ⟨d2, h3, h⟩ := bind_some h
    cases h
    obtain ⟨hi, a, e1, hp, o0⟩ := s.atO h0
    refine ⟨_, e1, hT P a d0 hk o0, evE_ok s h1 fun v H1 P1 O1 s1 m1 r1 _ => ?_⟩
    obtain ⟨hi1, a1, e2, hp1, o1⟩ := s1.atO h2
    have : a = a1 := by
      rw [e1] at e2
      injection e2 with e2
      injection e2 with e2
      injection e2
    subst this
    exact hr P1 H1 a v d1 dv d2 hp1 o1 r1 h3 _ fun u z ou => q _ _ ⟨P1, O1, s1.write hi1 e2 ou⟩
  · cases h
theorem ty_list {K : PySem.W.Frag} {H : Hp} (m : String) (hm : m ≠ "update") : ∀ (P : Addr → Prop) a d, mKind m d = true → Own K H P a d → tyV K "list" (.ref a) H := fun P a d hk o => by
  cases o with
  | lst h r => exact .inl ⟨rfl, _, .inl (.inl h)⟩
  | dk h r =>
    exfalso
    unfold mKind at hk
    split at hk <;> first | (exact absurd rfl hm) | (cases hk; done) | (rename_i z; cases z)
  | dt n h r =>
    exfalso
    unfold mKind at hk
    split at hk <;> first | (exact absurd rfl hm) | (cases hk; done) | (rename_i z; cases z)
variable {i : Nat} {x : Str} {e : Expr} {ee : E}
theorem s_append (hN : X.N[i]? = some x) (hv : Vis X.env.scope x) (he : PEv X Φ gl e ee) (hd : (x == ("__debug__" : Str)) = false := by decide) (hcd : (x == ("__classdict__" : Str)) = false := by decide)
    (hbase : attributeBase (.Name x p) "append" X.env (eval (.Name x p) X.env) = eval (.Name x p) X.env := by rfl)
    (hfew : ((backTo cpos (starEach [e] X.env)).all (fun x => !x.1) && (backToKw cpos (keywordEach [] X.env)).all (fun x => x.1.isSome)
      && decide (([e] : List Expr).length + ([] : List Keyword).length + (if ([] : List Keyword).isEmpty then 0 else 1) < 30)) = true := by rfl)
    (hline : (apos.endLine == cpos.line) = true := by rfl) (hs : starEach [e] X.env = (false, eval e X.env) :: starEach [] X.env := by rfl) (hplain : (backTo cpos (starEach [] X.env)).any (·.1) = false := by rfl)
    (hsw : swapsWith (.Call (.Attribute (.Name x p) "append" apos) [e] [] cpos) none pos.line X.env = pure false := by rfl) :
    PSv X Φ gl ios (.Expr (.Call (.Attribute (.Name x p) "append" apos) [e] [] cpos) pos) (.mut "append" i ee) :=
  (ps_expr (pe_bm (id := "list.append") PySem.F.plainAttrs_list PySem.F.slot_list_append PySem.F.type_list_append mt_append (pe_var hN hv hd hcd) (pa_cons he pa_nil hs) hbase hfew hline hs hplain) hsw).imp fun D σ H w =>
    mut_core w (ty_list _ (by decide)) fun P H1 a v d dv d' hp o r hm Q hQ => by
      cases o with
      | lst h ra =>
        simp only [mutV] at hm
        split at hm
        · rename_i hz
          cases hm
          exact ⟨a, _, v, rfl, rfl, h, by rw [ra.length]; exact hz, hQ _ _ (.lst upd_same ((ra.append (.cons r .nil)).ext (own_ext hp h fun _ z => nomatch z)))⟩
        · cases hm
      | dk h r => simp [mutV] at hm
      | dt n h r => simp [mutV] at hm
theorem s_extend (hN : X.N[i]? = some x) (hv : Vis X.env.scope x) (he : PEv X Φ gl e ee) (hd : (x == ("__debug__" : Str)) = false := by decide) (hcd : (x == ("__classdict__" : Str)) = false := by decide)
    (hbase : attributeBase (.Name x p) "extend" X.env (eval (.Name x p) X.env) = eval (.Name x p) X.env := by rfl)
    (hfew : ((backTo cpos (starEach [e] X.env)).all (fun x => !x.1) && (backToKw cpos (keywordEach [] X.env)).all (fun x => x.1.isSome)
      && decide (([e] : List Expr).length + ([] : List Keyword).length + (if ([] : List Keyword).isEmpty then 0 else 1) < 30)) = true := by rfl)
    (hline : (apos.endLine == cpos.line) = true := by rfl) (hs : starEach [e] X.env = (false, eval e X.env) :: starEach [] X.env := by rfl) (hplain : (backTo cpos (starEach [] X.env)).any (·.1) = false := by rfl)
    (hsw : swapsWith (.Call (.Attribute (.Name x p) "extend" apos) [e] [] cpos) none pos.line X.env = pure false := by rfl) :
    PSv X Φ gl ios (.Expr (.Call (.Attribute (.Name x p) "extend" apos) [e] [] cpos) pos) (.mut "extend" i ee) :=
  (ps_expr (pe_bm (id := "list.extend") PySem.F.plainAttrs_list PySem.F.slot_list_extend PySem.F.type_list_extend mt_extend (pe_var hN hv hd hcd) (pa_cons he pa_nil hs) hbase hfew hline hs hplain) hsw).imp fun D σ H w =>
    mut_core w (ty_list _ (by decide)) fun P H1 a v d dv d' hp o r hm Q hQ => by
      cases o with
      | lst h ra =>
        cases r with
        | lst n2 h2 rb =>
          simp only [mutV] at hm
          split at hm
          · rename_i hz
            cases hm
            exact ⟨a, _, _, _, rfl, rfl, h, h2, by rw [ra.length, rb.length]; exact hz, hQ _ _ (.lst upd_same ((ra.append rb).ext (own_ext hp h fun _ z => nomatch z)))⟩
          · cases hm
        | _ => simp [mutV] at hm
      | dk h r => simp [mutV] at hm
      | dt n h r => simp [mutV] at hm
/-- tg = x.pop() -/
theorem s_pop {tg : Expr} {g : G} (hN : X.N[i]? = some x) (hv : Vis X.env.scope x) (hg : PGv X tg g) (hd : (x == ("__debug__" : Str)) = false := by decide) (hcd : (x == ("__classdict__" : Str)) = false := by decide)
    (hbase : attributeBase (.Name x p) "pop" X.env (eval (.Name x p) X.env) = eval (.Name x p) X.env := by rfl) (hline : (apos.endLine == cpos.line) = true := by rfl)
    (hs : swapsWithSole [tg] (.Call (.Attribute (.Name x p) "pop" apos) [] [] cpos) pos.line X.env = pure false := by rfl) (hw : swappedStores [tg] (.Call (.Attribute (.Name x p) "pop" apos) [] [] cpos) X.env = pure none := by rfl)
    (h1 : (assignEach [tg] X.env).map (·.2) = [assign tg X.env] := by rfl) : PSv X Φ gl ios (.Assign [tg] (.Call (.Attribute (.Name x p) "pop" apos) [] [] cpos) pos) (.pop g i) :=
  (ps_asg (pe_bm0 (id := "list.pop") PySem.F.plainAttrs_list PySem.F.slot_list_pop PySem.F.type_list_pop mt_pop (pe_var hN hv hd hcd) hbase hline) hg hs hw h1).imp fun D σ H ⟨B, ρ, o, hb, ⟨P, O, s⟩, h, q⟩ => by
    simp only [run] at h
    obtain ⟨d0, h0, h⟩ := bind_some h
    cases d0 with
    | list xs =>
      obtain ⟨y, h1, h⟩ := bind_some h
      obtain ⟨ρ2, h2, h⟩ := bind_some h
      cases h
      obtain ⟨hi, a, e1, hp, o0⟩ := s.atO h0
      cases o0 with
      | @lst vs _ h ra =>
        obtain ⟨v, hv, rv⟩ := ra.get h1
        rw [← ra.length] at hv
        have x := own_ext (u := .lst vs.dropLast) hp h fun _ z => nomatch z
        have s2 := s.write hi e1 (.lst (xs := vs.dropLast) upd_same ((show RpAll X.K H P vs.dropLast xs.dropLast from by
          have := ra.take (xs.length - 1)
          rw [← List.dropLast_eq_take, ← ra.length, ← List.dropLast_eq_take] at this
          exact this).ext x))
        refine ⟨_, e1, .inl ⟨rfl, _, .inl (.inl h)⟩, a, _, v, rfl, rfl, h, hv, _, _, y, ρ2, s2.env, fun i _ z => by simp at z, rv.ext x, h2, fun σ' en' k => q _ _ ⟨P, _, en', s2.hid, s2.keep, fun p hp hi => ?_⟩⟩
        obtain ⟨h3, h4⟩ := mem_less.mp hi
        rw [k p.1 h4]
        exact s2.io p hp h3
    | _ => cases h
/-- x op= e, ints -/
theorem s_aug {op : Operator} {pos' : Pos} (hop : op = .Add ∨ op = .Sub) (hN : X.N.Nodup) (hi : X.N[i]? = some x) (hx : Loc X.env.scope x) (he : PEv X Φ gl e ee) (hf : X.fn x = true ∨ X.env.scope.names.lookup x = some .local := by first | exact .inl rfl | exact .inr rfl | assumption) :
    PSv X Φ gl ios (.AugAssign (.Name x pos') op e pos) (.aug i op ee) := by
  have core : ∀ (f : Int → Int → Int) (D : Ends) (σ : L2.St) (H : Hp), (∀ a b : Int, augV op (.int a) (.int b) = some (.int (f a b))) → tS X.K Φ gl ios (.aug i op ee) D σ H → tAug i (tE X.K Φ gl ee) (ipI f) D σ H := by
    intro f D σ H hf' ⟨B, ρ, o, hb, ⟨P, O, s⟩, h, q⟩
    simp only [run] at h
    obtain ⟨⟨y, fy, ρ1⟩, h1, h⟩ := bind_some h
    obtain ⟨c, hg, h⟩ := bind_some h
    obtain ⟨z, h2, h⟩ := bind_some h
    split at h
    · cases h
    · cases h
      have ab : ∃ a b : Int, c = .int a ∧ y = .int b := by
        cases c <;> cases y <;> first | exact ⟨_, _, rfl, rfl⟩ | (rcases hop with rfl | rfl <;> cases h2)
      obtain ⟨a, b, rfl, rfl⟩ := ab
      rw [hf'] at h2
      cases h2
      have slot : ρ[i]? = some (.fz (.int a)) := by
        unfold getS at hg
        cases e2 : ρ[i]? with
        | none => rw [e2] at hg; cases hg
        | some z =>
          rw [e2] at hg
          cases z with
          | no => cases hg
          | fz d => cases hg; rfl
          | ow d =>
            cases hg
            obtain ⟨_, _, _, o⟩ := s.env.ow i _ e2
            cases o
      obtain ⟨v, e3, r⟩ := s.env.fz i _ slot
      cases r
      refine ⟨_, e3, evE_ok s h1 fun w H1 P1 O1 s1 m1 r1 _ => ?_⟩
      cases r1
      exact ⟨a, b, rfl, rfl, q _ _ ⟨P1, _, s1.setSh (by rw [s1.env.len, ← s.env.len]; exact (List.getElem?_eq_some_iff.mp slot).1) (.int _)⟩⟩
  rcases hop with rfl | rfl
  · exact (ps_aug hN hi hx he ip_add hf).imp fun D σ H w => core _ D σ H (fun _ _ => rfl) w
  · exact (ps_aug hN hi hx he ip_sub hf).imp fun D σ H w => core _ D σ H (fun _ _ => rfl) w
/-- x[k] op= e, x a dict, ints -/
theorem s_augIx {op : Operator} {k : Expr} {ek : E} {tpos : Pos} (hop : op = .Add ∨ op = .Sub) (hu : X.A.units + 70 < cLine) (hN : X.N[i]? = some x) (hv : Vis X.env.scope x) (hk : PEv X Φ gl k ek) (he : PEv X Φ gl e ee) (hd : (x == ("__debug__" : Str)) = false := by decide) (hcd : (x == ("__classdict__" : Str)) = false := by decide)
    (ha : ∀ ov iv new, augStore k ov iv new = (do holding [new, ov, iv] (setItem ov iv new); release [new, ov, iv] []; pure .next) := by intros; rfl) : PSv X Φ gl ios (.AugAssign (.Subscript (.Name x p) k tpos) op e pos) (.augIx i ek op ee) := by
  have core : ∀ (f : Int → Int → Int) (D : Ends) (σ : L2.St) (H : Hp), (∀ a b : Int, augV op (.int a) (.int b) = some (.int (f a b))) → tS X.K Φ gl ios (.augIx i ek op ee) D σ H →
      sDAug (tVar i) (tE X.K Φ gl ek) (tE X.K Φ gl ee) (fun x y H Q => ∃ i j, x = .int i ∧ y = .int j ∧ Q (.int (f i j)) H) D σ H := by
    intro f D σ H hf' ⟨B, ρ, o, hb, ⟨P, O, s⟩, h, q⟩
    simp only [run] at h
    obtain ⟨c0, h0, h⟩ := bind_some h
    obtain ⟨⟨kd, fk, ρ1⟩, h1, h⟩ := bind_some h
    obtain ⟨c1, h2, h⟩ := bind_some h
    cases c1 with
    | dict kvs =>
      cases hk2 : dkey kd with
      | none => rw [hk2] at h; cases h
      | some kk =>
      rw [hk2] at h
      cases kk with
      | inr ks => cases h
      | inl k2 =>
      dsimp only at h
      obtain ⟨old, h3, h⟩ := bind_some h
      cases old with
      | int a =>
        dsimp only at h
        obtain ⟨⟨y, fy, ρ2⟩, h4, h⟩ := bind_some h
        cases y with
        | int b =>
          dsimp only at h
          obtain ⟨c, h5, h⟩ := bind_some h
          cases c with
          | dict ds =>
          dsimp only at h
          obtain ⟨z, h6, h⟩ := bind_some h
          obtain ⟨d', h7, h⟩ := bind_some h
          cases h
          rw [hf'] at h6
          cases h6
          have ekd : kd = keyPD k2 := dkey_inv hk2
          subst ekd
          obtain ⟨hi, a0, e0, hp0, o0⟩ := s.atO h0
          refine ⟨_, e0, evE_ok s h1 fun kv H1 P1 O1 s1 m1 r1 _ => ?_⟩
          obtain ⟨hi1, a1, e1, hp1, o1⟩ := s1.atO h2
          have : a0 = a1 := by
            rw [e0] at e1
            injection e1 with e1
            injection e1 with e1
            injection e1
          subst this
          have := key_val r1
          subst this
          -- what stands there
          simp only [ixV, hk2] at h3
          split at h3
          · rename_i hf
            have get : DGet H1 a0 (kV k2) (some (.int a)) := by
              cases o1 with
              | dk hh ra =>
                obtain ⟨v, hv, rv⟩ := (look_k (k := k2) ra).1 _ h3
                cases rv
                rw [← hv]
                exact .k hh
              | dt n hh ra => exact absurd (fit_t ra hf).1 n
            refine ⟨a0, _, rfl, get, evE_ok s1 h4 fun w H2 P2 O2 s2 m2 r2 _ => ?_⟩
            cases r2
            obtain ⟨hi2, a2, e2, hp2, o2⟩ := s2.atO h5
            have : a0 = a2 := by
              rw [e0] at e2
              injection e2 with e2
              injection e2 with e2
              injection e2
            subst this
            refine ⟨a, b, rfl, rfl, ?_⟩
            simp only [setV, hk2] at h7
            obtain ⟨kk, ekk, h7⟩ := bind_some h7
            cases ekk
            split at h7
            · rename_i hf2
              cases h7
              rw [Bool.and_eq_true] at hf2
              cases o2 with
              | dk hh ra =>
                exact ⟨_, .k hh (by rw [ra.length]; exact of_decide_eq_true hf2.2), q _ _ ⟨P2, O2, s2.write hi2 e2 (.dk upd_same ((dput_rp (.int _) ra).ext (own_ext hp2 hh fun _ z => nomatch z)))⟩⟩
              | dt n hh ra => exact absurd (fit_t ra hf2.1).1 n
            · cases h7
          · cases h3
          | _ => cases h
        | _ => cases h
      | _ => cases h
    | _ => cases h
  rcases hop with rfl | rfl
  · exact (ps_daug (by omega) (pe_var hN hv hd hcd) hk he in_add ha).imp fun D σ H w => core _ D σ H (fun _ _ => rfl) w
  · exact (ps_daug (by omega) (pe_var hN hv hd hcd) hk he in_sub ha).imp fun D σ H w => core _ D σ H (fun _ _ => rfl) w
end

/-! ### several stores at once -/
section
variable {K : PySem.W.Frag} {Φ : Nat → List PyData → Option (PyData × List PyData)} {gl : List PyData} {B : Bs}
/-- values that have come, the new ones apart -/
inductive GotL (K : PySem.W.Frag) (B : Bs) (P : Addr → Prop) (O : List Nat) (σ : L2.St) (H : Hp) : List V → List (PyData × Fl) → Prop
  | nil : GotL K B P O σ H [] []
  | cons {v : V} {vs : List V} {d : PyData} {f : Fl} {r : List (PyData × Fl)} : Got K B P O σ H v d f → (f = .fr → v ∉ vs) → GotL K B P O σ H vs r → GotL K B P O σ H (v :: vs) ((d, f) :: r)
def setVs : List Nat → List V → L2.St → L2.St
  | i :: is, v :: vs, σ => setVs is vs (σ.set i (some v))
  | _, _, σ => σ
/-- the other values are as they were, and not the one stored -/
theorem GotL.keep {P : Addr → Prop} {O O' : List Nat} {σ : L2.St} {H : Hp} {i : Nat} {v : V} {f : Fl} (hO : ∀ j, j ∈ O' → (j = i ∧ f = .fr) ∨ (j ∈ O ∧ j ≠ i)) (hl : i < σ.length) : ∀ {vs : List V} {r : List (PyData × Fl)}, (f = .fr → v ∉ vs) → GotL K B P O σ H vs r → GotL K B P O' (σ.set i (some v)) H vs r
  | _, _, _, .nil => .nil
  | w :: vs, (d, f') :: r, hn, .cons g n t => .cons ⟨g.rp, fun z => by
      obtain ⟨a, e, p, h0, nz, no, o⟩ := g.fr z
      refine ⟨a, e, p, h0, nz, fun j hj e2 => ?_, o⟩
      rcases hO j hj with ⟨q1, q2⟩ | ⟨q1, q2⟩
      · subst q1
        rw [List.getElem?_set_self hl] at e2
        injection e2 with e2
        injection e2 with e2
        subst e2 e
        exact hn q2 (List.mem_cons_self ..)
      · rw [List.getElem?_set_ne fun z => q2 z.symm] at e2
        exact no j q1 e2⟩ n (GotL.keep hO hl (fun z q => hn z (List.mem_cons_of_mem _ q)) t)
theorem stores {P : Addr → Prop} : ∀ {is : List Nat} {vs : List V} {r : List (PyData × Fl)} {O : List Nat} {ρ : PEnv} {σ : L2.St} {H : Hp}, EnvS K B P O ρ σ H → (∀ i, i ∈ is → i < ρ.length ∧ i ∉ B.io.map (·.1)) → is.length = r.length → GotL K B P O σ H vs r → ∃ O', EnvS K B P O' (setAll is r ρ) (setVs is vs σ) H
  | [], _, _, O, ρ, σ, H, s, _, hl, .nil => ⟨O, s⟩
  | i :: is, v :: vs, (d, f) :: r, O, ρ, σ, H, s, hi, hl, .cons g n t => by
    obtain ⟨h1, h2⟩ := hi i (List.mem_cons_self ..)
    obtain ⟨O1, s1, hO⟩ := s.store h1 h2 g
    have hlen : (setF ρ i d f).length = ρ.length := by unfold setF; rw [List.length_set]
    exact stores (is := is) (vs := vs) (r := r) s1 (fun j hj => ⟨by rw [hlen]; exact (hi j (List.mem_cons_of_mem _ hj)).1, (hi j (List.mem_cons_of_mem _ hj)).2⟩) (by simpa using hl) (GotL.keep hO (by rw [← s.env.len]; exact h1) n t)
  | [], _, _ :: _, _, _, _, _, _, _, hl, _ => by simp at hl
  | _ :: _, _, [], _, _, _, _, _, _, hl, _ => by simp at hl
/-- the expressions, each on its own -/
def tDs (ps : List E) : TA := match ps with
  | [] => tNil
  | e :: es => tCons (tE K Φ gl e) (tDs es)
def esL : Es → List E
  | .nil => []
  | .cons e es => e :: esL es
theorem asgDs_len : ∀ {is : List Nat} {es : Es} {ρ ρ' : PEnv} {r : List (PyData × Fl)}, asgDs Φ gl is es ρ = some (r, ρ') → is.length = r.length
  | [], .nil, _, _, _, e => by simp only [asgDs, Option.some.injEq, Prod.mk.injEq] at e; rw [← e.1]; rfl
  | i :: is, .cons e es, ρ, ρ', r, h => by
    simp only [asgDs] at h
    obtain ⟨⟨d, f, ρ1⟩, h1, h⟩ := bind_some h
    obtain ⟨⟨r2, ρ2⟩, h2, h⟩ := bind_some h
    cases h
    rw [List.length_cons, List.length_cons, asgDs_len h2]
  | [], .cons _ _, _, _, _, e => by simp [asgDs] at e
  | _ :: _, .nil, _, _, _, e => by simp [asgDs] at e
/-- a value is not what one owns apart from the slots -/
theorem got_ne {P : Addr → Prop} {O : List Nat} {σ : L2.St} {H H0 : Hp} {v : V} {d d2 : PyData} {f : Fl} {a : Addr} (g : Got K B P O σ H v d f) (hf : f = .fr → ∃ b, v = .ref b ∧ H0 b = none) (ha : H0 a ≠ none) (hp : P a) (o : Own K H P a d2) : v ≠ .ref a := fun e => by
  subst e
  cases f with
  | fr =>
    obtain ⟨b, e, n⟩ := hf rfl
    cases e
    exact ha n
  | sh =>
    have r := g.rp rfl
    cases r with
    | lst n _ _ => exact n hp
    | dk n _ _ => exact n hp
    | dt n _ _ => exact n hp
    | tup h _ =>
      obtain ⟨u, hu, hm⟩ := o.there
      rw [h] at hu; cases hu; exact hm
theorem asgDs_ok : ∀ {es : Es} {is : List Nat} {ρ ρ' : PEnv} {r : List (PyData × Fl)} {P : Addr → Prop} {O : List Nat} {σ : L2.St} {H : Hp} {Q : List V → Hp → Prop}, EnvS K B P O ρ σ H → asgDs Φ gl is es ρ = some (r, ρ') →
    (∀ vs H' P' O', EnvS K B P' O' ρ' σ H' → Mv P O P' O' σ H H' → GotL K B P' O' σ H' vs r → (∀ a d, P a → Own K H P a d → (∀ j, j ∈ O → σ[j]? ≠ some (some (V.ref a))) → V.ref a ∉ vs) → Q vs H') → tDs (K := K) (Φ := Φ) (gl := gl) (esL es) σ H Q
  | .nil, [], ρ, ρ', r, P, O, σ, H, Q, s, h, q => by
    simp only [asgDs, Option.some.injEq, Prod.mk.injEq] at h
    obtain ⟨rfl, rfl⟩ := h
    exact q [] H P O s .refl .nil fun _ _ _ _ _ => by simp
  | .cons e es, i :: is, ρ, ρ', r, P, O, σ, H, Q, s, h, q => by
    simp only [asgDs] at h
    obtain ⟨⟨d, f, ρ1⟩, h1, h⟩ := bind_some h
    obtain ⟨⟨r2, ρ2⟩, h2, h⟩ := bind_some h
    cases h
    refine evE_got s h1 fun v H1 P1 O1 s1 m1 g1 hf => asgDs_ok s1 h2 fun vs H' P' O' s' m' gl' nv => ?_
    refine q _ H' P' O' s' (m1.trans m') (.cons (g1.mv m') (fun z => ?_) gl') fun a d2 hp o no => ?_
    · obtain ⟨a, e, p, h0, nz, no, o⟩ := g1.fr z
      rw [e]
      exact nv a d p o no
    · have o1 : Own K H1 P1 a d2 := o.ext m1.ext fun u hu => m1.own a u hu no
      have p1 := m1.hid a hp no
      rw [List.mem_cons, not_or]
      exact ⟨fun z => got_ne g1 hf o.tracked p1 o1 z.symm, nv a d2 p1 o1 fun j hj => no j (m1.sub j hj)⟩
  | .nil, _ :: _, _, _, _, _, _, _, _, _, _, h, _ => by simp [asgDs] at h
  | .cons _ _, [], _, _, _, _, _, _, _, _, _, h, _ => by simp [asgDs] at h
theorem GotL.length {P : Addr → Prop} {O : List Nat} {σ : L2.St} {H : Hp} : ∀ {vs : List V} {r : List (PyData × Fl)}, GotL K B P O σ H vs r → vs.length = r.length
  | _, _, .nil => rfl
  | _, _, .cons _ _ t => by rw [List.length_cons, List.length_cons, t.length]
theorem GotL.grow {P : Addr → Prop} {O : List Nat} {σ : L2.St} {H H2 : Hp} (g2 : ∀ a o, H a = some o → H2 a = some o) : ∀ {vs : List V} {r : List (PyData × Fl)}, GotL K B P O σ H vs r → GotL K B P O σ H2 vs r
  | _, _, .nil => .nil
  | _, _, .cons g n t => .cons ⟨fun z => (g.rp z).ext (.same g2), fun z => let ⟨a, e, p, h0, nz, no, o⟩ := g.fr z; ⟨a, e, p, h0, nz, no, o.ext (.same g2) fun u hu => g2 a u hu⟩⟩ n (GotL.grow g2 t)
theorem tE_mono {e : E} {σ : L2.St} {H : Hp} {Q Q' : VK} (h : tE K Φ gl e σ H Q) (m : ∀ v H, Q v H → Q' v H) : tE K Φ gl e σ H Q' :=
  let ⟨F, ρ, d, fl, ρ', en, sa, sm, h, q⟩ := h; ⟨F, ρ, d, fl, ρ', en, sa, sm, h, fun v H' a b c => m v H' (q v H' a b c)⟩
theorem par_core {ios is : List Nat} {es : Es} {D : Ends} {σ : L2.St} {H : Hp} (w : tS K Φ gl ios (.asgD is es) D σ H) : tDs (K := K) (Φ := Φ) (gl := gl) (esL es) σ H fun vs H1 => vs.length = is.length ∧ ∀ H2, (∀ a o, H1 a = some o → H2 a = some o) → D.nx (setVs is vs σ) H2 := by
  obtain ⟨B, ρ, o, hb, ⟨P, O, s⟩, h, q⟩ := w
  simp only [run] at h
  obtain ⟨⟨r, ρ1⟩, h1, h⟩ := bind_some h
  dsimp only at h
  split at h
  · rename_i hc
    cases h
    refine asgDs_ok s h1 fun vs H1 P1 O1 s1 m1 g1 _ => ?_
    have hl := g1.length
    refine ⟨by rw [hl, asgDs_len h1], fun H2 g2 => ?_⟩
    have s2 := s1.grow g2
    have gl2 := g1.grow g2
    obtain ⟨O', s3⟩ := stores s2 (fun i hi => by
      have := List.all_eq_true.mp hc i hi
      rw [Bool.and_eq_true] at this
      exact ⟨by rw [s2.env.len, ← s.env.len]; exact of_decide_eq_true this.1, by rw [hb]; simpa using this.2⟩) (asgDs_len h1) gl2
    exact q _ _ ⟨P1, O', s3⟩
  · cases h
end
section
variable {X : Cx} {Φ : Nat → List PyData → Option (PyData × List PyData)} {gl : List PyData} {ios : List Nat} {pos : Pos}
theorem s_par {i j : Nat} {x y : Str} {a b : Expr} {ea eb : E} {px py pt : Pos} {kt k2 pt2} (hc : X.calm = true) (hN : X.N.Nodup) (hi : X.N[i]? = some x) (hj : X.N[j]? = some y) (hij : i ≠ j)
    (hx : X.env.scope.names.lookup x = some .local) (hy : X.env.scope.names.lookup y = some .local) (ha : PEv X Φ gl a ea) (hb : PEv X Φ gl b eb)
    (hw : swappedStores [.Tuple [.Name x px, .Name y py] kt pt] (.Tuple [a, b] k2 pt2) X.env = pure (some [x, y]))
    (hs : swapsWithSole [.Tuple [.Name x px, .Name y py] kt pt] (.Tuple [a, b] k2 pt2) pos.line X.env = pure false := by rfl)
    (h1 : starEach [a, b] X.env = (false, eval a X.env) :: starEach [b] X.env := by rfl) (h2 : starEach [b] X.env = (false, eval b X.env) :: starEach [] X.env := by rfl) :
    PSv X Φ gl ios (.Assign [.Tuple [.Name x px, .Name y py] kt pt] (.Tuple [a, b] k2 pt2) pos) (.asgD [i, j] (.cons ea (.cons eb .nil))) :=
  (ps_par hc hN hi hj hij hx hy (pa_cons ha (pa_cons hb pa_nil h2) h1) hw hs).imp fun D σ H w => by
    refine tE_mono (par_core w) fun v H1 h => tE_mono h fun u H2 h => ?_
    obtain ⟨_, h⟩ := h
    exact ⟨v, u, rfl, h H2 fun _ _ z => z⟩
theorem s_par3 {i j l : Nat} {x y z : Str} {a b c : Expr} {ea eb ec : E} {px py pz pt : Pos} {kt k2 pt2} (hc : X.calm = true) (hN : X.N.Nodup) (hi : X.N[i]? = some x) (hj : X.N[j]? = some y) (hl : X.N[l]? = some z) (hij : i ≠ j) (hil : i ≠ l) (hjl : j ≠ l)
    (hx : X.env.scope.names.lookup x = some .local) (hy : X.env.scope.names.lookup y = some .local) (hz : X.env.scope.names.lookup z = some .local) (ha : PEv X Φ gl a ea) (hb : PEv X Φ gl b eb) (hcc : PEv X Φ gl c ec)
    (hw : swappedStores [.Tuple [.Name x px, .Name y py, .Name z pz] kt pt] (.Tuple [a, b, c] k2 pt2) X.env = pure (some [x, y, z]))
    (hs : swapsWithSole [.Tuple [.Name x px, .Name y py, .Name z pz] kt pt] (.Tuple [a, b, c] k2 pt2) pos.line X.env = pure false := by rfl)
    (h1 : starEach [a, b, c] X.env = (false, eval a X.env) :: starEach [b, c] X.env := by rfl) (h2 : starEach [b, c] X.env = (false, eval b X.env) :: starEach [c] X.env := by rfl) (h3 : starEach [c] X.env = (false, eval c X.env) :: starEach [] X.env := by rfl) :
    PSv X Φ gl ios (.Assign [.Tuple [.Name x px, .Name y py, .Name z pz] kt pt] (.Tuple [a, b, c] k2 pt2) pos) (.asgD [i, j, l] (.cons ea (.cons eb (.cons ec .nil)))) :=
  (ps_par3 hc hN hi hj hl hij hil hjl hx hy hz (pa_cons ha (pa_cons hb (pa_cons hcc pa_nil h3) h2) h1) hw hs).imp fun D σ H w => by
    refine tE_mono (par_core w) fun v H1 h => tE_mono h fun u H2 h => tE_mono h fun t H3 h => ?_
    obtain ⟨_, h⟩ := h
    exact ⟨v, u, t, rfl, h H3 fun _ _ z => z⟩
/-- names, stored in order -/
def gNames : List Nat → TGs
  | [] => gNil
  | i :: is => gCons (gName i) (gNames is)
theorem gNames_ok : ∀ {is : List Nat} {vs : List V} {σ : L2.St} {H : Hp} {Q : L2.St → Hp → Prop}, vs.length = is.length → Q (setVs is vs σ) H → gNames is vs σ H Q
  | [], [], σ, H, Q, _, q => ⟨rfl, q⟩
  | i :: is, v :: vs, σ, H, Q, h, q => ⟨v, vs, rfl, gNames_ok (by simpa using h) q⟩
  | [], _ :: _, _, _, _, h, _ => by simp at h
  | _ :: _, [], _, _, _, h, _ => by simp at h
theorem n_nil : PGs X [] (gNames []) := pgs_nil
theorem n_cons {i : Nat} {x : Str} {es : List Expr} {is : List Nat} (hN : X.N.Nodup) (hi : X.N[i]? = some x) (hx : Loc X.env.scope x) (h2 : PGs X es (gNames is)) (hf : X.fn x = true ∨ X.env.scope.names.lookup x = some .local := by first | exact .inl rfl | exact .inr rfl | assumption)
    (hs : (assignEach (.Name x pos :: es) X.env).map (·.2) = assign (.Name x pos) X.env :: (assignEach es X.env).map (·.2) := by rfl) : PGs X (.Name x pos :: es) (gNames (i :: is)) := pgs_cons (pg_name hN hi hx hf) h2 hs
/-- the expressions of a display -/
theorem d_nil : PA X [] (tDs (K := X.K) (Φ := Φ) (gl := gl) []) := pa_nil
theorem d_cons {a : Expr} {ea : E} {ps : List Expr} {es : List E} (ha : PEv X Φ gl a ea) (hr : PA X ps (tDs (K := X.K) (Φ := Φ) (gl := gl) es)) (hs : starEach (a :: ps) X.env = (false, eval a X.env) :: starEach ps X.env := by rfl) : PA X (a :: ps) (tDs (K := X.K) (Φ := Φ) (gl := gl) (ea :: es)) := pa_cons ha hr hs
theorem tDs_mono {K : PySem.W.Frag} : ∀ {es : List E} {σ : L2.St} {H : Hp} {Q Q' : List V → Hp → Prop}, tDs (K := K) (Φ := Φ) (gl := gl) es σ H Q → (∀ v H, Q v H → Q' v H) → tDs (K := K) (Φ := Φ) (gl := gl) es σ H Q'
  | [], _, _, _, _, h, m => m _ _ h
  | _ :: _, _, _, _, _, h, m => tE_mono h fun v H h => tDs_mono h fun vs H h => m _ _ h
/-- a, b, .. = x, y, .., by a tuple of its own -/
theorem s_parT {tgs ps : List Expr} {is : List Nat} {es : Es} {kt kp : Nat} {pt pp : Pos} (hc : X.calm = true) (he : PA X ps (tDs (K := X.K) (Φ := Φ) (gl := gl) (esL es))) (hg : PGs X tgs (gNames is)) (hn : (assignEach tgs X.env).length = is.length := by rfl) (hst : (assignEach tgs X.env).findIdx? (·.1) = none := by rfl) (hz : is.length ≤ 16 := by decide)
    (hs : swapsWithSole [.Tuple tgs kt pt] (.Tuple ps kp pp) pos.line X.env = pure false := by rfl) (hw : swappedStores [.Tuple tgs kt pt] (.Tuple ps kp pp) X.env = pure none := by rfl)
    (h1 : (assignEach [.Tuple tgs kt pt] X.env).map (·.2) = [assign (.Tuple tgs kt pt) X.env] := by rfl) : PSv X Φ gl ios (.Assign [.Tuple tgs kt pt] (.Tuple ps kp pp) pos) (.asgD is es) :=
  (ps_asg (pe_tup he) (pg_tup hc hg hn hst) hs hw h1).imp fun D σ H w => by
    refine tDs_mono (par_core w) fun vs H1 ⟨hl, h⟩ => ⟨by rw [hl, sizeLine_eq]; omega, fun p hp => ⟨p, vs, rfl, .inl (.inl upd_same), hl, gNames_ok hl ?_⟩⟩
    exact h _ fun a o e => by rw [upd_ne (ne_of_none e hp)]; exact e
theorem noIL_lst {ds : List PyData} (q : PP.noIL (.list ds) = true) : noILs ds = true ∧ ∀ x xs, ds ≠ .int x :: xs := by
  cases ds with
  | nil => exact ⟨rfl, fun _ _ z => nomatch z⟩
  | cons d ds =>
    cases d with
    | int i => simp [PP.noIL] at q
    | _ => exact ⟨by simpa [PP.noIL] using q, fun _ _ z => nomatch z⟩
mutual
theorem Rp.noIL {K : PySem.W.Frag} {H : Hp} {P P' : Addr → Prop} (hP : ∀ a, P' a → P a ∨ ∃ x xs, H a = some (.lst (.int x :: xs))) : ∀ {v : V} {d : PyData}, PP.noIL d = true → Rp K H P v d → Rp K H P' v d
  | _, _, _, .non => .non
  | _, _, _, .bl b => .bl b
  | _, _, _, .int i => .int i
  | _, _, _, .str x => .str x
  | .ref a, .list ds, q, .lst n h r => by
    have q' := noIL_lst q
    refine .lst (fun z => (hP a z).elim n fun ⟨x, ys, e⟩ => ?_) h (RpAll.noIL hP q'.1 r)
    rw [h] at e
    cases e
    cases r with
    | cons r1 _ =>
      cases r1
      exact q'.2 _ _ rfl
  | _, _, q, .tup h r => .tup h (RpAll.noIL hP (by simpa [PP.noIL] using q) r)
  | _, _, q, .dk n h r => by simp [PP.noIL] at q
  | _, _, q, .dt n h r => by simp [PP.noIL] at q
theorem RpAll.noIL {K : PySem.W.Frag} {H : Hp} {P P' : Addr → Prop} (hP : ∀ a, P' a → P a ∨ ∃ x xs, H a = some (.lst (.int x :: xs))) : ∀ {v : List V} {d : List PyData}, noILs d = true → RpAll K H P v d → RpAll K H P' v d
  | _, _, _, .nil => .nil
  | _, _, q, .cons h r => by
    rw [noILs, Bool.and_eq_true] at q
    exact .cons (Rp.noIL hP q.1 h) (RpAll.noIL hP q.2 r)
end
theorem argL_sh {K : PySem.W.Frag} {H : Hp} {P' : Addr → Prop} {F : Fr} {σ : L2.St} : ∀ {es : Es} {vs : List V} {ds : List PyData}, noIo es = true → ArgOk K F σ H es vs ds → RpAll K H P' vs ds → ArgL K H P' (maskE es) vs ds ∧ ioA (maskE es) vs = []
  | _, _, _, _, .nil, _ => ⟨.nil, rfl⟩
  | _, _, _, n, .io _ _ _, _ => by simp [noIo, isIo] at n
  | .cons ea es, v :: vs, d :: ds, n, .cons ne hr r, .cons h t => by
    rw [noIo, Bool.and_eq_true] at n
    obtain ⟨h1, h2⟩ := argL_sh n.2 r t
    have e : isIo ea = false := by simpa using n.1
    have m : maskE (.cons ea es) = isIo ea :: maskE es := rfl
    rw [m, e]
    refine ⟨.sh h h1, ?_⟩
    cases v <;> exact h2
/-- x, y = f(..): the list that f made is one's own -/
theorem s_asgO {i j f k : Nat} {tgs ps : List Expr} {e : Expr} {es : Es} {x : Str} {bs : List Bool} {kt : Nat} {pt p pc : Pos} (hc : X.calm = true) (c : Cal X.prog X.w X.K X.mg X.base k x (spP X.K (Φ f) bs)) (hr : Room k X.A) (hgl : Gl X x) (ha : PAv X Φ gl (e :: ps) es) (hg : PGs X tgs (gNames [i, j])) (hb : maskE es = bs := by rfl) (hio : noIo es = true := by rfl)
    (hdb : (x == ("__debug__" : Str)) = false := by decide) (he : starEach (e :: ps) X.env = (false, eval e X.env) :: starEach ps X.env := by rfl) (hpl : (backTo pc (starEach ps X.env)).any (·.1) = false := by rfl)
    (hn : (assignEach tgs X.env).length = 2 := by rfl) (hst : (assignEach tgs X.env).findIdx? (·.1) = none := by rfl)
    (hs : swapsWithSole [.Tuple tgs kt pt] (.Call (.Name x p) (e :: ps) [] pc) pos.line X.env = pure false := by rfl) (hw : swappedStores [.Tuple tgs kt pt] (.Call (.Name x p) (e :: ps) [] pc) X.env = pure none := by rfl)
    (h1 : (assignEach [.Tuple tgs kt pt] X.env).map (·.2) = [assign (.Tuple tgs kt pt) X.env] := by rfl) : PSv X Φ gl ios (.Assign [.Tuple tgs kt pt] (.Call (.Name x p) (e :: ps) [] pc) pos) (.asgO i j f es) :=
  (ps_asg (pe_cal c hr hgl ha hdb he hpl) (pg_tup hc hg hn hst) hs hw h1).imp fun D σ H ⟨B, ρ, o, hbi, ⟨P, O, s⟩, h, q⟩ => by
    subst hb
    simp only [run] at h
    split at h
    · rename_i hk
      rw [Bool.and_eq_true] at hk
      obtain ⟨ok, hm⟩ := hk
      have hm : modss es = [] := List.isEmpty_iff.mp hm
      obtain ⟨⟨ds, ρ1⟩, h1, h⟩ := bind_some h
      dsimp only at h
      split at h
      · rename_i hil
        obtain ⟨⟨d, outs⟩, h2, h⟩ := bind_some h
        have en0 := s.open' ok
        refine ⟨_, ρ, ds, ρ1, en0, fun i z => z, (fun i z => by rw [hm] at z; cases z), h1, fun vs H1 en1 k1 r1 => ?_⟩
        show spP X.K (Φ f) (maskE es) (vs ++ []) H1 _ _
        rw [List.append_nil]
        have hP : ∀ a, ((frE B P O σ (alss es) []).P a ∨ ∃ x xs, H1 a = some (.lst (.int x :: xs))) → (frE B P O σ (alss es) []).P a ∨ ∃ x xs, H1 a = some (.lst (.int x :: xs)) := fun a z => z
        obtain ⟨al, ai⟩ := argL_sh hio r1 (RpAll.noIL (P := (frE B P O σ (alss es) []).P) hP hil (r1.rp hio))
        refine ⟨_, ds, d, outs, fun a z => z.elim (en1.there a) fun ⟨x, xs, e⟩ => ⟨_, e⟩, al, by rw [ai]; exact List.nodup_nil, h2, fun v H2 k2 r2 o2 => ?_⟩

        split at h
        · rename_i heq
          cases heq
          rename_i x xs y
          split at h
          · rename_i hz
            cases h
            simp only [Bool.and_eq_true, Bool.not_eq_true', decide_eq_true_eq, decide_eq_false_iff_not] at hz
            obtain ⟨⟨⟨⟨⟨him, hi⟩, hii⟩, hj⟩, hjj⟩, hij⟩ := hz
            cases r2 with
            | tup et ra =>
              cases ra with
              | cons ra1 ra =>
                cases ra with
                | cons rb ra =>
                  cases ra
                  cases rb
                  cases ra1 with
                  | lst na el rl =>
                    rename_i t a us
                    have hz1 : H1 a = none := by
                      cases e5 : H1 a with
                      | none => rfl
                      | some w =>
                        have := k2.keep a w e5 (by rw [ai]; exact fun z => nomatch z)
                        rw [el] at this
                        cases this
                        cases rl with
                        | cons r1' _ =>
                          cases r1'
                          exact absurd (Or.inr ⟨_, _, e5⟩) na
                    have hz0 : H a = none := k1.gone a hz1
                    have g1 : ∀ a o, H a = some o → H1 a = some o := k1.all fun a ⟨i, hi, _⟩ => nomatch hi
                    have g2 : ∀ a o, H1 a = some o → H2 a = some o := k2.all fun a z => by rw [ai] at z; cases z
                    have g : ∀ a o, H a = some o → H2 a = some o := fun a o z => g2 a o (g1 a o z)
                    have en2 : EnvOk X.K (frO B (fun b => P b ∨ b = a) O) ρ σ H2 := s.env.hideG hz0 g ⟨_, el⟩
                    have s2 : EnvS X.K B (fun b => P b ∨ b = a) O ρ σ H2 := ⟨en2, fun b z => z.elim (s.hid b) fun z => .inr (.inr (by rw [z]; exact s.keep.gone a hz0)), s.keep.grow g, s.io⟩
                    have nz : ¬ B.Z a := fun z => by
                      obtain ⟨u, z⟩ := s.env.there a (s.env.zp a z)
                      rw [hz0] at z; cases z
                    have no : ∀ j, j ∈ O → σ[j]? ≠ some (some (V.ref a)) := fun j hj z => by
                      obtain ⟨b, d2, e3, _, _, _, o2⟩ := s.at hj
                      rw [z] at e3; cases e3
                      exact o2.tracked hz0
                    have ow : Own X.K H2 (fun b => P b ∨ b = a) a (.list (.int x :: xs)) := .lst el (rl.imm (fun _ _ z => z) (by simp [immAll, immD, him]))
                    have s3 := s2.setOw (i := i) hi (by rw [hbi]; simpa using hii) (.inr rfl) nz no ow
                    have s4 := s3.setSh (i := j) (d := .int y) (by rw [List.length_set]; exact hj) (.int y)
                    exact ⟨t, [.ref a, .int y], rfl, .inl (.inl et), rfl, gNames_ok rfl (q _ _ ⟨_, _, s4⟩)⟩
          · cases h
        · cases h
      · cases h
    · cases h
/-- x[k], y = a, b -/
theorem s_asgDS {i j : Nat} {x y : Str} {k a b : Expr} {ek ea eb : E} {p pos' py pt pp : Pos} {kt kp : Nat} (hc : X.calm = true) (hu : X.A.units + 70 < cLine) (hnd : X.N.Nodup) (hN : X.N[i]? = some x) (hv : Vis X.env.scope x) (hj : X.N[j]? = some y) (hy : Loc X.env.scope y) (hk : PEv X Φ gl k ek) (ha : PEv X Φ gl a ea) (hb : PEv X Φ gl b eb)
    (hf : X.fn y = true ∨ X.env.scope.names.lookup y = some .local := by first | exact .inl rfl | exact .inr rfl | assumption) (hd : (x == ("__debug__" : Str)) = false := by decide) (hcd : (x == ("__classdict__" : Str)) = false := by decide)
    (hsub : ∀ v, assign (.Subscript (.Name x p) k pos') X.env v = (do
      let ov ← holding [v] (eval (.Name x p) X.env)
      let iv ← holding [v, ov] (eval k X.env)
      standAt pos'
      holding [v, ov, iv] (setItem ov iv v)
      release [v, ov, iv] []) := by intro _; rfl)
    (e1 : starEach [a, b] X.env = (false, eval a X.env) :: starEach [b] X.env := by rfl) (e2 : starEach [b] X.env = (false, eval b X.env) :: starEach [] X.env := by rfl)
    (t1 : (assignEach [.Subscript (.Name x p) k pos', .Name y py] X.env).map (·.2) = assign (.Subscript (.Name x p) k pos') X.env :: (assignEach [.Name y py] X.env).map (·.2) := by rfl)
    (t2 : (assignEach [.Name y py] X.env).map (·.2) = assign (.Name y py) X.env :: (assignEach [] X.env).map (·.2) := by rfl)
    (hn : (assignEach [.Subscript (.Name x p) k pos', .Name y py] X.env).length = 2 := by rfl) (hst : (assignEach [.Subscript (.Name x p) k pos', .Name y py] X.env).findIdx? (·.1) = none := by rfl)
    (hs : swapsWithSole [.Tuple [.Subscript (.Name x p) k pos', .Name y py] kt pt] (.Tuple [a, b] kp pp) pos.line X.env = pure false := by rfl) (hw : swappedStores [.Tuple [.Subscript (.Name x p) k pos', .Name y py] kt pt] (.Tuple [a, b] kp pp) X.env = pure none := by rfl)
    (h1 : (assignEach [.Tuple [.Subscript (.Name x p) k pos', .Name y py] kt pt] X.env).map (·.2) = [assign (.Tuple [.Subscript (.Name x p) k pos', .Name y py] kt pt) X.env] := by rfl) :
    PSv X Φ gl ios (.Assign [.Tuple [.Subscript (.Name x p) k pos', .Name y py] kt pt] (.Tuple [a, b] kp pp) pos) (.asgDS i ek j ea eb) :=
  (ps_asg (pe_tup (pa_cons ha (pa_cons hb pa_nil e2) e1)) (pg_tup hc (pgs_cons (pg_sub (pe_var hN hv hd hcd) hk (set_own hu) hsub) (pgs_cons (pg_name hnd hj hy hf) pgs_nil t2) t1) hn hst) hs hw h1).imp fun D σ H ⟨B, ρ, o, hbi, ⟨P, O, s⟩, h, q⟩ => by
    simp only [run] at h
    obtain ⟨⟨dx, fx, ρ1⟩, h1, h⟩ := bind_some h
    obtain ⟨⟨dy, fy, ρ2⟩, h2, h⟩ := bind_some h
    obtain ⟨c0, h3, h⟩ := bind_some h
    obtain ⟨⟨kd, fk, ρ3⟩, h4, h⟩ := bind_some h
    obtain ⟨c, h5, h⟩ := bind_some h
    obtain ⟨d', h6, h⟩ := bind_some h
    split at h
    · rename_i hz
      cases h
      rw [Bool.and_eq_true] at hz
      obtain ⟨z1, z2⟩ := hz
      refine evE_ok s h1 fun v H1 P1 O1 s1 m1 r1 _ => ?_
      refine evE_ok s1 h2 fun w H2 P2 O2 s2 m2 r2 _ => ?_
      refine ⟨by rw [sizeLine_eq]; simp, fun q0 hq0 => ?_⟩
      have g : ∀ b u, H2 b = some u → upd H2 q0 (.tup [v, w]) b = some u := fun b u z => by rw [upd_ne (ne_of_none z hq0)]; exact z
      have s3 := s2.grow g
      obtain ⟨hi3, a3, ea3, hp3, o3⟩ := s3.atO h3
      refine ⟨q0, [v, w], rfl, .inl (.inl upd_same), rfl, v, [w], rfl, _, ea3, ?_⟩
      refine evE_ok s3 h4 fun kv H4 P4 O4 s4 m4 r4 _ => ?_
      obtain ⟨hi4, a4, ea4, hp4, o4⟩ := s4.atO h5
      have : a3 = a4 := by
        have x1 : σ[i]? = some (some (V.ref a3)) := ea3
        have x2 : σ[i]? = some (some (V.ref a4)) := ea4
        rw [x1] at x2
        injection x2 with x2
        injection x2 with x2
        injection x2
      subst this
      refine ⟨P4, a3, c, kd, dx, d', rfl, hp4, o4, r4, ((r1.ext m2.ext).ext (.same g)).ext m4.ext, h6, fun u ou => ?_⟩
      have s5 := s4.write hi4 ea4 ou
      have rw5 : Rp X.K (upd H4 a3 u) P4 w dy := ((r2.ext (.same g)).ext m4.ext).ext (s4.extA hi4 ea4)
      have s6 := s5.setSh (i := j) (d := dy) (by rw [List.length_set, s4.env.len, ← s.env.len]; exact of_decide_eq_true z1) rw5
      exact ⟨w, [], rfl, rfl, q _ _ ⟨_, _, s6⟩⟩
    · cases h
end
end PP

/-! PP13: a def keeps the promise that the evaluator makes. -/
namespace PP
open PySem PySem.Spec PyProof.Rows L2 RZ

/-! ### the order of stores, looked up in the scope -/
def notFn (sc : Scope) : Bool := (if sc.kind.isAnnotationScope then ScopeKind.function else sc.kind) != .function
def swT (sc : Scope) (ts vs : List Expr) : Option (Option (List Str)) :=
  if !(ts.length == 2 || ts.length == 3) || vs.length != ts.length || notFn sc then some none
  else if vs.any fun | .Starred .. => true | _ => false then some none
  else
    if (ts.filterMap fun
      | .Name id pos => if sc.names.lookup id == some .local && pos.line == (ts.head?.map (·.pos.line)).getD 0 then some id else none
      | _ => none).length != ts.length || (ts.filterMap fun
      | .Name id pos => if sc.names.lookup id == some .local && pos.line == (ts.head?.map (·.pos.line)).getD 0 then some id else none
      | _ => none).eraseDups.length != (ts.filterMap fun
      | .Name id pos => if sc.names.lookup id == some .local && pos.line == (ts.head?.map (·.pos.line)).getD 0 then some id else none
      | _ => none).length then some none
    else if vs.all (foldedForSure 8) then some none
    else if vs.all (constantsAlone 8) then none
    else some (some (ts.filterMap fun
      | .Name id pos => if sc.names.lookup id == some .local && pos.line == (ts.head?.map (·.pos.line)).getD 0 then some id else none
      | _ => none))
theorem sw_of {env : Env} {sc : Scope} (hs : env.scope = sc) {ts vs : List Expr} {kt kv : Nat} {pt pv : Pos} {r : Option (List Str)} (h : swT sc ts vs = some r) : swappedStores [.Tuple ts kt pt] (.Tuple vs kv pv) env = pure r := by
  subst hs
  unfold swT at h
  split at h
  · rename_i c
    cases h
    exact if_pos c
  · rename_i c1
    refine (if_neg c1).trans ?_
    split at h
    · rename_i c
      cases h
      exact if_pos c
    · rename_i c2
      refine (if_neg c2).trans ?_
      split at h
      · rename_i c
        cases h
        exact if_pos c
      · rename_i c3
        refine (if_neg c3).trans ?_
        split at h
        · rename_i c
          cases h
          exact if_pos c
        · rename_i c4
          refine (if_neg c4).trans ?_
          split at h
          · cases h
          · rename_i c5
            cases h
            exact if_neg c5
def visB (sc : Scope) (x : Str) : Bool := match sc.names.lookup x with | some .local => true | some .cell => true | some .free => true | _ => false
def locB (sc : Scope) (x : Str) : Bool := match sc.names.lookup x with | some .local => true | some .cell => true | _ => false
theorem vis_of {sc sc' : Scope} (hs : sc' = sc) {x : Str} (h : visB sc x = true) : Vis sc' x := by
  subst hs
  unfold visB at h
  split at h
  · rename_i e; exact .inl e
  · rename_i e; exact .inr (.inl e)
  · rename_i e; exact .inr (.inr e)
  · cases h
theorem loc_of {sc sc' : Scope} (hs : sc' = sc) {x : Str} (h : locB sc x = true) : Loc sc' x := by
  subst hs
  unfold locB at h
  split at h
  · rename_i e; exact .inl e
  · rename_i e; exact .inr e
  · cases h
theorem look_of {sc sc' : Scope} (hs : sc' = sc) {x : Str} {k : NameKind} (h : decide (sc.names.lookup x = some k) = true) : sc'.names.lookup x = some k := by
  subst hs
  exact of_decide_eq_true h

/-! ### at a def's start -/
/-- the places of the changed parameters -/
def trues : List Bool → Nat → List Nat
  | [], _ => []
  | true :: bs, k => k :: trues bs (k + 1)
  | false :: bs, k => trues bs (k + 1)
section
variable {K : PySem.W.Frag} {H : Hp} {P : Addr → Prop}
theorem ioA_false {bs : List Bool} {v : V} {vs : List V} : ioA (false :: bs) (v :: vs) = ioA bs vs := by cases v <;> rfl
theorem ArgL.length : ∀ {bs : List Bool} {vs : List V} {ds : List PyData}, ArgL K H P bs vs ds → vs.length = bs.length ∧ ds.length = bs.length
  | _, _, _, .nil => ⟨rfl, rfl⟩
  | _, _, _, .io _ _ r => by simp [ArgL.length r]
  | _, _, _, .sh _ r => by simp [ArgL.length r]
theorem ArgL.get : ∀ {bs : List Bool} {vs : List V} {ds : List PyData} {i : Nat} {b : Bool}, ArgL K H P bs vs ds → bs[i]? = some b → ∃ v d, vs[i]? = some v ∧ ds[i]? = some d ∧ (b = true → ∃ a, v = .ref a ∧ P a ∧ Own K H P a d) ∧ (b = false → Rp K H P v d)
  | _, _, _, _, _, .nil, e => by simp at e
  | _, _, _, 0, _, .io (a := a) p o r, e => by simp at e; subst e; exact ⟨_, _, rfl, rfl, fun _ => ⟨a, rfl, p, o⟩, fun z => nomatch z⟩
  | _, _, _, 0, _, .sh h r, e => by simp at e; subst e; exact ⟨_, _, rfl, rfl, (fun z => nomatch z), fun _ => h⟩
  | _, _, _, i + 1, _, .io p o r, e => by
    obtain ⟨v, d, h1, h2, h3⟩ := ArgL.get (i := i) r (by simpa using e)
    exact ⟨v, d, by simpa using h1, by simpa using h2, h3⟩
  | _, _, _, i + 1, _, .sh h r, e => by
    obtain ⟨v, d, h1, h2, h3⟩ := ArgL.get (i := i) r (by simpa using e)
    exact ⟨v, d, by simpa using h1, by simpa using h2, h3⟩
theorem ioA_mem : ∀ {bs : List Bool} {vs : List V} {ds : List PyData} {i : Nat} {a : Addr}, ArgL K H P bs vs ds → bs[i]? = some true → vs[i]? = some (.ref a) → a ∈ ioA bs vs
  | _, _, _, _, _, .nil, e, _ => by simp at e
  | _, _, _, 0, _, .io p o r, e, e2 => by simp at e2; subst e2; exact List.mem_cons_self ..
  | _, _, _, 0, _, .sh h r, e, _ => by simp at e
  | _, _, _, i + 1, _, .io p o r, e, e2 => List.mem_cons_of_mem _ (ioA_mem (i := i) r (by simpa using e) (by simpa using e2))
  | _, _, _, i + 1, _, .sh h r, e, e2 => by rw [ioA_false]; exact ioA_mem (i := i) r (by simpa using e) (by simpa using e2)
theorem ioA_inj : ∀ {bs : List Bool} {vs : List V} {ds : List PyData} {i j : Nat} {a : Addr}, ArgL K H P bs vs ds → (ioA bs vs).Nodup → bs[i]? = some true → bs[j]? = some true → vs[i]? = some (.ref a) → vs[j]? = some (.ref a) → i = j
  | _, _, _, _, _, _, .nil, _, e, _, _, _ => by simp at e
  | _, _, _, 0, 0, _, _, _, _, _, _, _ => rfl
  | _, _, _, 0, j + 1, _, .io p o r, nd, _, e2, e3, e4 => by
    simp at e3; subst e3
    exact absurd (ioA_mem (i := j) r (by simpa using e2) (by simpa using e4)) (List.nodup_cons.mp (show (_ :: ioA _ _).Nodup from nd)).1
  | _, _, _, i + 1, 0, _, .io p o r, nd, e1, _, e3, e4 => by
    simp at e4; subst e4
    exact absurd (ioA_mem (i := i) r (by simpa using e1) (by simpa using e3)) (List.nodup_cons.mp (show (_ :: ioA _ _).Nodup from nd)).1
  | _, _, _, i + 1, j + 1, _, .io p o r, nd, e1, e2, e3, e4 => by
    rw [ioA_inj (i := i) (j := j) r (List.nodup_cons.mp (show (_ :: ioA _ _).Nodup from nd)).2 (by simpa using e1) (by simpa using e2) (by simpa using e3) (by simpa using e4)]
  | _, _, _, 0, j + 1, _, .sh h r, _, e1, _, _, _ => by simp at e1
  | _, _, _, i + 1, 0, _, .sh h r, _, _, e2, _, _ => by simp at e2
  | _, _, _, i + 1, j + 1, _, .sh h r, nd, e1, e2, e3, e4 => by
    rw [ioA_false] at nd
    rw [ioA_inj (i := i) (j := j) r nd (by simpa using e1) (by simpa using e2) (by simpa using e3) (by simpa using e4)]
theorem ioA_pair : ∀ {bs : List Bool} {vs ws : List V} {ds : List PyData} {k : Nat}, ArgL K H P bs vs ds → ws.drop k = vs → Paired (fun i a => ws[i]? = some (.ref a) ∧ (k ≤ i ∧ bs[i - k]? = some true)) (trues bs k) (ioA bs vs)
  | _, _, _, _, _, .nil, _ => .nil
  | _, _, ws, _, k, .io (a := a) (vs := vs) (bs := bs) p o r, e => by
    have h0 : ws[k]? = some (.ref a) := by rw [← List.head?_drop, e]; rfl
    refine .cons ⟨h0, Nat.le_refl _, by simp⟩ (Paired.mapP (ioA_pair (ws := ws) (k := k + 1) r (by rw [← List.tail_drop, e]; rfl)) fun i a z => ⟨z.1, by omega, ?_⟩)
    have : i - k = (i - (k + 1)) + 1 := by omega
    rw [this]
    simpa using z.2.2
  | _, _, ws, _, k, .sh (v := v) (vs := vs) (bs := bs) h r, e => by
    rw [ioA_false]
    refine Paired.mapP (ioA_pair (ws := ws) (k := k + 1) r (by rw [← List.tail_drop, e]; rfl)) fun i a z => ⟨z.1, by omega, ?_⟩
    have : i - k = (i - (k + 1)) + 1 := by omega
    rw [this]
    simpa using z.2.2
theorem mem_trues : ∀ {bs : List Bool} {k i : Nat}, i ∈ trues bs k ↔ k ≤ i ∧ bs[i - k]? = some true
  | [], k, i => by simp [trues]
  | true :: bs, k, i => by
    show i ∈ k :: trues bs (k + 1) ↔ _
    rw [List.mem_cons, mem_trues]
    constructor
    · rintro (z | ⟨z1, z2⟩)
      · subst z; exact ⟨Nat.le_refl _, by simp⟩
      · refine ⟨by omega, ?_⟩
        have : i - k = (i - (k + 1)) + 1 := by omega
        rw [this]; simpa using z2
    · rintro ⟨z1, z2⟩
      by_cases h : i = k
      · exact .inl h
      · refine .inr ⟨by omega, ?_⟩
        have : i - k = (i - (k + 1)) + 1 := by omega
        rw [this] at z2; simpa using z2
  | false :: bs, k, i => by
    show i ∈ trues bs (k + 1) ↔ _
    rw [mem_trues]
    constructor
    · rintro ⟨z1, z2⟩
      refine ⟨by omega, ?_⟩
      have : i - k = (i - (k + 1)) + 1 := by omega
      rw [this]; simpa using z2
    · rintro ⟨z1, z2⟩
      by_cases h : i = k
      · subst h; simp at z2
      · refine ⟨by omega, ?_⟩
        have : i - k = (i - (k + 1)) + 1 := by omega
        rw [this] at z2; simpa using z2
end
section
variable {K : PySem.W.Frag} {tbl : List Def} {gl : List PyData}
theorem envOf_lt {D : Def} {ds : List PyData} {i : Nat} {d : PyData} (h : ds[i]? = some d) : (envOf D ds)[i]? = some (if D.ios.contains i then Sl.ow d else .fz d) := by
  unfold envOf
  have hl : i < ds.length := (List.getElem?_eq_some_iff.mp h).1
  rw [List.getElem?_append_left (by rw [List.length_map, List.length_zipIdx]; exact hl), List.getElem?_map, List.getElem?_zipIdx, h]
  simp
theorem envOf_ge {D : Def} {ds : List PyData} {i : Nat} {s : Sl} (h : ds.length ≤ i) (e : (envOf D ds)[i]? = some s) : s = .no := by
  unfold envOf at e
  rw [List.getElem?_append_right (by rw [List.length_map, List.length_zipIdx]; exact h)] at e
  obtain ⟨_, e⟩ := List.getElem?_eq_some_iff.mp e
  rw [List.getElem_replicate] at e
  exact e.symm
theorem start_lt {N : List Str} {vs : List V} {i : Nat} {v : V} (h : vs[i]? = some v) : (L2.start N vs)[i]? = some (some v) := by
  unfold L2.start
  have hl : i < vs.length := (List.getElem?_eq_some_iff.mp h).1
  rw [List.getElem?_append_left (by rw [List.length_map]; exact hl), List.getElem?_map, h]
  rfl
theorem outs_of {ρ : PEnv} : ∀ {is : List Nat} {outs : List PyData}, outsOf ρ is = some outs → ∀ {P : Addr → Prop} {H : Hp} {as : List Addr}, Paired (fun i a => ∀ d, getO ρ i = some d → Own K H P a d) is as → OwnL K H P as outs
  | [], outs, e, _, _, _, .nil => by
    simp only [outsOf, Option.some.injEq] at e
    subst e; exact .nil
  | i :: is, outs, e, _, _, _, .cons h t => by
    simp only [outsOf] at e
    obtain ⟨d, e1, e⟩ := bind_some e
    obtain ⟨ds, e2, e⟩ := bind_some e
    cases e
    exact .cons (h d e1) (outs_of e2 t)
theorem outs_mem {ρ : PEnv} : ∀ {is : List Nat} {outs : List PyData}, outsOf ρ is = some outs → ∀ i, i ∈ is → ∃ d, getO ρ i = some d
  | [], _, _, i, h => by simp at h
  | j :: is, outs, e, i, h => by
    simp only [outsOf] at e
    obtain ⟨d, e1, e⟩ := bind_some e
    obtain ⟨ds, e2, e⟩ := bind_some e
    rcases List.mem_cons.mp h with z | z
    · subst z; exact ⟨d, e1⟩
    · exact outs_mem e2 i z
theorem body_ok {n f : Nat} {D : Def} {bs : List Bool} {N : List Str} (hf : tbl[f]? = some D) (hi : D.ios = trues bs 0) (hb : bs.length = D.np) (hN : N.length = D.ns) {vs : List V} {H : Hp} {Q : VK} {E : XK} (h : spP K (phi tbl gl (n + 1) f) bs vs H Q E) :
    tSs K (phi tbl gl n) gl D.ios D.body { nx := fun _ H' => Q .non H', rt := Q } (L2.start N vs) H := by
  obtain ⟨P, ds, d, outs, th, al, nd, hg, q⟩ := h
  simp only [phi, hf] at hg
  split at hg
  · rename_i hl
    obtain ⟨o, h1, hg⟩ := bind_some hg
    obtain ⟨l1, l2⟩ := al.length
    have iosm : ∀ {i}, i ∈ D.ios ↔ bs[i]? = some true := fun {i} => by rw [hi, mem_trues]; simp
    have pr0 := ioA_pair (ws := vs) (k := 0) al rfl
    rw [← hi] at pr0
    have pr : Paired (fun i a => vs[i]? = some (.ref a) ∧ bs[i]? = some true) D.ios (ioA bs vs) := Paired.mapP pr0 fun i a z => ⟨z.1, by simpa using z.2.2⟩
    -- a changed parameter
    have par : ∀ {i}, i ∈ D.ios → ∃ a x, vs[i]? = some (.ref a) ∧ ds[i]? = some x ∧ P a ∧ Own K H P a x := fun {i} hi => by
      obtain ⟨v, x, e1, e2, e3, _⟩ := al.get (iosm.mp hi)
      obtain ⟨a, e, p, o⟩ := e3 rfl
      subst e
      exact ⟨a, x, e1, e2, p, o⟩
    have hns : D.ns = N.length := hN.symm
    have s0 : EnvS K ⟨fun a => P a ∧ a ∉ ioA bs vs, fun a => a ∈ ioA bs vs, H, D.ios.zip (ioA bs vs)⟩ P D.ios (envOf D ds) (L2.start N vs) H := by
      refine ⟨⟨fun i hi => ?_, fun i j a hi hj e1 e2 => ?_, fun a z => z.1, fun i z => by simp at z, fun i hi => ?_, fun i x e => ?_, fun i x e => ?_, th, fun z => by simp at z, ?_⟩, fun a p => ?_, .refl, fun p hp hi => ?_⟩
      · obtain ⟨a, x, e1, e2, p, o⟩ := par hi
        exact ⟨a, start_lt e1, ⟨fun _ z => by simp at z, fun _ => p⟩, fun z => z.2 (ioA_mem al (iosm.mp hi) e1)⟩
      · obtain ⟨a1, x1, e3, _⟩ := par hi
        obtain ⟨a2, x2, e4, _⟩ := par hj
        rw [start_lt e3] at e1; cases e1
        rw [start_lt e4] at e2; cases e2
        exact ioA_inj al nd (iosm.mp hi) (iosm.mp hj) e3 e4
      · obtain ⟨a, x, e1, e2, p, o⟩ := par hi
        refine ⟨x, ?_⟩
        rw [envOf_lt e2, if_pos (by simpa using hi)]
      · by_cases hlt : i < ds.length
        · rw [envOf_lt (List.getElem?_eq_getElem hlt)] at e
          split at e
          · rename_i hc
            have hi' : i ∈ D.ios := by simpa using hc
            obtain ⟨a, x', e1, e2, p, o⟩ := par hi'
            rw [List.getElem?_eq_getElem hlt] at e2
            cases e2
            cases e
            exact ⟨hi', a, start_lt e1, o⟩
          · cases e
        · cases envOf_ge (by omega) e
      · by_cases hlt : i < ds.length
        · rw [envOf_lt (List.getElem?_eq_getElem hlt)] at e
          split at e
          · cases e
          · rename_i hc
            cases e
            have hbl : i < bs.length := by omega
            cases hv : bs[i] with
            | true => exact absurd (by simpa using iosm.mpr (by rw [List.getElem?_eq_getElem hbl, hv])) hc
            | false =>
              obtain ⟨v, x', e1, e2, _, e4⟩ := al.get (show bs[i]? = some false by rw [List.getElem?_eq_getElem hbl, hv])
              rw [List.getElem?_eq_getElem hlt] at e2
              cases e2
              exact ⟨v, start_lt e1, e4 rfl⟩
        · cases envOf_ge (by omega) e
      · unfold envOf L2.start
        rw [List.length_append, List.length_append, List.length_map, List.length_zipIdx, List.length_replicate, List.length_map, List.length_replicate]
        omega
      · by_cases z : a ∈ ioA bs vs
        · exact .inr (.inl z)
        · exact .inl ⟨p, z⟩
      · obtain ⟨k, hk⟩ := List.mem_iff_getElem?.mp hp
        rw [List.getElem?_zip_eq_some] at hk
        obtain ⟨a, g1, g2⟩ := prL pr hk.1
        rw [hk.2] at g1
        cases g1
        exact start_lt g2.1
    have len : D.ios.length = (ioA bs vs).length := Paired.length pr
    refine ⟨_, envOf D ds, o, ?_, ⟨P, D.ios, s0⟩, h1, ?_⟩
    · exact List.map_fst_zip (Nat.le_of_eq len)
    · have fin : ∀ v x ρ' σ' H' P' O', EnvS K ⟨fun a => P a ∧ a ∉ ioA bs vs, fun a => a ∈ ioA bs vs, H, D.ios.zip (ioA bs vs)⟩ P' O' ρ' σ' H' → outsOf ρ' D.ios = some outs → Rp K H' P' v x → x = d → Q v H' := by
        intro v x ρ' σ' H' P' O' s' ho r ed
        subst ed
        have slot : ∀ i a y, i ∈ D.ios → vs[i]? = some (.ref a) → getO ρ' i = some y → P' a ∧ Own K H' P' a y := fun i a y hi hv hy => by
          obtain ⟨hO, b, e, p, o⟩ := s'.atO hy
          obtain ⟨k, hk⟩ := List.mem_iff_getElem?.mp hi
          obtain ⟨a', g1, g2⟩ := prL pr hk
          rw [hv] at g2
          have ea : a' = a := by
            have := g2.1
            injection this with this
            injection this with this
            exact this.symm
          subst ea
          have := s'.io (i, a') (List.mem_of_getElem? (i := k) (by rw [List.getElem?_zip_eq_some]; exact ⟨hk, g1⟩)) hO
          rw [e] at this
          injection this with this
          injection this with this
          injection this with this
          subst this
          exact ⟨p, o⟩
        have sub : ∀ a, P a → P' a := fun a p => by
          by_cases z : a ∈ ioA bs vs
          · obtain ⟨k, hk⟩ := List.mem_iff_getElem?.mp z
            obtain ⟨i, g1, g2⟩ := prR pr hk
            obtain ⟨y, hy⟩ := outs_mem ho i (List.mem_of_getElem? g1)
            exact (slot i a y (List.mem_of_getElem? g1) g2.1 hy).1
          · exact s'.env.zp a ⟨p, z⟩
        have less : Ext P' P H' H' := .less sub
        refine q v H' s'.keep (r.ext less) (outs_of ho ?_)
        have mems : ∀ i, i ∈ D.ios → i ∈ D.ios := fun i z => z
        have key : ∀ {is : List Nat} {as : List Addr}, Paired (fun i a => vs[i]? = some (V.ref a) ∧ bs[i]? = some true) is as → (∀ i, i ∈ is → i ∈ D.ios) → Paired (fun i a => ∀ y, getO ρ' i = some y → Own K H' P a y) is as := by
          intro is as p
          induction p with
          | nil => exact fun _ => .nil
          | cons h t ih => exact fun hm => .cons (fun y hy => (slot _ _ y (hm _ (List.mem_cons_self ..)) h.1 hy).2.ext less fun _ z => z) (ih fun i hi => hm i (List.mem_cons_of_mem _ hi))
        exact key pr mems
      cases o with
      | nx ρ' =>
        dsimp only at hg
        obtain ⟨outs', h2, hg⟩ := bind_some hg
        cases hg
        exact fun σ' H' ⟨P', O', s'⟩ => fin .non _ ρ' σ' H' P' O' s' h2 .non rfl
      | bk ρ' => cases hg
      | rt x ρ' =>
        dsimp only at hg
        obtain ⟨outs', h2, hg⟩ := bind_some hg
        cases hg
        exact fun v σ' H' P' O' s' r => fin v _ ρ' σ' H' P' O' s' h2 r rfl
  · cases hg
/-- the promise of the def f -/
abbrev spF (K : PySem.W.Frag) (tbl : List Def) (gl : List PyData) (n f : Nat) (bs : List Bool) : Sp := spP K (phi tbl gl n f) bs
theorem spP_len {g : List PyData → Option (PyData × List PyData)} {bs : List Bool} {vs : List V} {H : Hp} {Q : VK} {E : XK} (h : spP K g bs vs H Q E) : vs.length = bs.length := by
  obtain ⟨P, ds, d, outs, th, al, _⟩ := h
  exact al.length.1
/-- what a def's body may use -/
structure Ctx (tbl : List Def) (gl : List PyData) (gn : List Str) (T : List (Str × List Bool)) (bn : List Str) (n : Nat) (X : Cx) : Prop where
  calm : X.calm = true
  room : Room n X.A
  free : ∀ x, x ∈ bn → X.mg x = none
  call : ∀ (f : Nat) (x : Str) (bs : List Bool), T[f]? = some (x, bs) → Cal X.prog X.w X.K X.mg X.base n x (spF X.K tbl gl n f bs)
  gstr : ∀ (g : Nat) (x z : Str), gn[g]? = some x → gl[g]? = some (.str z) → ∃ t, X.mg x = some (.str z t)
  gtup : ∀ (g : Nat) (x : Str) (ds : List PyData), gn[g]? = some x → gl[g]? = some (.tuple ds) → ∃ a xs, X.mg x = some (.ref a) ∧ (∀ H, SqT X.K H a xs) ∧ ∀ H P, RpAll X.K H P xs ds
theorem Ctx.units {tbl : List Def} {gl : List PyData} {gn : List Str} {T : List (Str × List Bool)} {bn : List Str} {n : Nat} {X : Cx} (C : Ctx tbl gl gn T bn n X) : X.A.units + 70 < cLine := by have := C.room.un; omega
theorem Ctx.blk {tbl : List Def} {gl : List PyData} {gn : List Str} {T : List (Str × List Bool)} {bn : List Str} {n : Nat} {X : Cx} (C : Ctx tbl gl gn T bn n X) (s : Shared) (H : Hp) (scope : Scope) (cenv : Env) (fp : List Addr) : Ctx tbl gl gn T bn n (X.blk s H scope cenv fp) where
  calm := C.calm
  room := C.room
  free := C.free
  call := C.call
  gstr := C.gstr
  gtup := C.gtup
/-- the def f at level n + 1, by its body -/
theorem cal_ok {P : Program} {w : World} {K : PySem.W.Frag} {mg : Str → Option Value} {base : Heap} {n f : Nat} {x qual : Str} {params : Arguments} {body : List Stmt} {scope : Scope} {fa : Addr} {fd : FuncData} {D : Def} {bs : List Bool} {N ps : List Str}
    (F : FunD K x qual params body scope [] [] fa fd) (hm : mg x = some (.ref fa)) (b : Binds K fd ps []) (S : FnScope N ps scope) (hl : ps.length = bs.length)
    (hf : tbl[f]? = some D) (hi : D.ios = trues bs 0) (hb : bs.length = D.np) (hN : N.length = D.ns)
    (hw : ∀ (qual' : Str) (cdv : Value) (A : Around) (outer : List Env) (s : Shared) (H : Hp) (E : XK), Room n (A.deeper (envOfC qual' scope s.heap.objs.size fa cdv)) → PSsv ((cxOf L2.CX0 P w K mg base N qual' scope fa cdv A outer s H E).nox) (phi tbl gl n) gl D.ios body D.body) :
    Cal P w K mg base (n + 1) x (spF K tbl gl (n + 1) f bs) := by
  refine ⟨fa, fd, ps, F.ok S (fun vs H Q E h => by rw [spP_len h, hl]) fun cdv A outer s H vs Q E hr h => ⟨_, PSs.nox (hw qual cdv A outer s H E hr), ?_⟩, hm, F.kp, b⟩
  exact body_ok hf hi hb hN h
/-- nothing is promised at level 0 -/
theorem cal_0 {P : Program} {w : World} {K : PySem.W.Frag} {mg : Str → Option Value} {base : Heap} {f : Nat} {x : Str} {fa : Addr} {fd : FuncData} {bs : List Bool} {ps : List Str} (hk : PySem.W.keepIn K (.ref fa) = true) (hm : mg x = some (.ref fa)) (b : Binds K fd ps []) :
    Cal P w K mg base 0 x (spF K tbl gl 0 f bs) := by
  have no : ∀ {vs : List V} {H : Hp} {Q : VK} {E : XK}, ¬ spF K tbl gl 0 f bs vs H Q E := fun ⟨_, _, _, _, _, _, _, h, _⟩ => by simp [phi] at h
  exact ⟨fa, fd, ps, ⟨fun vs H Q E h => (no h).elim, fun A outer s H args us vs Q E _ _ _ _ h => (no h).elim⟩, hm, hk, b⟩
end
end PP

/-! PP14: more built-in calls: isinstance, len(set(ints)), list(range), dict.get, join, the module's constants. -/
namespace PP
open PySem PySem.Spec PyProof.Rows L2 RZ
section
variable {X : Cx} {Φ : Nat → List PyData → Option (PyData × List PyData)} {gl : List PyData} {a b c : Expr} {ea eb ec : E} {pos p p2 q cpos apos : Pos}
/-! isinstance -/
def tyN : PyData → String
  | .none => "NoneType"
  | .bool _ => "bool"
  | .int _ => "int"
  | .str _ => "str"
  | .tuple _ => "tuple"
  | .list _ => "list"
  | .dict _ => "dict"
theorem kit_rp {pins : List (Addr × Obj)} {σ : L2.St} {H : Hp} {s : Shared} {P : Addr → Prop} {v : V} {u : Value} {d : PyData} (I : Inv X pins σ H s) (rx : RelV v u) (r : Rp X.K H P v d) :
    ∃ P : Heap → Prop, PySem.W.KitX X.K u (.type (tyN d)) P ∧ P s.heap ∧ u ≠ .builtin "__main__.__loader__#opaque" := by
  cases r with
  | non => exact kit_of I rx (.base .non)
  | bl y => exact kit_of I rx (.base (.bl y))
  | int y => exact kit_of I rx (.base (.int y))
  | str y => exact kit_of I rx (.base (.str y))
  | lst n h _ => exact kit_of I rx (.base (.lst h))
  | tup h _ => exact kit_of I rx (.base (.tup h))
  | @dk a kvs ds n h _ =>
    cases (show u = Value.ref a from rx)
    obtain ⟨_, _, vs, _, o, es, ep, h1, h2, _⟩ := dk_rd I.hok h.rd
    exact ⟨_, PySem.W.kitx_dict, ⟨o, h1, h2.1⟩, fun z => nomatch z⟩
  | @dt a kvs ds n h _ =>
    cases (show u = Value.ref a from rx)
    obtain ⟨_, _, xs, _, o, es, ep, h1, h2, _⟩ := dt_rd I.hok h.rd
    exact ⟨_, PySem.W.kitx_dict, ⟨o, h1, h2.1⟩, fun z => nomatch z⟩
theorem isT_ok {K : PySem.W.Frag} {t : String} {d : PyData} {b : Bool} {P : Addr → Prop} {H : Hp} {v : V} (r : Rp K H P v d) (h : isT t d = some b) : PySem.W.kitOne K (.type (tyN d)) (.type t) = some b := by
  have go : ∀ (n : String) (g : String → Bool), (if t ∈ ["int", "str", "tuple", "list", "dict", "bool"] then some (g t) else none) = some b → (∀ t, t ∈ ["int", "str", "tuple", "list", "dict", "bool"] → kitB n t = some (g t)) → PySem.W.kitOne K (.type n) (.type t) = some b := fun n g e k => by
    split at e
    · rename_i ht
      cases e
      exact kit_ty (k t ht)
    · cases e
  cases r with
  | non => exact go "NoneType" (fun _ => false) h (by decide +kernel)
  | bl y => exact go "bool" (fun t => t == "bool" || t == "int") h (by decide +kernel)
  | int y => exact go "int" (fun t => t == "int") h (by decide +kernel)
  | str y => exact go "str" (fun t => t == "str") h (by decide +kernel)
  | lst n h' _ => exact go "list" (fun t => t == "list") h (by decide +kernel)
  | tup h' _ => exact go "tuple" (fun t => t == "tuple") h (by decide +kernel)
  | dk n h' _ => exact go "dict" (fun t => t == "dict") h (by decide +kernel)
  | dt n h' _ => exact go "dict" (fun t => t == "dict") h (by decide +kernel)
theorem e_isI {t : Str} {T : String} {pt : Pos} (hg : Gl X "isinstance") (hm : X.mg "isinstance" = none) (hgt : Gl X t) (hmt : X.mg t = none) (hvt : bootBuiltins t = some (.type T)) (ha : PEv X Φ gl a ea) (hio : isIo ea = false := by rfl) (hnt : t ≠ "__name__" := by decide) (hdt : (t == ("__debug__" : Str)) = false := by decide)
    (he : starEach [a, .Name t pt] X.env = (false, eval a X.env) :: starEach [.Name t pt] X.env := by rfl) (hpl : (backTo pos (starEach [.Name t pt] X.env)).any (·.1) = false := by rfl) (he2 : starEach [.Name t pt] X.env = (false, eval (.Name t pt) X.env) :: starEach [] X.env := by rfl) :
    PEv X Φ gl (.Call (.Name "isinstance" p) [a, .Name t pt] [] pos) (.bi (.isI T) (.cons ea .nil)) := by
  have hc : CallR X (.builtin "isinstance") (fun xs H Q => ∃ v P d b, xs = [v, .ty T] ∧ Rp X.K H P v d ∧ isT T d = some b ∧ Q (.bl b) H) := by
    intro pins s σ H xs us Q I r ⟨v, P, d, b, e, rp, ht, w⟩
    subst e
    obtain ⟨u1, u2, rfl, r1, r2⟩ := vals2 r
    cases (show u2 = Value.type T from r2)
    obtain ⟨P', Z, pp, hx⟩ := kit_rp I r1 rp
    exact PySem.W.kia_one Z I.kIn pp (isT_ok rp ht) hx fun tk => ⟨.bl b, H, I.tok tk, rfl, w⟩
  have hty : PE X (.Name t pt) (tC (.ty T)) := pe_bltn hgt hmt hvt rfl hnt hdt
  refine (pe_callB hc hg hm rfl (pa_cons ha (pa_cons hty pa_nil he2) he) (by decide) (by decide) he hpl).imp fun σ H Q ⟨F, ρ, d, fl, ρ', en, sa, sm, h, q⟩ => ?_
  simp only [ev, evs] at h
  obtain ⟨⟨ds, ρ1⟩, h1, h⟩ := bind_some h
  obtain ⟨⟨x, fx, ρ2⟩, h2, h1⟩ := bind_some h1
  cases h1
  obtain ⟨⟨d', f'⟩, h3, h⟩ := bind_some h
  cases h
  simp only [biV, v_isI] at h3
  obtain ⟨b, h4, e4⟩ := Option.map_eq_some_iff.mp h3
  cases e4
  exact one en (by simpa [als, alss] using sa) (by simpa [mods, modss] using sm) h2 fun v H1 en1 k1 r1 => ⟨v, F.P, x, b, rfl, r1.rp, h4, fin_sh en1 k1 q (.bl b)⟩

/-! len(set(ints)) -/
theorem firstMet_dedup {ns : List Int} : ∀ k, k ≤ ns.length → PyProof.Rows.firstMet (fun i => ns.getD i 0) k = dedupI (ns.take k)
  | 0, _ => rfl
  | k + 1, h => by
    have hl : k < ns.length := h
    have e1 : ns.getD k 0 = ns[k] := by
      rw [List.getD_eq_getElem?_getD, List.getElem?_eq_getElem hl] <;> rfl
    rw [PyProof.Rows.firstMet_succ, firstMet_dedup k (Nat.le_of_lt hl), List.take_add_one, List.getElem?_eq_getElem hl]
    unfold dedupI
    rw [List.foldl_append]
    show (if (List.foldl _ [] (ns.take k)).any (· == ns.getD k 0) then _ else _ ++ [ns.getD k 0]) = (if (List.foldl _ [] (ns.take k)).any (· == ns[k]) then _ else _ ++ [ns[k]])
    rw [e1]
theorem e_lenSet (hg : Gl X "len") (hm : X.mg "len" = none) (hg2 : Gl X "set") (hm2 : X.mg "set" = none) (ha : PEv X Φ gl a ea) (hc : X.calm = true)
    (na : starEach [a] X.env = (false, eval a X.env) :: starEach [] X.env := by rfl) : PEv X Φ gl (.Call (.Name "len" p) [.Call (.Name "set" p2) [a] [] q] [] pos) (.bi .lenSet (.cons ea .nil)) := by
  refine ⟨fun pins s σ H Q I ⟨F, ρ, d, fl, ρ', en, sa, sm, h, w⟩ => ?_⟩
  simp only [ev, evs] at h
  obtain ⟨⟨ds, ρ1⟩, h1, h⟩ := bind_some h
  obtain ⟨⟨x, fx, ρ2⟩, h2, h1⟩ := bind_some h1
  cases h1
  obtain ⟨⟨d', f'⟩, h3, h⟩ := bind_some h
  cases h
  refine Call_ (ld_blt I hg hm boot_len ?_)
  refine PyProof.Rows.callWith_builtin1 (PyProof.Rows.args_cons ?_ rfl) rfl rfl
  refine Call_ (ld_blt I hg2 hm2 boot_set ?_)
  refine PyProof.Rows.callWith_type1 (PyProof.Rows.args_cons (thn (ha.run pins s σ H _ I (one (Q := fun v H1 => ∃ l ns, v = .ref l ∧ SqL X.K H1 l (ns.map V.int) ∧ ns.length ≤ 4000 ∧ Q (.int (dedupI ns).length) H1) en (by simpa [als, alss] using sa) (by simpa [mods, modss] using sm) h2 fun v H1 en1 k1 r1 => ?_)) fun v s1 ⟨x, H1, I1, r1, q1⟩ => PyProof.Rows.args_nil ?_) na) na rfl
  · simp only [biV, v_lenSet] at h3
    cases x with
    | list xs =>
      dsimp only at h3
      obtain ⟨ns, h4, h3⟩ := bind_some h3
      split at h3
      · rename_i hz
        cases h3
        cases r1.rp with
        | lst n hh ra =>
          have := ints_rp h4 ra
          subst this
          exact ⟨_, ns, rfl, .inl (.inl hh), hz, fin_sh en1 k1 w (.int _)⟩
      · cases h3
    | _ => simp at h3
  · obtain ⟨l, ns, rfl, hq, hl, q1⟩ := q1
    cases r1
    obtain ⟨its, r, pl, hz⟩ := I1.list hq
    have hlen : its.toArray.size = ns.length := by rw [List.size_toArray, ← r.length, List.length_map]
    refine call_set_list (I1.ok.hd hc) pl.isList (by simpa using RZ.intsAre_vals r) (by rw [hlen]; unfold scanBound; omega) fun h' tk hS hk => ?_
    refine PyProof.Rows.args_nil ?_
    rw [hlen, firstMet_dedup ns.length (Nat.le_refl _), List.take_length] at hS
    obtain ⟨o, es, ep, t, ho, hex, hd, _, _, _, hf, hn⟩ := hS
    have I2 : Inv X pins σ H1 { s1 with heap := h', toks := tk } := I1.kept fun b o e => hk b o (Heap.lt_size e) e
    have hsz : (dedupI ns).length ≤ ns.length := by
      have : ∀ (l acc : List Int), (l.foldl (fun acc x => if acc.any (· == x) then acc else acc ++ [x]) acc).length ≤ acc.length + l.length := by
        intro l
        induction l with
        | nil => intro acc; simp
        | cons y l ih =>
          intro acc
          rw [List.foldl_cons]
          refine Nat.le_trans (ih _) ?_
          rw [List.length_cons]
          split
          · omega
          · rw [List.length_append]; simp; omega
      simpa [dedupI] using this ns []
    exact call_len_set ho hex hd hf (by rw [hn] <;> omega) ⟨.int (dedupI ns).length, H1, I2.tok _, ⟨_, by rw [hn]⟩, q1⟩

/-! list(range(..)) -/
theorem rgV_rp {K : PySem.W.Frag} {H : Hp} {P : Addr → Prop} {lo : Int} : ∀ (l : List Nat), RpAll K H P (l.map fun i => V.int (lo + (i : Nat))) (l.map fun k => PyData.int (lo + (k : Nat)))
  | [] => .nil
  | _ :: l => .cons (.int _) (rgV_rp l)
theorem e_listRg1 (hc : X.calm = true) (hg : Gl X "list") (hm : X.mg "list" = none) (hg2 : Gl X "range") (hm2 : X.mg "range" = none) (ha : PEv X Φ gl a ea) (na : starEach [a] X.env = (false, eval a X.env) :: starEach [] X.env := by rfl)
    (nb : starEach [.Call (.Name "range" p2) [a] [] q] X.env = (false, eval (.Call (.Name "range" p2) [a] [] q) X.env) :: starEach [] X.env := by rfl) : PEv X Φ gl (.Call (.Name "list" p) [.Call (.Name "range" p2) [a] [] q] [] pos) (.bi .listRange (.cons ea .nil)) :=
  (pe_listRg hc hg hm (prg_1 hg2 hm2 ha na) nb).imp fun σ H Q ⟨F, ρ, d, fl, ρ', en, sa, sm, h, w⟩ => by
    simp only [ev, evs] at h
    obtain ⟨⟨ds, ρ1⟩, h1, h⟩ := bind_some h
    obtain ⟨⟨x, fx, ρ2⟩, h2, h1⟩ := bind_some h1
    cases h1
    obtain ⟨⟨d', f'⟩, h3, h⟩ := bind_some h
    cases h
    simp only [biV, v_listRange] at h3
    obtain ⟨xs, h4, h3⟩ := bind_some h3
    split at h3
    · rename_i hz
      cases h3
      refine one en (by simpa [als, alss] using sa) (by simpa [mods, modss] using sm) h2 fun v H1 en1 k1 r1 => ?_
      cases x with
      | int j =>
        simp only [rngD] at h4
        split at h4
        · rename_i hb
          cases h4
          rw [rp_ints r1.rp]
          unfold rngOk at hb
          simp only [Bool.and_eq_true, decide_eq_true_eq] at hb
          rw [List.length_map, List.length_range, sizeLine_eq] at hz
          have e : (j - 0).toNat = j.toNat := by simp
          refine ⟨j, rfl, ⟨by omega, by omega, hb.1.2, hb.2, by rw [e]; omega⟩, ?_⟩
          unfold rgV
          rw [e]
          exact (fin en1 k1 w).lst (rgV_rp _)
        · cases h4
      | _ => simp [rngD] at h4
    · cases h3
theorem e_listRg2 (hc : X.calm = true) (hg : Gl X "list") (hm : X.mg "list" = none) (hg2 : Gl X "range") (hm2 : X.mg "range" = none) (ha : PEv X Φ gl a ea) (hb : PEv X Φ gl b eb) (na : starEach [a, b] X.env = (false, eval a X.env) :: starEach [b] X.env := by rfl) (nb2 : starEach [b] X.env = (false, eval b X.env) :: starEach [] X.env := by rfl) (hp : (backTo q (starEach [b] X.env)).any (·.1) = false := by rfl)
    (nb : starEach [.Call (.Name "range" p2) [a, b] [] q] X.env = (false, eval (.Call (.Name "range" p2) [a, b] [] q) X.env) :: starEach [] X.env := by rfl) : PEv X Φ gl (.Call (.Name "list" p) [.Call (.Name "range" p2) [a, b] [] q] [] pos) (.bi .listRange (.cons ea (.cons eb .nil))) :=
  (pe_listRg hc hg hm (prg_2 hg2 hm2 ha hb na nb2 hp) nb).imp fun σ H Q ⟨F, ρ, d, fl, ρ', en, sa, sm, h, w⟩ => by
    simp only [ev, evs] at h
    obtain ⟨⟨ds, ρ1⟩, h1, h⟩ := bind_some h
    obtain ⟨⟨x, fx, ρ2⟩, h2, h1⟩ := bind_some h1
    obtain ⟨⟨ys, ρ3⟩, h5, h1⟩ := bind_some h1
    cases h1
    obtain ⟨⟨y, fy, ρ4⟩, h6, h5⟩ := bind_some h5
    cases h5
    obtain ⟨⟨d', f'⟩, h3, h⟩ := bind_some h
    cases h
    simp only [biV, v_listRange] at h3
    obtain ⟨xs, h4, h3⟩ := bind_some h3
    split at h3
    · rename_i hz
      cases h3
      refine two en (by simpa [als, alss] using sa) (by simpa [mods, modss] using sm) h2 h6 fun v w' H1 en1 k1 r1 r2 => ?_
      have ij : ∃ i j : Int, x = .int i ∧ y = .int j := by
        cases x <;> cases y <;> first | exact ⟨_, _, rfl, rfl⟩ | simp [rngD] at h4
      obtain ⟨i, j, rfl, rfl⟩ := ij
      simp only [rngD] at h4
      split at h4
      · rename_i hb
        cases h4
        rw [rp_ints r1, rp_ints r2]
        unfold rngOk at hb
        simp only [Bool.and_eq_true, decide_eq_true_eq] at hb
        rw [List.length_map, List.length_range, sizeLine_eq] at hz
        exact ⟨i, j, rfl, rfl, ⟨hb.1.1.1, hb.1.1.2, hb.1.2, hb.2, by omega⟩, (fin en1 k1 w).lst (rgV_rp _)⟩
      · cases h4
    · cases h3

/-! sep.join(texts) -/
theorem e_join (ha : PEv X Φ gl a ea) (hb : PEv X Φ gl b eb) (hs : starEach [b] X.env = [(false, eval b X.env)] := by rfl) (hbase : attributeBase a "join" X.env (eval a X.env) = eval a X.env := by rfl) (hline : (apos.endLine == cpos.line) = true := by rfl) :
    PEv X Φ gl (.Call (.Attribute a "join" apos) [b] [] cpos) (.bi .join (.cons ea (.cons eb .nil))) :=
  (pe_join ha hb hs hbase hline).imp fun σ H Q ⟨F, ρ, d, fl, ρ', en, sa, sm, h, w⟩ => by
    simp only [ev, evs] at h
    obtain ⟨⟨ds, ρ1⟩, h1, h⟩ := bind_some h
    obtain ⟨⟨x, fx, ρ2⟩, h2, h1⟩ := bind_some h1
    obtain ⟨⟨ys, ρ3⟩, h5, h1⟩ := bind_some h1
    cases h1
    obtain ⟨⟨y, fy, ρ4⟩, h6, h5⟩ := bind_some h5
    cases h5
    obtain ⟨⟨d', f'⟩, h3, h⟩ := bind_some h
    cases h
    have sa : ∀ i, i ∈ als ea ++ als eb → i ∈ F.A := by simpa [als, alss] using sa
    have sm : ∀ i, i ∈ mods ea ++ mods eb → i ∈ F.M := by simpa [mods, modss] using sm
    have h3 : v_join [x, y] = some (d', f') := h3
    unfold v_join at h3
    split at h3
    · rename_i z1 z2
      injection z2 with z2 z3
      injection z3 with z3 _
      subst z2 z3
      obtain ⟨ss, h7, h3⟩ := bind_some h3
      split at h3
      · rename_i hz
        cases h3
        refine one en (fun i z => sa i (List.mem_append_left _ z)) (fun i z => sm i (List.mem_append_left _ z)) h2 fun v H1 en1 k1 r1 => ?_
        cases r1.rp
        refine ⟨⟨_, rfl⟩, one en1 (fun i z => sa i (List.mem_append_right _ z)) (fun i z => sm i (List.mem_append_right _ z)) h6 fun u H2 en2 k2 r2 => ?_⟩
        cases r2.rp with
        | lst n hh ra =>
          have := strs_rp h7 ra
          subst this
          exact ⟨_, _, ss, rfl, rfl, .inl (.inl (.inl hh)), hz, by rw [TL.join_eq]; exact fin_sh en2 (k1.trans k2) w (.str _)⟩
      · cases h3
    · cases h3

/-! d.get(k), d.get(k, x) -/
theorem dict_ty {pins : List (Addr × Obj)} {σ : L2.St} {H : Hp} {s : Shared} {P : Addr → Prop} {v : V} {u : Value} {ds : List (PyData × PyData)} (I : Inv X pins σ H s) (rx : RelV v u) (r : Rp X.K H P v (.dict ds)) :
    s.TypeIs u "dict" ∧ ∀ b, u = .ref b → ∃ ob, s.heap.get? b = some ob ∧ ob.dict = none := by
  cases r with
  | @dk a kvs _ n h _ =>
    cases (show u = Value.ref a from rx)
    obtain ⟨_, _, vs, _, dd⟩ := dk_rd I.hok h.rd
    refine ⟨dd.typeIs, fun b e => ?_⟩
    cases e
    obtain ⟨ob, _, _, h1, h2, _⟩ := dd
    exact ⟨ob, h1, h2.2.1⟩
  | @dt a kvs _ n h _ =>
    cases (show u = Value.ref a from rx)
    obtain ⟨_, _, vs, _, dd⟩ := dt_rd I.hok h.rd
    refine ⟨dd.typeIs, fun b e => ?_⟩
    cases e
    obtain ⟨ob, _, _, h1, h2, _⟩ := dd
    exact ⟨ob, h1, h2.2.1⟩
theorem e_get1 (hu : X.A.units + 70 < cLine) (ha : PEv X Φ gl a ea) (hb : PEv X Φ gl b eb) (m : M1 X a "get" apos b cpos) : PEv X Φ gl (.Call (.Attribute a "get" apos) [b] [] cpos) (.bi .get (.cons ea (.cons eb .nil))) := by
  refine ⟨fun pins s σ H Q I ⟨F, ρ, d, fl, ρ', en, sa, sm, h, w⟩ => ?_⟩
  simp only [ev, evs] at h
  obtain ⟨⟨ds, ρ1⟩, h1, h⟩ := bind_some h
  obtain ⟨⟨x, fx, ρ2⟩, h2, h1⟩ := bind_some h1
  obtain ⟨⟨ys, ρ3⟩, h5, h1⟩ := bind_some h1
  cases h1
  obtain ⟨⟨y, fy, ρ4⟩, h6, h5⟩ := bind_some h5
  cases h5
  obtain ⟨⟨d', f'⟩, h3, h⟩ := bind_some h
  cases h
  have sa : ∀ i, i ∈ als ea ++ als eb → i ∈ F.A := by simpa [als, alss] using sa
  have sm : ∀ i, i ∈ mods ea ++ mods eb → i ∈ F.M := by simpa [mods, modss] using sm
  cases x with
  | dict kvs =>
    have h3 : v_get [.dict kvs, y] = some (d', f') := h3
    simp only [v_get] at h3
    obtain ⟨kk, h7, h3⟩ := bind_some h3
    split at h3
    · rename_i hf
      cases h3
      refine wpAny_Call_method m.base m.few m.line PySem.F.plainAttrs_dict PySem.F.slot_dict_get PySem.F.type_dict_get (thn (ha.run pins s σ H _ I (one (Q := fun v H1 => Rp X.K H1 F.P v (.dict kvs) ∧ EnvOk X.K F ρ2 σ H1 ∧ Keep (Wr σ F.M) H H1) en (fun i z => sa i (List.mem_append_left _ z)) (fun i z => sm i (List.mem_append_left _ z)) h2 fun v H1 en1 k1 r1 => ⟨r1.rp, en1, k1⟩)) fun u s1 ⟨v, H1, I1, rv, rp1, en1, k1⟩ => ?_)
      obtain ⟨t1, t2⟩ := dict_ty I1 rv rp1
      refine ⟨t1, t2, ?_⟩
      rw [m.trees]
      refine Calls.callWith_builtin rfl (Calls.evalArgs_plain (Calls.spliced_cons (thn (hb.run pins s1 σ H1 _ I1 (one (Q := fun v2 H2 => Rp X.K H2 F.P v (.dict kvs) ∧ Rp X.K H2 F.P v2 y ∧ EnvOk X.K F ρ4 σ H2 ∧ Keep (Wr σ F.M) H H2) en1 (fun i z => sa i (List.mem_append_right _ z)) (fun i z => sm i (List.mem_append_right _ z)) h6 fun v2 H2 en2 k2 r2 => ⟨rp1.ext (k2.ext fun a z => en1.wr z), r2.rp, en2, k1.trans k2⟩)) fun iv s2 ⟨v2, H2, I2, ry, ra, rb, en2, k2⟩ => Calls.spliced_nil ?_)))
      obtain ⟨a', o, H3, ex, I3, back, g, g1, g2⟩ := dget_of I2 ra rb h7 hf
      subst ex
      obtain rfl : u = Value.ref a' := rv
      refine d_get1 (by omega) I3 g ry fun w' s3 I4 rw' => ⟨_, H2, back s3 I4, rw', fin_sh en2 k2 w ?_⟩
      cases hq : dlook kvs kk with
      | none => rw [g2 hq]; exact .non
      | some dv =>
        obtain ⟨v', e', r'⟩ := g1 dv hq
        rw [e']; exact r'
    · cases h3
  | _ => simp [biV, v_get] at h3
theorem e_get2 (hu : X.A.units + 70 < cLine) (ha : PEv X Φ gl a ea) (hb : PEv X Φ gl b eb) (hc : PEv X Φ gl c ec) (m : M2 X a "get" apos b c cpos) : PEv X Φ gl (.Call (.Attribute a "get" apos) [b, c] [] cpos) (.bi .get (.cons ea (.cons eb (.cons ec .nil)))) := by
  refine ⟨fun pins s σ H Q I ⟨F, ρ, d, fl, ρ', en, sa, sm, h, w⟩ => ?_⟩
  simp only [ev, evs] at h
  obtain ⟨⟨ds, ρ1⟩, h1, h⟩ := bind_some h
  obtain ⟨⟨x, fx, ρ2⟩, h2, h1⟩ := bind_some h1
  obtain ⟨⟨ys, ρ3⟩, h5, h1⟩ := bind_some h1
  cases h1
  obtain ⟨⟨y, fy, ρ4⟩, h6, h5⟩ := bind_some h5
  obtain ⟨⟨zs, ρ5⟩, h8, h5⟩ := bind_some h5
  cases h5
  obtain ⟨⟨z, fz, ρ6⟩, h9, h8⟩ := bind_some h8
  cases h8
  obtain ⟨⟨d', f'⟩, h3, h⟩ := bind_some h
  cases h
  have sa : ∀ i, i ∈ als ea ++ (als eb ++ als ec) → i ∈ F.A := by simpa [als, alss] using sa
  have sm : ∀ i, i ∈ mods ea ++ (mods eb ++ mods ec) → i ∈ F.M := by simpa [mods, modss] using sm
  cases x with
  | dict kvs =>
    have h3 : v_get [.dict kvs, y, z] = some (d', f') := h3
    simp only [v_get] at h3
    obtain ⟨kk, h7, h3⟩ := bind_some h3
    split at h3
    · rename_i hf
      cases h3
      refine wpAny_Call_method m.base m.few m.line PySem.F.plainAttrs_dict PySem.F.slot_dict_get PySem.F.type_dict_get (thn (ha.run pins s σ H _ I (one (Q := fun v H1 => Rp X.K H1 F.P v (.dict kvs) ∧ EnvOk X.K F ρ2 σ H1 ∧ Keep (Wr σ F.M) H H1) en (fun i z => sa i (List.mem_append_left _ z)) (fun i z => sm i (List.mem_append_left _ z)) h2 fun v H1 en1 k1 r1 => ⟨r1.rp, en1, k1⟩)) fun u s1 ⟨v, H1, I1, rv, rp1, en1, k1⟩ => ?_)
      obtain ⟨t1, t2⟩ := dict_ty I1 rv rp1
      refine ⟨t1, t2, ?_⟩
      rw [m.trees]
      refine Calls.callWith_builtin rfl (Calls.evalArgs_plain (Calls.spliced_cons (thn (hb.run pins s1 σ H1 _ I1 (one (Q := fun v2 H2 => Rp X.K H2 F.P v (.dict kvs) ∧ Rp X.K H2 F.P v2 y ∧ EnvOk X.K F ρ4 σ H2 ∧ Keep (Wr σ F.M) H H2) en1 (fun i z => sa i (by simp [z])) (fun i z => sm i (by simp [z])) h6 fun v2 H2 en2 k2 r2 => ⟨rp1.ext (k2.ext fun a z => en1.wr z), r2.rp, en2, k1.trans k2⟩)) fun iv s2 ⟨v2, H2, I2, ry, ra, rb, en2, k2⟩ =>
        Calls.spliced_cons (thn (hc.run pins s2 σ H2 _ I2 (one (Q := fun v3 H3 => Rp X.K H3 F.P v (.dict kvs) ∧ Rp X.K H3 F.P v2 y ∧ Rp X.K H3 F.P v3 z ∧ EnvOk X.K F ρ6 σ H3 ∧ Keep (Wr σ F.M) H H3) en2 (fun i z => sa i (by simp [z])) (fun i z => sm i (by simp [z])) h9 fun v3 H3 en3 k3 r3 => ⟨ra.ext (k3.ext fun a z => en2.wr z), rb.ext (k3.ext fun a z => en2.wr z), r3.rp, en3, k2.trans k3⟩)) fun zv s3 ⟨v3, H3, I3, rz, ra, rb, rc, en3, k3⟩ => Calls.spliced_nil ?_))))
      obtain ⟨a', o, H4, ex, I4, back, g, g1, g2⟩ := dget_of I3 ra rb h7 hf
      subst ex
      obtain rfl : u = Value.ref a' := rv
      refine d_get2 (by omega) I4 g ry rz fun w' s4 I5 rw' => ⟨_, H3, back s4 I5, rw', fin_sh en3 k3 w ?_⟩
      cases hq : dlook kvs kk with
      | none => rw [g2 hq]; exact rc
      | some dv =>
        obtain ⟨v', e', r'⟩ := g1 dv hq
        rw [e']; exact r'
    · cases h3
  | _ => simp [biV, v_get] at h3
end
end PP

/-! PP15: the module's tuples and texts; dict displays. -/
namespace PP
open PySem PySem.Spec PyProof.Rows L2 RZ
section
variable {X : Cx} {Φ : Nat → List PyData → Option (PyData × List PyData)} {gl : List PyData} {a b c tg : Expr} {ea eb ec : E} {pos p : Pos}
theorem in_const (neg : Bool) (hu : X.A.units + 64 < cLine) {t : Addr} {xs : List V} {ds : List PyData} (hq : ∀ H, SqT X.K H t xs) (hr : ∀ H P, RpAll X.K H P xs ds) :
    OpR X (compareOp (if neg then .NotIn else .In)) (fun x y H Q => ∃ P dx b, y = .ref t ∧ Rp X.K H P x dx ∧ inV dx (.tuple ds) = some b ∧ Q (.bl (if neg then !b else b)) H) := by
  intro pins s σ H x y v u Q I rx ry ⟨P, dx, b, ey, hx, e, q⟩
  subst ey
  have hd : mxD = 40 := rfl
  simp only [inV] at e
  split at e
  · rename_i c
    rw [Bool.and_eq_true] at c
    obtain ⟨p1, d1⟩ := okD_and c.1
    obtain ⟨p2, d2⟩ := okD_and c.2
    have p2 : PyData.plainAll ds = true := by simpa [PyData.plain] using p2
    obtain ⟨as, r1⟩ := hx.reads I p1 rx
    obtain ⟨bs, r2⟩ := Dp.reads I (.tuple ds) _ _ (.tup (hq H) ((hr H P).dp p2)) ry
    cases e
    have hm := Nat.min_le_right (PyData.depthAll ds) dx.depth
    cases neg with
    | false => exact SeqAt.in_tuple_data r2 r1 p2 p1 (by omega) ⟨.bl _, H, I, rfl, q⟩
    | true => exact SeqAt.notIn_tuple_data r2 r1 p2 p1 (by omega) ⟨.bl _, H, I, rfl, q⟩
  · cases e
/-- x in T, T a tuple of the module -/
theorem e_inG {x : Str} {g : Nat} {ds : List PyData} (hu : X.A.units + 70 < cLine) (hg : Gl X x) (hm : ∃ t xs, X.mg x = some (.ref t) ∧ (∀ H, SqT X.K H t xs) ∧ ∀ H P, RpAll X.K H P xs ds) (he : gl[g]? = some (.tuple ds)) (ha : PEv X Φ gl a ea) (hb : behindInMarks .In (.Name x p) = false := by with_unfolding_all rfl) (hd : (x == ("__debug__" : Str)) = false := by decide) :
    PEv X Φ gl (.Compare a [.In] [.Name x p] pos) (.inG false ea g) := by
  obtain ⟨t, xs, hm, hq, hr⟩ := hm
  exact (pe_cmpR (in_const false (by omega) hq hr) ha (pe_glob hg hm (v := .ref t) rfl hd) hb).imp fun σ H Q ⟨F, ρ, d, fl, ρ', en, sa, sm, h, q⟩ => by
    simp only [ev, he] at h
    obtain ⟨⟨y, fy, ρ1⟩, h1, h⟩ := bind_some h
    obtain ⟨_, e, h⟩ := bind_some h
    cases e
    obtain ⟨b, h2, h⟩ := bind_some h
    cases h
    exact one en (by simpa [als] using sa) (by simpa [mods] using sm) h1 fun v H1 en1 k1 r1 => ⟨F.P, y, b, rfl, r1.rp, h2, fin_sh en1 k1 q (.bl _)⟩
theorem e_ninG {x : Str} {g : Nat} {ds : List PyData} (hu : X.A.units + 70 < cLine) (hg : Gl X x) (hm : ∃ t xs, X.mg x = some (.ref t) ∧ (∀ H, SqT X.K H t xs) ∧ ∀ H P, RpAll X.K H P xs ds) (he : gl[g]? = some (.tuple ds)) (ha : PEv X Φ gl a ea) (hb : behindInMarks .NotIn (.Name x p) = false := by with_unfolding_all rfl) (hd : (x == ("__debug__" : Str)) = false := by decide) :
    PEv X Φ gl (.Compare a [.NotIn] [.Name x p] pos) (.inG true ea g) := by
  obtain ⟨t, xs, hm, hq, hr⟩ := hm
  exact (pe_cmpR (in_const true (by omega) hq hr) ha (pe_glob hg hm (v := .ref t) rfl hd) hb).imp fun σ H Q ⟨F, ρ, d, fl, ρ', en, sa, sm, h, q⟩ => by
    simp only [ev, he] at h
    obtain ⟨⟨y, fy, ρ1⟩, h1, h⟩ := bind_some h
    obtain ⟨_, e, h⟩ := bind_some h
    cases e
    obtain ⟨b, h2, h⟩ := bind_some h
    cases h
    exact one en (by simpa [als] using sa) (by simpa [mods] using sm) h1 fun v H1 en1 k1 r1 => ⟨F.P, y, b, rfl, r1.rp, h2, fin_sh en1 k1 q (.bl _)⟩
/-- for .. in T -/
theorem i_globT {x : Str} {g : Nat} {ds : List PyData} (hg : Gl X x) (hm : ∃ t xs, X.mg x = some (.ref t) ∧ (∀ H, SqT X.K H t xs) ∧ ∀ H P, RpAll X.K H P xs ds) (he : gl[g]? = some (.tuple ds)) (hd : (x == ("__debug__" : Str)) = false := by decide) : PIv X Φ gl tg (.Name x p) (.glob g) := by
  obtain ⟨t, xs, hm, hq, hr⟩ := hm
  exact (pi_tup (pe_glob hg hm (v := .ref t) rfl hd)).imp fun σ H R ⟨F, ρ, d, ρ', en, sa, sm, h, q⟩ => by
    simp only [evi, he] at h
    obtain ⟨_, e, h⟩ := bind_some h
    cases e
    obtain ⟨_, e, h⟩ := bind_some h
    cases e
    cases h
    exact ⟨t, rfl, ⟨xs, hq H⟩, q _ _ en .refl (it_tup (fun H2 _ => hq H2) (hr H _))⟩
theorem i_globS {x : Str} {g : Nat} {z : Str} (hg : Gl X x) (hm : ∃ t, X.mg x = some (.str z t)) (he : gl[g]? = some (.str z)) (hd : (x == ("__debug__" : Str)) = false := by decide) : PIv X Φ gl tg (.Name x p) (.glob g) := by
  obtain ⟨t, hm⟩ := hm
  exact (pi_str (pe_glob hg hm (v := .str z) ⟨t, rfl⟩ hd)).imp fun σ H R ⟨F, ρ, d, ρ', en, sa, sm, h, q⟩ => by
    simp only [evi, he] at h
    obtain ⟨_, e, h⟩ := bind_some h
    cases e
    obtain ⟨_, e, h⟩ := bind_some h
    cases e
    cases h
    exact ⟨z, rfl, q _ _ en .refl it_str⟩
theorem e_globS {x : Str} {g : Nat} {z : Str} (hg : Gl X x) (hm : ∃ t, X.mg x = some (.str z t)) (he : gl[g]? = some (.str z)) (hd : (x == ("__debug__" : Str)) = false := by decide) : PEv X Φ gl (.Name x pos) (.glob g) := by
  obtain ⟨t, hm⟩ := hm
  exact e_glob hg hm he hd
/-- {} -/
theorem e_dic0 : PEv X Φ gl (.Dict [] [] pos) (.dic .nil) :=
  pe_dnewK.imp fun σ H Q ⟨F, ρ, d, fl, ρ', en, sa, sm, h, q⟩ => by
    have h : some (PyData.dict [], Fl.fr, ρ) = some (d, fl, ρ') := by simpa [ev, evs, pairUp, dictOf] using h
    cases h
    exact (fin en .refl q).dk .nil
theorem blk_of {N N' : List Str} {sc sc' scope : Scope} {own : List (Str × Nat)} (hN : N' = N) (hs : sc' = sc) (h : blkC N sc scope own = true) : BlkOk N' sc' scope own := by
  subst hN hs
  exact blkOk_by h
theorem sw_loc {elt : Expr} {gs : List Comprehension} {scope sc : Scope} {pos py : Pos} {y : Str} {l : Nat} {env : Env} (hs : env.scope = sc) (hk : (sc.kind == .function) = true) (hy : decide (sc.names.lookup y = some .local) = true) (hl : (py.line == pos.line) = true)
    (ha : (scope.names.any fun (n, k) => n == y && (k == .local || k == .cell)) = false) : swapsWith (.ListComp elt gs scope pos) (some (.Name y py)) l env = pure true := by
  subst hs
  exact sw_true (by
    cases h : env.scope.kind <;> rw [h] at hk <;> first | rfl | cases hk) (of_decide_eq_true hy) hl ha
theorem sw_cell {elt : Expr} {gs : List Comprehension} {scope sc : Scope} {pos py : Pos} {y : Str} {l : Nat} {env : Env} (hs : env.scope = sc) (hy : decide (sc.names.lookup y = some .cell) = true) : swapsWith (.ListComp elt gs scope pos) (some (.Name y py)) l env = pure false := by
  subst hs
  have hy := of_decide_eq_true hy
  have ky : env.kindOf y = some .cell := hy
  unfold swapsWith
  simp only [ky]
  cases (env.blockKind == ScopeKind.function) <;> rfl
end
/-! ### a comprehension's block, its scope looked up -/
theorem rel_free {sc : Scope} : ∀ {names : List (Str × NameKind)} {x : Str}, names.lookup x = some .free →
    (names.map fun (n, k) => if (k == NameKind.free && sc.kind == .function && sc.names.lookup n == some .cell) then (n, NameKind.cell) else (n, k)).lookup x = some .free ∨
    (names.map fun (n, k) => if (k == NameKind.free && sc.kind == .function && sc.names.lookup n == some .cell) then (n, NameKind.cell) else (n, k)).lookup x = some .cell
  | [], _, h => by simp at h
  | (n, k₀) :: r, x, h => by
    have ih := @rel_free sc r x
    show List.lookup x ((if (k₀ == NameKind.free && sc.kind == .function && sc.names.lookup n == some .cell) = true then (n, NameKind.cell) else (n, k₀)) :: (r.map _)) = _ ∨ List.lookup x ((if (k₀ == NameKind.free && sc.kind == .function && sc.names.lookup n == some .cell) = true then (n, NameKind.cell) else (n, k₀)) :: (r.map _)) = _
    cases hx : x == n with
    | true =>
      simp only [List.lookup_cons, hx] at h
      cases h
      split
      · simp only [List.lookup_cons, hx]; exact .inr trivial
      · simp only [List.lookup_cons, hx]; exact .inl trivial
    | false =>
      simp only [List.lookup_cons, hx] at h
      split
      · simp only [List.lookup_cons, hx]; exact ih h
      · simp only [List.lookup_cons, hx]; exact ih h
theorem lookC {scope : Scope} {cl : List (Str × Addr)} {C : Addr} {env : Env} {x : Str} {k : NameKind} (hk : k ≠ .free) (h : scope.names.lookup x = some k) : (compEnvC scope cl C env).scope.names.lookup x = some k := lookup_relS_keep (sc := env.scope) hk h
theorem lookF {scope : Scope} {cl : List (Str × Addr)} {C : Addr} {env : Env} {x : Str} (h : scope.names.lookup x = some .free) : (compEnvC scope cl C env).scope.names.lookup x = some .free ∨ (compEnvC scope cl C env).scope.names.lookup x = some .cell := rel_free (sc := env.scope) h
theorem visC {scope : Scope} {cl : List (Str × Addr)} {C : Addr} {env : Env} {x : Str} (h : visB scope x = true) : Vis (compEnvC scope cl C env).scope x := by
  rcases vis_of (sc' := scope) rfl h with h | h | h
  · exact .inl (lookC (fun z => nomatch z) h)
  · exact .inr (.inl (lookC (fun z => nomatch z) h))
  · rcases lookF (cl := cl) (C := C) (env := env) h with h | h
    · exact .inr (.inr h)
    · exact .inr (.inl h)
theorem locC {scope : Scope} {cl : List (Str × Addr)} {C : Addr} {env : Env} {x : Str} (h : locB scope x = true) : Loc (compEnvC scope cl C env).scope x := by
  rcases loc_of (sc' := scope) rfl h with h | h
  · exact .inl (lookC (fun z => nomatch z) h)
  · exact .inr (lookC (fun z => nomatch z) h)
theorem glC {X : Cx} {s : Shared} {H : Hp} {sc scope : Scope} {cl : List (Str × Addr)} {C : Addr} {env : Env} {fp : List Addr} {x : Str} (h : decide (scope.names.lookup x = some .globalImplicit) = true) : Gl (X.blk s H sc (compEnvC scope cl C env) fp) x := lookC (fun z => nomatch z) (of_decide_eq_true h)
/-- a block's own name is stored -/
theorem hfC {X : Cx} {s : Shared} {H : Hp} {scope : Scope} {cl : List (Str × Addr)} {C : Addr} {env : Env} {fp : List Addr} {x : Str} (h : locB scope x = true) : (X.blk s H scope (compEnvC scope cl C env) fp).fn x = true ∨ (X.blk s H scope (compEnvC scope cl C env) fp).env.scope.names.lookup x = some .local := by
  rcases loc_of (sc' := scope) rfl h with h | h
  · exact .inr (lookC (fun z => nomatch z) h)
  · refine .inl ?_
    show (scope.names.lookup x == some .cell) = true
    rw [h]; rfl
theorem blkIn {N N' : List Str} {scope1 scope : Scope} {cl : List (Str × Addr)} {C : Addr} {env : Env} {own : List (Str × Nat)} (hN : N' = N) (h : blkC N scope1 scope own = true) : BlkOk N' (compEnvC scope1 cl C env).scope scope own := by
  subst hN
  obtain ⟨a, b, c, d, e⟩ := blkOk_by h
  refine ⟨a, b, c, fun y hy z => ?_, e⟩
  rcases d y hy z with h | h
  · exact .inl (lookC (fun z => nomatch z) h)
  · exact (lookF h).symm
theorem crDict {X : Cx} (hc : X.calm = true) : CallR X (.type "dict") (rA X.K (biV .dict)) := by
  intro pins s σ H xs us Q I r ⟨P, ds, d, fl, hr, e, w⟩
  refine tyDict hc pins s σ H xs us Q I r ⟨P, ds, d, fl, hr, ?_, w⟩
  have e : v_dict ds = some (d, fl) := e
  unfold v_dict at e
  split at e
  · exact e
  · exact e
  · cases e
end PP

/-! PP16: the laws' _law_draws: what it gives are numbers below 997, as many as asked for. -/
namespace PP
open PySem PySem.Spec PyProof.Rows L2 RZ
/-! slots: script 0 many 1 draws 2 mixed 3 k 4 cell 5 rest 6 turn 7 -/
section
variable (K : PySem.W.Frag)
abbrev dAdd : R2 := rI0 fun i j => .int (i + j)
abbrev dMul : R2 := rI CMul fun i j => .int (i * j)
abbrev dMod : R2 := rI (fun _ j => 0 < j) fun i j => .int (i % j)
abbrev dDiv : R2 := rI CDiv fun i j => .int (i / j)
abbrev dPow : R2 := rI CPow fun i j => .int (i ^ j.toNat)
abbrev dGe : R2 := rI0 fun i j => .bl (decide (j ≤ i))
abbrev dGt : R2 := rI0 fun i j => .bl (decide (j < i))
abbrev dInt : List V → Hp → VK → Prop := fun xs H Q => (∃ i, xs = [.int i] ∧ Q (.int i) H) ∨ ∃ k, xs = [.bl k] ∧ Q (.int (if k then 1 else 0)) H
abbrev dAbs : List V → Hp → VK → Prop := fun xs H Q => ∃ i, xs = [.int i] ∧ Q (.int (if i < 0 then -i else i)) H
abbrev dLen : List V → Hp → VK → Prop := fun xs H Q => ∃ x n, xs = [x] ∧ LenV K x H n ∧ Q (.int n) H
/-- int(e) -/
abbrev tInt (t : TE) : TE := tCB dInt (tCons t tNil)
abbrev tI' (i : Int) : TE := tC (.int i)
/-- draws.append(e) -/
abbrev tApp (t : TE) : TS := tDrop (tBM K "list" rAppend (tVar 2) (tCons t tNil))
/-- int(i) % 997 -/
abbrev tDr (i : Nat) : TE := tOp dMod (tInt (tVar i)) (tI' 997)
def t_turn : TS := tIfS (tTest (tOp dGt (tVar 6) (tI' 0))) (tSeq (tApp K (tDr 6)) (tSeq (tAsg (tOp dDiv (tVar 6) (tI' 997)) (gName 6)) tNext)) tNext
def t_cellB : TS := tSeq (tAsg (tCB dAbs (tCons (tInt (tOp (rIx K) (tVar 0) (tVar 4))) tNil)) (gName 5))
  (tSeq (tAsg (tOp dMod (tInt (tOp dAdd (tOp dAdd (tOp dMul (tVar 3) (tI' 48271)) (tOp dMod (tVar 5) (tI' 1000003))) (tVar 4))) (tI' 65537)) (gName 3))
  (tSeq (tAsg (tI' 0) (gName 6))
  (tSeq (tIfS (tTest (tOp dGe (tVar 5) (tOp dPow (tI' 10) (tI' 18)))) (tSeq (tAsg (tVar 5) (gName 6)) tNext)
    (tSeq (tApp K (tDr 5)) (tSeq (tApp K (tOp dMod (tOp dMod (tInt (tOp dAdd (tOp dMul (tVar 3) (tI' 69621)) (tI' 5))) (tI' 65521)) (tI' 997))) tNext)))
  (tSeq (tFor (iRng1 (tCons (tI' 60) tNil)) (gName 7) (tSeq (t_turn K) tNext)) tNext))))
def t_more : TS := tSeq (tAsg (tOp dMod (tInt (tOp dAdd (tOp dAdd (tOp dMul (tVar 3) (tI' 16807)) (tVar 4)) (tI' 1))) (tI' 65537)) (gName 3)) (tSeq (tApp K (tDr 3)) tNext)
def t_draws : TS := tSeq (tAsg (tLst tNil) (gName 2)) (tSeq (tAsg (tI' 7) (gName 3))
  (tSeq (tFor (iRng1 (tCons (tCB (dLen K) (tCons (tVar 0) tNil)) tNil)) (gName 4) (t_cellB K))
  (tSeq (tFor (iRng1 (tCons (tVar 1) tNil)) (gName 4) (t_more K))
  (tSeq (tRet (tSl (rSlL K) (tVar 2) tNoPart (tPart (tVar 1)))) tNext))))
end
/-- the promise: a new list of that many numbers below 997 -/
def spDr (K : PySem.W.Frag) : Sp := fun vs H Q _ => ∃ (a : Addr) (ns : List Int) (many : Nat), vs = [.ref a, .int (many : Nat)] ∧ SqL K H a (ns.map V.int) ∧ ns.length ≤ 63 ∧ many ≤ 1000 ∧
  ∀ (p : Addr) (ms : List Int) (H' : Hp), (∀ b o, H b = some o → H' b = some o) → H p = none → H' p = some (.lst (ms.map V.int)) → ms.length = many → (∀ m, m ∈ ms → 0 ≤ m ∧ m < 997) → Q (.ref p) H'
/-- what stands through the loops -/
structure DSt (K : PySem.W.Frag) (a p : Addr) (many : Nat) (H0 : Hp) (bound lo : Nat) (σ : L2.St) (H : Hp) : Prop where
  s0 : σ[0]? = some (some (.ref a))
  s1 : σ[1]? = some (some (.int (many : Nat)))
  s2 : σ[2]? = some (some (.ref p))
  mx : ∃ m : Int, σ[3]? = some (some (.int m)) ∧ 0 ≤ m ∧ m < 65537
  ls : ∃ ms : List Int, H p = some (.lst (ms.map V.int)) ∧ ms.length ≤ bound ∧ lo ≤ ms.length ∧ ∀ m, m ∈ ms → 0 ≤ m ∧ m < 997
  old : ∀ b o, H0 b = some o → H b = some o
  new : H0 p = none
  len : σ.length = 8
section
variable {K : PySem.W.Frag} {a p : Addr} {many bound lo : Nat} {H0 H : Hp} {σ : L2.St}
theorem DSt.set (d : DSt K a p many H0 bound lo σ H) {i : Nat} {v : V} (hi : 4 ≤ i) : DSt K a p many H0 bound lo (σ.set i (some v)) H := by
  have off : ∀ j, j < 4 → (σ.set i (some v))[j]? = σ[j]? := fun j hj => List.getElem?_set_ne (by omega)
  exact ⟨by rw [off 0 (by decide)]; exact d.s0, by rw [off 1 (by decide)]; exact d.s1, by rw [off 2 (by decide)]; exact d.s2, by rw [off 3 (by decide)]; exact d.mx, d.ls, d.old, d.new, by rw [List.length_set]; exact d.len⟩
theorem DSt.mix (d : DSt K a p many H0 bound lo σ H) {m : Int} (h0 : 0 ≤ m) (h1 : m < 65537) : DSt K a p many H0 bound lo (σ.set 3 (some (.int m))) H := by
  have off : ∀ j, j ≠ 3 → (σ.set 3 (some (V.int m)))[j]? = σ[j]? := fun j hj => List.getElem?_set_ne fun z => hj z.symm
  exact ⟨by rw [off 0 (by decide)]; exact d.s0, by rw [off 1 (by decide)]; exact d.s1, by rw [off 2 (by decide)]; exact d.s2, ⟨m, List.getElem?_set_self (by rw [d.len]; decide), h0, h1⟩, d.ls, d.old, d.new, by rw [List.length_set]; exact d.len⟩
theorem DSt.at (d : DSt K a p many H0 bound lo σ H) {i : Nat} {v : V} (hi : i < 8) : (σ.set i (some v))[i]? = some (some v) := List.getElem?_set_self (by rw [d.len]; exact hi)
theorem DSt.weak (d : DSt K a p many H0 bound lo σ H) {bound' lo' : Nat} (h : bound ≤ bound') (h' : lo' ≤ lo) : DSt K a p many H0 bound' lo' σ H :=
  ⟨d.s0, d.s1, d.s2, d.mx, let ⟨ms, h1, h2, h3, h4⟩ := d.ls; ⟨ms, h1, Nat.le_trans h2 h, Nat.le_trans h' h3, h4⟩, d.old, d.new, d.len⟩
theorem sq_old {xs : List V} (k : ∀ b o, H0 b = some o → H b = some o) (h : SqL K H0 a xs) : SqL K H a xs := by
  rcases h with (h | ⟨o, h⟩) | h
  · exact .inl (.inl (k _ _ h))
  · exact .inl (.inr ⟨o, k _ _ h⟩)
  · exact .inr h
theorem app_ok {t : TE} {v : Int} (ht : ∀ Q : VK, Q (.int v) H → t σ H Q) (hv : 0 ≤ v ∧ v < 997) (d : DSt K a p many H0 bound lo σ H) (hb : bound < 100000) {D : Ends} (q : ∀ H', DSt K a p many H0 (bound + 1) (lo + 1) σ H' → D.nx σ H') : tApp K t D σ H := by
  obtain ⟨ms, h1, h2, h3, h4⟩ := d.ls
  refine ⟨_, d.s2, .inl ⟨rfl, _, .inl (.inl h1)⟩, ht _ ?_⟩
  refine ⟨p, _, _, rfl, rfl, h1, by rw [List.length_map, sizeLine_eq]; omega, q _ ?_⟩
  refine ⟨d.s0, d.s1, d.s2, d.mx, ⟨ms ++ [v], by rw [upd_same, List.map_append]; rfl, by rw [List.length_append]; simp; omega, by rw [List.length_append]; simp; omega, fun m hm => ?_⟩, fun b o e => ?_, d.new, d.len⟩
  · rcases List.mem_append.mp hm with z | z
    · exact h4 m z
    · have : m = v := by simpa using z
      subst this; exact hv
  · rw [upd_ne (ne_of_none e d.new)]
    exact d.old b o e
theorem var_ok {i : Nat} {v : V} (h : σ[i]? = some (some v)) {Q : VK} (q : Q v H) : tVar i σ H Q := ⟨v, h, q⟩
theorem int_ok {t : TE} {v : Int} (ht : ∀ Q : VK, Q (.int v) H → t σ H Q) {Q : VK} (q : Q (.int v) H) : tInt t σ H Q := ht _ (.inl ⟨v, rfl, q⟩)
theorem add_ok {t u : TE} {v w : Int} (ht : ∀ Q : VK, Q (.int v) H → t σ H Q) (hu : ∀ Q : VK, Q (.int w) H → u σ H Q) {Q : VK} (q : Q (.int (v + w)) H) : tOp dAdd t u σ H Q := ht _ (hu _ ⟨v, w, rfl, rfl, q⟩)
theorem mul_ok {t u : TE} {v w : Int} (ht : ∀ Q : VK, Q (.int v) H → t σ H Q) (hu : ∀ Q : VK, Q (.int w) H → u σ H Q) (h1 : 0 ≤ v) (h2 : v < 65537) {Q : VK} (q : Q (.int (v * w)) H) : tOp dMul t u σ H Q := ht _ (hu _ ⟨v, w, rfl, rfl, .inl ⟨by omega, by omega⟩, q⟩)
theorem mod_ok {t u : TE} {v w : Int} (ht : ∀ Q : VK, Q (.int v) H → t σ H Q) (hu : ∀ Q : VK, Q (.int w) H → u σ H Q) (h1 : 0 < w) {Q : VK} (q : Q (.int (v % w)) H) : tOp dMod t u σ H Q := ht _ (hu _ ⟨v, w, rfl, rfl, h1, q⟩)
theorem dr_ok {i : Nat} {v : Int} (h : σ[i]? = some (some (.int v))) {Q : VK} (q : Q (.int (v % 997)) H) : tDr i σ H Q :=
  mod_ok (fun Q q => int_ok (fun Q q => var_ok h q) q) (fun Q q => q) (by decide) q
theorem mod_rng (v : Int) {w : Int} (h : 0 < w) : 0 ≤ v % w ∧ v % w < w := ⟨Int.emod_nonneg _ (by omega), Int.emod_lt_of_pos _ h⟩
theorem asg_int {u : TS} {D : Ends} {i : Nat} {v : Int} (h : u D (σ.set i (some (.int v))) H) : tSeq (tAsg (tI' v) (gName i)) u D σ H := h
/-- the turns over a great cell -/
theorem turn_ok {D : Ends} {r : Int} (hr : σ[6]? = some (some (.int r))) (h0 : 0 ≤ r) (d : DSt K a p many H0 bound lo σ H) (hb : bound < 100000)
    (q : ∀ σ' H' r', σ'[6]? = some (some (.int r')) → 0 ≤ r' → DSt K a p many H0 (bound + 1) lo σ' H' → D.nx σ' H') : t_turn K D σ H := by
  refine ⟨_, hr, r, 0, rfl, rfl, _, rfl, ?_⟩
  show (if decide ((0 : Int) < r) = true then _ else _)
  by_cases hp : (0 : Int) < r
  · rw [if_pos (decide_eq_true hp)]
    refine app_ok (fun Q q => dr_ok hr q) (mod_rng r (by decide)) d hb fun H1 d1 => ?_
    refine ⟨_, hr, r, 997, rfl, rfl, ⟨by decide, by decide⟩, ?_⟩
    exact q _ _ (r / 997) (d1.at (by decide)) (Int.ediv_nonneg h0 (by decide)) ((d1.set (by decide)).weak (Nat.le_refl _) (Nat.le_succ _))
  · rw [if_neg (by simp; omega)]
    exact q _ _ r hr h0 (d.weak (Nat.le_succ _) (Nat.le_refl _))
theorem cell_ok {D : Ends} {ns : List Int} {i : Nat} (hq : SqL K H0 a (ns.map V.int)) (hi : i < ns.length) (hk : σ[4]? = some (some (.int (i : Nat)))) (d : DSt K a p many H0 bound lo σ H) (hb : bound < 90000)
    (q : ∀ σ' H', DSt K a p many H0 (bound + 62) lo σ' H' → D.nx σ' H') : t_cellB K D σ H := by
  have sq := sq_old d.old hq
  obtain ⟨m, hm, m0, m1⟩ := d.mx
  -- cell
  refine ⟨_, d.s0, _, hk, .inl ⟨a, _, _, V.int (cellOf ns i), rfl, rfl, sq, atI_cell hi, .inl ⟨_, rfl, _, rfl, ?_⟩⟩⟩
  generalize hc : (if cellOf ns i < 0 then -cellOf ns i else cellOf ns i) = c
  have c0 : 0 ≤ c := by subst hc; split <;> omega
  have d1 := d.set (i := 5) (v := .int c) (by decide)
  have k1 : (σ.set 5 (some (V.int c)))[4]? = some (some (.int (i : Nat))) := by rw [List.getElem?_set_ne (by decide)]; exact hk
  have e1 : (σ.set 5 (some (V.int c)))[5]? = some (some (.int c)) := d.at (by decide)
  have m2 : (σ.set 5 (some (V.int c)))[3]? = some (some (.int m)) := by rw [List.getElem?_set_ne (by decide)]; exact hm
  show tSeq _ _ D (σ.set 5 (some (V.int c))) H
  generalize σ.set 5 (some (V.int c)) = σ1 at d1 k1 e1 m2 ⊢
  -- mixed
  refine mod_ok (fun Q q => int_ok (fun Q q => add_ok (fun Q q => add_ok (fun Q q => mul_ok (fun Q q => var_ok m2 q) (fun Q q => q) m0 m1 q) (fun Q q => mod_ok (fun Q q => var_ok e1 q) (fun Q q => q) (by decide) q) q) (fun Q q => var_ok k1 q) q) q) (fun Q q => q) (by decide) ?_
  obtain ⟨x0, x1⟩ := mod_rng (m * 48271 + c % 1000003 + (i : Nat)) (w := 65537) (by decide)
  generalize (m * 48271 + c % 1000003 + ((i : Nat) : Int)) % 65537 = m' at x0 x1 ⊢
  have d2 := d1.mix x0 x1
  have e2 : (σ1.set 3 (some (V.int m')))[5]? = some (some (.int c)) := by rw [List.getElem?_set_ne (by decide)]; exact e1
  show tSeq _ _ D (σ1.set 3 (some (V.int m'))) H
  generalize σ1.set 3 (some (V.int m')) = σ2 at d2 e2 ⊢
  -- rest
  refine asg_int ?_
  have d3 := d2.set (i := 6) (v := .int 0) (by decide)
  have e3 : (σ2.set 6 (some (V.int 0)))[5]? = some (some (.int c)) := by rw [List.getElem?_set_ne (by decide)]; exact e2
  have r3 : (σ2.set 6 (some (V.int 0)))[6]? = some (some (.int 0)) := d2.at (by decide)
  generalize σ2.set 6 (some (V.int 0)) = σ3 at d3 e3 r3 ⊢
  -- the walk over the turns
  have turns : ∀ (σ4 : L2.St) (H4 : Hp) (r : Int), σ4[6]? = some (some (.int r)) → 0 ≤ r → DSt K a p many H0 (bound + 2) lo σ4 H4 → tSeq (tFor (iRng1 (tCons (tI' 60) tNil)) (gName 7) (tSeq (t_turn K) tNext)) tNext D σ4 H4 := by
    intro σ4 H4 r hr h0 d4
    refine ⟨60, rfl, by decide, by decide, for_range (fun j σ H => ∃ r, σ[6]? = some (some (V.int r)) ∧ 0 ≤ r ∧ DSt K a p many H0 (bound + 2 + j) lo σ H) ⟨r, hr, h0, d4⟩ (fun j σ5 H5 hj ⟨r5, hr5, h5, d5⟩ => ?_) fun σ5 H5 ⟨r5, _, _, d5⟩ => q _ _ d5⟩
    have d6 := d5.set (i := 7) (v := .int (0 + (j : Nat))) (by decide)
    refine turn_ok (D := { D with nx := _, ct := _, bk := _ }) (by rw [List.getElem?_set_ne (by decide)]; exact hr5) h5 d6 (by
      have : j < 60 := hj
      omega) fun σ' H' r' a1 a2 a3 => ⟨r', a1, a2, a3⟩
  refine ⟨_, e3, 10, 18, rfl, rfl, ⟨by decide, by decide, by decide⟩, c, _, rfl, rfl, _, rfl, ?_⟩
  show (if decide ((10 : Int) ^ (18 : Int).toNat ≤ c) = true then _ else _)
  by_cases hg : (10 : Int) ^ (18 : Int).toNat ≤ c
  · rw [if_pos (decide_eq_true hg)]
    refine ⟨_, e3, ?_⟩
    exact turns _ _ c (d3.at (by decide)) c0 ((d3.set (by decide)).weak (by omega) (Nat.le_refl _))
  · rw [if_neg (by rw [decide_eq_true_eq]; exact hg)]
    refine app_ok (fun Q q => dr_ok e3 q) (mod_rng c (by decide)) d3 (by omega) fun H5 d5 => ?_
    obtain ⟨m5, hm5, y0, y1⟩ := d5.mx
    refine app_ok (fun Q q => mod_ok (fun Q q => mod_ok (fun Q q => int_ok (fun Q q => add_ok (fun Q q => mul_ok (fun Q q => var_ok hm5 q) (fun Q q => q) y0 y1 q) (fun Q q => q) q) q) (fun Q q => q) (by decide) q) (fun Q q => q) (by decide) q) (mod_rng _ (by decide)) d5 (by omega) fun H6 d6 => ?_
    exact turns _ _ 0 r3 (by decide) (d6.weak (Nat.le_refl _) (by omega))
theorem more_ok {D : Ends} {i : Nat} (hk : σ[4]? = some (some (.int (i : Nat)))) (d : DSt K a p many H0 bound lo σ H) (hb : bound < 90000)
    (q : ∀ σ' H', DSt K a p many H0 (bound + 1) (lo + 1) σ' H' → D.nx σ' H') : t_more K D σ H := by
  obtain ⟨m, hm, m0, m1⟩ := d.mx
  refine mod_ok (fun Q q => int_ok (fun Q q => add_ok (fun Q q => add_ok (fun Q q => mul_ok (fun Q q => var_ok hm q) (fun Q q => q) m0 m1 q) (fun Q q => var_ok hk q) q) (fun Q q => q) q) q) (fun Q q => q) (by decide) ?_
  obtain ⟨x0, x1⟩ := mod_rng (m * 16807 + (i : Nat) + 1) (w := 65537) (by decide)
  have d2 := d.mix x0 x1
  exact app_ok (fun Q q => dr_ok (d.at (by decide)) q) (mod_rng _ (by decide)) d2 (by omega) fun H' d' => q _ _ d'
theorem draws_run {N : List Str} (hN : N.length = 8) {vs : List V} {Q : VK} {E : XK} (h : spDr K vs H Q E) : t_draws K { nx := fun _ H' => Q .non H', rt := Q } (L2.start N vs) H := by
  obtain ⟨a, ns, many, rfl, hq, hl, hm, q⟩ := h
  have hs : L2.start N [V.ref a, .int (many : Nat)] = [some (.ref a), some (.int (many : Nat)), none, none, none, none, none, none] := by
    unfold L2.start
    rw [hN]; rfl
  rw [hs]
  refine ⟨Nat.zero_le _, fun p hp => ?_⟩
  have d0 : DSt K a p many H 0 0 [some (.ref a), some (.int (many : Nat)), some (.ref p), some (.int 7), none, none, none, none] (upd H p (.lst [])) :=
    ⟨rfl, rfl, rfl, ⟨7, rfl, by decide, by decide⟩, ⟨[], upd_same, Nat.le_refl _, Nat.le_refl _, fun m hm => by simp at hm⟩, fun b o e => by rw [upd_ne (ne_of_none e hp)]; exact e, hp, rfl⟩
  show tSeq (tAsg (tI' 7) (gName 3)) _ _ [some (.ref a), some (.int (many : Nat)), some (.ref p), none, none, none, none, none] (upd H p (.lst []))
  refine asg_int ?_
  show tSeq _ _ _ [some (.ref a), some (.int (many : Nat)), some (.ref p), some (.int 7), none, none, none, none] (upd H p (.lst []))
  refine ⟨_, rfl, V.ref a, _, rfl, .inl ⟨_, sq_old d0.old hq, rfl⟩, _, rfl, by omega, by rw [List.length_map]; omega, ?_⟩
  rw [Int.toNat_natCast, List.length_map]
  refine for_range (fun i σ H' => DSt K a p many H (i * 62) 0 σ H') (by simpa using d0) (fun i σ H' hi d => ?_) fun σ H' d => ?_
  · have d1 := d.set (i := 4) (v := .int (0 + (i : Nat))) (by decide)
    refine cell_ok (D := { nx := _, rt := _, bk := _, ct := _ }) hq hi (by rw [d.at (by decide), Int.zero_add]) d1 (by omega) fun σ' H' d' => by
      have : (i + 1) * 62 = i * 62 + 62 := by omega
      show DSt K a p many H ((i + 1) * 62) 0 σ' H'
      rw [this]; exact d'
  · refine ⟨_, d.s1, many, rfl, by omega, by omega, ?_⟩
    rw [Int.toNat_natCast]
    refine for_range (fun i σ H' => DSt K a p many H (ns.length * 62 + i) i σ H') (by simpa using d) (fun i σ H' hi d => ?_) fun σ H' d => ?_
    · have d1 := d.set (i := 4) (v := .int (0 + (i : Nat))) (by decide)
      exact more_ok (D := { nx := _, rt := _, bk := _, ct := _ }) (by rw [d.at (by decide), Int.zero_add]) d1 (by omega) fun σ' H' d' => d'
    · obtain ⟨ms, h1, h2, h3, h4⟩ := d.ls
      refine ⟨_, d.s2, _, d.s1, _, rfl, p, _, rfl, .inl (.inl h1), fun p' hp' => ?_⟩
      have ec : cutV (ms.map V.int) none (some ((many : Nat) : Int)) = (ms.take many).map V.int := by
        unfold cutV
        have e1 : HT.sIx (ms.map V.int).length 0 none = 0 := rfl
        have e2 : HT.sIx (ms.map V.int).length (ms.map V.int).length (some ((many : Nat) : Int)) = many := by
          rw [HT.sIx_nat, List.length_map]
          omega
        rw [e1, e2, List.drop_zero, Nat.sub_zero, List.map_take]
      rw [ec]
      have hp0 : H p' = none := by
        cases e : H p' with
        | none => rfl
        | some o => rw [d.old p' o e] at hp'; cases hp'
      exact q p' (ms.take many) _ (fun b o e => by rw [upd_ne (ne_of_none e hp0)]; exact d.old b o e) hp0 upd_same (by rw [List.length_take]; omega) fun m hm => h4 m (List.mem_of_mem_take hm)
end
end PP

/-! PP17: a law's def, from its first statement on. -/
namespace PP
open PySem PySem.Spec PyProof.Rows L2 RZ
def spLaw (K : PySem.W.Frag) : Sp := fun vs H Q _ => ∃ (a : Addr) (ns : List Int), vs = [.ref a] ∧ SqL K H a (ns.map V.int) ∧ ns.length ≤ 63 ∧ ∀ H', Q (.bl true) H'
section
variable {K : PySem.W.Frag}
/-- {'draws': _law_draws(script, many), 'at': 0, ..} -/
def tW (K : PySem.W.Frag) (many : Nat) (kd : Str) (cs : List (Str × Int)) : List (TE × TE) := (tC (.str kd), tCall (spDr K) [] L2.E0 (tCons (tVar 0) (tCons (tC (.int (many : Nat))) tNil))) :: cs.map fun c => (tC (.str c.1), tC (.int c.2))
theorem pairs_cs {σ : L2.St} {H : Hp} {Q : List (V × V) → Hp → Prop} : ∀ (cs : List (Str × Int)), Q (cs.map fun c => (V.str c.1, V.int c.2)) H → tPairs (cs.map fun c => (tC (.str c.1), tC (.int c.2))) σ H Q
  | [], q => q
  | c :: cs, q => pairs_cs (Q := fun ps H3 => Q ((V.str c.1, V.int c.2) :: ps) H3) cs q
theorem rp_ints_all {H : Hp} {P : Addr → Prop} : ∀ ms : List Int, RpAll K H P (ms.map V.int) (ms.map PyData.int)
  | [] => .nil
  | m :: ms => .cons (.int m) (rp_ints_all ms)
theorem rp_cs {H : Hp} {P : Addr → Prop} : ∀ cs : List (Str × Int), RpAll K H P (cs.map fun c => V.int c.2) (cs.map fun c => PyData.int c.2)
  | [] => .nil
  | c :: cs => .cons (.int _) (rp_cs cs)
theorem zip_cs : ∀ cs : List (Str × Int), ((cs.map fun c => (Sum.inr c.1 : L2.Key)).zip (cs.map fun c => V.int c.2)) = cs.map fun c => (Sum.inr c.1, V.int c.2)
  | [] => rfl
  | c :: cs => by rw [List.map_cons, List.map_cons, List.zip_cons_cons, zip_cs cs]; rfl
/-- the law's state at its start -/
def wD (ms : List Int) (kd : Str) (cs : List (Str × Int)) : List (PyData × PyData) := (.str kd, .list (ms.map .int)) :: cs.map fun c => (.str c.1, .int c.2)
def ρ0 (n : Nat) (w : List (PyData × PyData)) : PEnv := .no :: .ow (.dict w) :: List.replicate n .no
theorem law_body {X : Cx} {tbl : List Def} {gl : List PyData} {n m many : Nat} {kd : Str} {cs : List (Str × Int)} {bl : Ss} {s1 : Stmt} {rest : List Stmt} (hc : cs.length ≤ 10) (hm : many ≤ 1000) (hN : X.N.length = m + 2)
    (h1 : PS X s1 (tAsg (tDisp (tW X.K many kd cs)) (gName 1))) (h2 : PSsv X (phi tbl gl n) gl [] rest bl)
    (plain : ∀ ms : List Int, ms.length = many → (∀ z, z ∈ ms → 0 ≤ z ∧ z < 997) → ∃ w ρ', dictOf (wD ms kd cs) = some w ∧ runs (phi tbl gl n) gl [] bl (ρ0 m w) = some (.rt (.bool true) ρ')) :
    ∃ t, PSs X (s1 :: rest) t ∧ ∀ (vs : List V) (H : Hp) (Q : VK) (E : XK), spLaw X.K vs H Q E → t { nx := fun _ H' => Q .non H', rt := Q } (L2.start X.N vs) H := by
  refine ⟨_, pss_cons h1 h2, fun vs H Q E ⟨a, ns, e, hq, hl, q⟩ => ?_⟩
  subst e
  have hs : L2.start X.N [V.ref a] = some (V.ref a) :: none :: List.replicate m none := by
    unfold L2.start
    rw [hN]; rfl
  rw [hs]
  intro p hp
  refine ⟨_, rfl, a, ns, many, rfl, sq_old (fun b o e => by rw [upd_ne (ne_of_none e hp)]; exact e) hq, hl, hm, fun q' ms H2 k2 hq' h2' hlen hms => ?_⟩
  refine pairs_cs cs ⟨k2 p _ upd_same, (.inr kd, V.ref q') :: cs.map fun c => (Sum.inr c.1, V.int c.2), by
    rw [List.map_cons, List.map_map]; rfl, by rw [List.length_cons, List.length_map]; omega, ?_⟩
  obtain ⟨w, ρ', hw, hrun⟩ := plain ms hlen hms
  have pq : q' ≠ p := fun z => by
    have := k2 p _ upd_same
    rw [← z, h2'] at this; cases this
  have hH3q : ∀ u, upd H2 p u q' = some (.lst (ms.map V.int)) := fun u => by rw [upd_ne pq]; exact h2'
  refine ⟨⟨fun _ => False, fun b => b = p, upd H2 p (.dK (mergeK [] ((.inr kd, V.ref q') :: cs.map fun c => (Sum.inr c.1, V.int c.2)))), []⟩, ρ0 m w, _, rfl, ⟨fun b => b = p, [1], ?_⟩, hrun, fun v σ' H' P O s r => ?_⟩
  · refine ⟨⟨fun i hi => ?_, fun i j b hi hj _ _ => ?_, fun b z => z.elim, fun i z => by simp at z, fun i hi => ?_, fun i d e => ?_, fun i d e => ?_, fun b z => (show b = p from z) ▸ ⟨_, upd_same⟩, fun z => by simp at z, ?_⟩, fun b z => .inr (.inl z), .refl, fun _ z => by simp at z⟩
    · have : i = 1 := by simpa using hi
      subst this
      exact ⟨p, rfl, ⟨fun _ z => by simp at z, fun _ => rfl⟩, fun z => z⟩
    · have h1 : i = 1 := by simpa using hi
      have h2 : j = 1 := by simpa using hj
      rw [h1, h2]
    · have : i = 1 := by simpa using hi
      subst this
      exact ⟨_, rfl⟩
    · match i with
      | 0 => cases e
      | 1 =>
        cases e
        refine ⟨by simp, p, rfl, .dk upd_same ?_⟩
        have ek : (wD ms kd cs).map (·.1) = (Sum.inr kd :: cs.map fun c => (Sum.inr c.1 : L2.Key)).map keyPD := by
          unfold wD
          rw [List.map_cons, List.map_cons, List.map_map, List.map_map]; rfl
        have rv : RpAll X.K (upd H2 p (.dK (mergeK [] ((Sum.inr kd, V.ref q') :: cs.map fun c => (Sum.inr c.1, V.int c.2))))) (fun b => b = p) (V.ref q' :: cs.map fun c => V.int c.2) ((wD ms kd cs).map (·.2)) := by
          unfold wD
          rw [List.map_cons]
          refine .cons (.lst pq (hH3q _) (rp_ints_all ms)) ?_
          rw [List.map_map]
          exact rp_cs cs
        have := dictOf_rp ek rv .nil hw
        rw [List.zip_cons_cons] at this
        rw [zip_cs] at this
        exact this
      | i + 2 =>
        have e : (List.replicate m Sl.no)[i]? = some (Sl.ow d) := e
        obtain ⟨_, e⟩ := List.getElem?_eq_some_iff.mp e
        rw [List.getElem_replicate] at e
        cases e
    · match i with
      | 0 => cases e
      | 1 => cases e
      | i + 2 =>
        have e : (List.replicate m Sl.no)[i]? = some (Sl.fz d) := e
        obtain ⟨_, e⟩ := List.getElem?_eq_some_iff.mp e
        rw [List.getElem_replicate] at e
        cases e
    · show (Sl.no :: Sl.ow (.dict w) :: List.replicate m Sl.no).length = (some (V.ref a) :: some (V.ref p) :: List.replicate m none).length
      simp
  · cases r
    exact q _
end
end PP

/-! PP18: the Hook of the head, with the module's tuples. -/
namespace PP
open PySem PySem.Spec PyProof.Rows L2 He
def obsT (tl : List (Str × List Dv)) (fa : List Fa) (fn : List DefD) (K : PySem.W.Frag) : Bool × AlD := (tl.all fun t => tupB K t.1 t.2, obsD fa fn K)
def obsP (n : Nat) (tl : List (Str × List Dv)) (fa : List Fa) (fn : List DefD) (g : Addr → Option Obj) : Bool × AlD := obsT tl fa fn (frG g (asD g n))
def hookP (n : Nat) (tl : List (Str × List Dv)) (fa : List Fa) (fn : List DefD) : PySem.W.Hook where
  α := Bool × AlD
  obs := fun s => obsP n tl fa fn s.heap.get?
  val := fun _ => (true, valD fn)
  says := fun _ h => ∃ K : PySem.W.Frag, K.In h ∧ (tl.all fun t => tupB K t.1 t.2) = true ∧ SaysD fa fn K
  of := fun _ _ e => ⟨_, frG_in, congrArg Prod.fst e, congrArg Prod.snd e⟩
  keeps := fun _ _ _ ⟨K, hK, c⟩ k => ⟨K, PySem.W.Frag.In.keeps hK k, c⟩
theorem obsP_eq {n : Nat} {tl : List (Str × List Dv)} {fa : List Fa} {fn : List DefD} {g : Addr → Option Obj} {s : Shared} (h : ∀ a, g a = s.heap.get? a) : obsP n tl fa fn g = (hookP n tl fa fn).obs s := by
  have e : g = s.heap.get? := funext h
  rw [e] <;> rfl
end PP

/-! PP19: reckoning with the evaluator: calls, comprehensions, loops. -/
namespace PP
open PySem
/-- the end of a def's run -/
def endOf (ios : List Nat) : Out → Option (PyData × List PyData)
  | .rt d ρ => (outsOf ρ ios).map fun o => (d, o)
  | .nx ρ => (outsOf ρ ios).map fun o => (.none, o)
  | .bk _ => none
theorem phi_at {tbl : List Def} {gl : List PyData} {n f : Nat} {ds : List PyData} {D : Def} (hD : tbl[f]? = some D) (hl : ds.length = D.np) {o : Out} (h : runs (phi tbl gl n) gl D.ios D.body (envOf D ds) = some o) : phi tbl gl (n + 1) f ds = endOf D.ios o := by
  simp only [phi, hD, hl, if_true, h, Option.bind_eq_bind, Option.bind_some]
  cases o with
  | rt d ρ => cases h : outsOf ρ D.ios <;> simp [endOf, h]
  | nx ρ => cases h : outsOf ρ D.ios <;> simp [endOf, h]
  | bk ρ => rfl
theorem runs_nil {Φ : Nat → List PyData → Option (PyData × List PyData)} {gl : List PyData} {ios : List Nat} {ρ : PEnv} : runs Φ gl ios .nil ρ = some (.nx ρ) := by simp only [runs]
theorem runs_nx {Φ : Nat → List PyData → Option (PyData × List PyData)} {gl : List PyData} {ios : List Nat} {s : S} {ss : Ss} {ρ ρ1 : PEnv} {o : Option Out} (h : PP.run Φ gl ios s ρ = some (.nx ρ1)) (h2 : runs Φ gl ios ss ρ1 = o) : runs Φ gl ios (.cons s ss) ρ = o := by
  simp only [runs, h, Option.bind_eq_bind, Option.bind_some]
  exact h2
theorem runs_rt {Φ : Nat → List PyData → Option (PyData × List PyData)} {gl : List PyData} {ios : List Nat} {s : S} {ss : Ss} {ρ ρ1 : PEnv} {d : PyData} (h : PP.run Φ gl ios s ρ = some (.rt d ρ1)) : runs Φ gl ios (.cons s ss) ρ = some (.rt d ρ1) := by
  simp only [runs, h, Option.bind_eq_bind, Option.bind_some]
theorem runs_bk {Φ : Nat → List PyData → Option (PyData × List PyData)} {gl : List PyData} {ios : List Nat} {s : S} {ss : Ss} {ρ ρ1 : PEnv} (h : PP.run Φ gl ios s ρ = some (.bk ρ1)) : runs Φ gl ios (.cons s ss) ρ = some (.bk ρ1) := by
  simp only [runs, h, Option.bind_eq_bind, Option.bind_some]
section
variable {asgn : PyData → PEnv → Option PEnv} {tst elt : PEnv → Option (PyData × Fl × PEnv)} {vs : List Nat}
/-- a comprehension whose items are reckoned each for itself -/
theorem compL_eq {ρ : PEnv} (p : PyData → Bool) (f : PyData → PyData) : ∀ (ds acc : List PyData), (∀ d, d ∈ ds → ∃ ρ1 fl ρ2, asgn d ρ = some ρ1 ∧ tst ρ1 = some (.bool (p d), fl, ρ2) ∧ (p d = false → wipeP ρ2 vs = ρ) ∧ (p d = true → ∃ fl3 ρ3, elt ρ2 = some (f d, fl3, ρ3) ∧ wipeP ρ3 vs = ρ)) → acc.length + ds.length ≤ sizeLine →
    compL asgn tst elt vs ds acc ρ = some (acc ++ (ds.filter p).map f, ρ)
  | [], acc, _, _ => by simp [compL, compL2]
  | d :: ds, acc, h, hl => by
    obtain ⟨ρ1, fl, ρ2, h1, h2, h3, h4⟩ := h d (List.mem_cons_self ..)
    have ih := fun acc => compL_eq (ρ := ρ) p f ds acc fun d hd => h d (List.mem_cons_of_mem _ hd)
    unfold compL at ih ⊢
    simp only [compL2, h1, h2, Option.bind_eq_bind, Option.bind_some]
    cases hp : p d with
    | false =>
      simp only [h3 hp]
      rw [ih acc (by rw [List.length_cons] at hl; omega), List.filter_cons, hp]
      rfl
    | true =>
      obtain ⟨fl3, ρ3, h5, h6⟩ := h4 hp
      have : acc.length < sizeLine := by rw [List.length_cons] at hl; omega
      simp only [addV, h5, Option.bind_eq_bind, Option.bind_some, if_pos this, h6]
      rw [ih (acc ++ [f d]) (by rw [List.length_append]; rw [List.length_cons] at hl; simp; omega), List.filter_cons, hp, if_pos rfl, List.map_cons, List.append_assoc]
      rfl
end
section
variable {asgn : PyData → PEnv → Option PEnv} {body : PEnv → Option Out} {dead : List Nat}
/-- a walk that folds a state -/
theorem forL_fold {σ : Type} (E : σ → PEnv) (step : σ → PyData → σ) : ∀ (ds : List PyData) (s : σ) (ρ : PEnv), wipeP ρ dead = E s → (∀ s d, d ∈ ds → ∃ ρ1 ρ2, asgn d (E s) = some ρ1 ∧ body ρ1 = some (.nx ρ2) ∧ wipeP ρ2 dead = E (step s d)) → forL asgn body dead ds ρ = some (.nx (E (ds.foldl step s)))
  | [], s, ρ, h, _ => by simp [forL, h]
  | d :: ds, s, ρ, h, hs => by
    obtain ⟨ρ1, ρ2, h1, h2, h3⟩ := hs s d (List.mem_cons_self ..)
    simp only [forL, h, h1, h2, Option.bind_eq_bind, Option.bind_some]
    rw [forL_fold E step ds (step s d) ρ2 h3 fun s d hd => hs s d (List.mem_cons_of_mem _ hd)]
    rfl
/-- .. under a word that stays -/
theorem forL_inv (I : PEnv → Prop) : ∀ (ds : List PyData) (ρ : PEnv), I (wipeP ρ dead) → (∀ ρ d, d ∈ ds → I ρ → ∃ ρ1 ρ2, asgn d ρ = some ρ1 ∧ body ρ1 = some (.nx ρ2) ∧ I (wipeP ρ2 dead)) → ∃ ρ', forL asgn body dead ds ρ = some (.nx ρ') ∧ I ρ'
  | [], ρ, h, _ => ⟨_, by simp only [forL], h⟩
  | d :: ds, ρ, h, hs => by
    obtain ⟨ρ1, ρ2, h1, h2, h3⟩ := hs _ d (List.mem_cons_self ..) h
    obtain ⟨ρ', e, i⟩ := forL_inv I ds ρ2 h3 fun ρ d hd => hs ρ d (List.mem_cons_of_mem _ hd)
    refine ⟨ρ', ?_, i⟩
    simp only [forL, h1, h2, Option.bind_eq_bind, Option.bind_some]
    exact e
end
section
variable {tst : PEnv → Option (Bool × PEnv)} {body : PEnv → Option Out} {dead : List Nat}
def iter {α : Type} (f : α → α) : Nat → α → α
  | 0, s => s
  | n + 1, s => iter f n (f s)
/-- a loop with a state: k turns are enough -/
theorem whileL_iter {σ : Type} (E : σ → PEnv) (step : σ → σ) (p : σ → Bool) : ∀ (k m : Nat) (s : σ) (ρ : PEnv), wipeP ρ dead = E s → (∀ i, i < k → p (iter step i s) = true) → p (iter step k s) = false → k < m →
    (∀ s, ∃ ρ1, tst (E s) = some (p s, ρ1) ∧ (p s = false → ρ1 = E s) ∧ (p s = true → ∃ ρ2, body ρ1 = some (.nx ρ2) ∧ wipeP ρ2 dead = E (step s))) → whileL tst body dead m ρ = some (.nx (E (iter step k s)))
  | _, 0, _, _, _, _, _, hm, _ => absurd hm (Nat.not_lt_zero _)
  | 0, m + 1, s, ρ, h, _, hf, _, hs => by
    obtain ⟨ρ1, h1, h2, _⟩ := hs s
    have hf : p s = false := hf
    simp only [whileL, h, h1, Option.bind_eq_bind, Option.bind_some, hf, h2 hf]
    rfl
  | k + 1, m + 1, s, ρ, h, ht, hf, hm, hs => by
    obtain ⟨ρ1, h1, _, h3⟩ := hs s
    have hp : p s = true := ht 0 (Nat.succ_pos _)
    obtain ⟨ρ2, h4, h5⟩ := h3 hp
    simp only [whileL, h, h1, Option.bind_eq_bind, Option.bind_some, hp, h4]
    exact whileL_iter E step p k m (step s) ρ2 h5 (fun i hi => ht (i + 1) (Nat.succ_lt_succ hi)) hf (Nat.lt_of_succ_lt_succ hm) hs
end

/-- loops with their texts: simp does not look within -/
def compE (Φ : Nat → List PyData → Option (PyData × List PyData)) (gl : List PyData) (vs : List Nat) (g : G) (c e : E) (ds acc : List PyData) (ρ : PEnv) : Option (List PyData × PEnv) := compL (asgG g) (fun ρ => ev Φ gl c ρ) (fun ρ => ev Φ gl e ρ) vs ds acc ρ
def compE2 (Φ : Nat → List PyData → Option (PyData × List PyData)) (gl : List PyData) (vs vs1 : List Nat) (g : G) (c : E) (g1 : G) (it1 : I) (c1 e : E) (ds acc : List PyData) (ρ : PEnv) : Option (List PyData × PEnv) := compL2 (asgG g) (fun ρ => ev Φ gl c ρ) (fun acc ρ => (evi Φ gl it1 ρ).bind fun r3 => compE Φ gl vs1 g1 c1 e r3.1 acc (wipeP r3.2 vs1)) vs ds acc ρ
def forE (Φ : Nat → List PyData → Option (PyData × List PyData)) (gl : List PyData) (ios : List Nat) (g : G) (b : Ss) (dead : List Nat) (ds : List PyData) (ρ : PEnv) : Option Out := forL (asgG g) (fun ρ => runs Φ gl ios b ρ) dead ds ρ
def whileE (Φ : Nat → List PyData → Option (PyData × List PyData)) (gl : List PyData) (ios : List Nat) (c : E) (b : Ss) (dead : List Nat) (m : Nat) (ρ : PEnv) : Option Out := whileL (fun ρ => evT Φ gl c ρ) (fun ρ => runs Φ gl ios b ρ) dead m ρ
/-- no rfl lemma: else the kernel would hold one bind against the other, and reckon with what is bound -/
@[simp high] theorem bind_at {α β : Type} {a : α} {f : α → Option β} : (some a).bind f = f a := id rfl
/-! ### the evaluator's equations, for simp -/
section
variable {Φ : Nat → List PyData → Option (PyData × List PyData)} {gl : List PyData} {ios : List Nat} {ρ : PEnv}
@[simp] theorem ev_non  : ev Φ gl .non ρ = some (.none, .sh, ρ) := by first | exact id rfl | simp only [ev]
@[simp] theorem ev_bl {b} : ev Φ gl (.bl b) ρ = some (.bool b, .sh, ρ) := by first | exact id rfl | simp only [ev]
@[simp] theorem ev_int {i} : ev Φ gl (.int i) ρ = some (.int i, .sh, ρ) := by first | exact id rfl | simp only [ev]
@[simp] theorem ev_str {i} : ev Φ gl (.str i) ρ = some (.str i, .sh, ρ) := by first | exact id rfl | simp only [ev]
@[simp] theorem ev_var {i} : ev Φ gl (.var i) ρ = (getS ρ i).map fun d => (d, .sh, ρ) := by first | exact id rfl | simp only [ev]
@[simp] theorem ev_io {i} : ev Φ gl (.io i) ρ = (getO ρ i).map fun _ => (.none, .sh, ρ) := by first | exact id rfl | simp only [ev]
@[simp] theorem ev_glob {g} : ev Φ gl (.glob g) ρ = (match gl[g]? with | some (.str s) => some (.str s, .sh, ρ) | _ => none) := by first | exact id rfl | simp only [ev]
@[simp] theorem ev_inG {neg a g} : ev Φ gl (.inG neg a g) ρ = ((ev Φ gl a ρ).bind fun r => (gl[g]?).bind fun t => (inV r.1 t).bind fun b => some (.bool (if neg then !b else b), .sh, r.2.2)) := by first | exact id rfl | simp only [ev]
@[simp] theorem ev_box {e} : ev Φ gl (.box e) ρ = ((ev Φ gl e (frzAll ρ)).bind fun r => match r.2.1 with | .sh => if immD r.1 then some (r.1, .sh, ρ) else none | .fr => if immTop r.1 then some (r.1, .fr, ρ) else none) := by first | exact id rfl | simp only [ev]
@[simp] theorem ev_un {op a} : ev Φ gl (.un op a) ρ = ((ev Φ gl a ρ).bind fun r => (unV op r.1).bind fun d => some (d, .sh, r.2.2)) := by first | exact id rfl | simp only [ev]
@[simp] theorem ev_bin {op a b} : ev Φ gl (.bin op a b) ρ = ((ev Φ gl a ρ).bind fun r => (ev Φ gl b r.2.2).bind fun r2 => (binV op r.1 r2.1).bind fun d => some (d.1, d.2, r2.2.2)) := by first | exact id rfl | simp only [ev]
@[simp] theorem ev_cmp {op a b} : ev Φ gl (.cmp op a b) ρ = ((ev Φ gl a ρ).bind fun r => (ev Φ gl b r.2.2).bind fun r2 => (cmpV op r.1 r2.1).bind fun d => some (.bool d, .sh, r2.2.2)) := by first | exact id rfl | simp only [ev]
@[simp] theorem ev_chain {op op' a b c} : ev Φ gl (.chain op op' a b c) ρ = ((ev Φ gl a ρ).bind fun r => (ev Φ gl b r.2.2).bind fun r2 => (cmpV op r.1 r2.1).bind fun d => match d with | true => (ev Φ gl c r2.2.2).bind fun r3 => (cmpV op' r2.1 r3.1).bind fun d2 => some (.bool d2, .sh, r3.2.2) | false => some (.bool false, .sh, r2.2.2)) := by first | exact id rfl | simp only [ev]
@[simp] theorem ev_and {a b} : ev Φ gl (.bop .And a b) ρ = ((ev Φ gl a ρ).bind fun r => match r.1 with | .bool true => ev Φ gl b r.2.2 | .bool false => some (.bool false, .sh, r.2.2) | _ => none) := by first | exact id rfl | simp only [ev]
@[simp] theorem ev_or {a b} : ev Φ gl (.bop .Or a b) ρ = ((ev Φ gl a ρ).bind fun r => match r.1 with | .bool true => some (.bool true, .sh, r.2.2) | .bool false => ev Φ gl b r.2.2 | _ => none) := by first | exact id rfl | simp only [ev]
@[simp] theorem ev_ite {c a b} : ev Φ gl (.ite c a b) ρ = ((ev Φ gl c ρ).bind fun r => match r.1 with | .bool true => ev Φ gl a r.2.2 | .bool false => ev Φ gl b r.2.2 | _ => none) := by first | exact id rfl | simp only [ev]
@[simp] theorem ev_tup {es} : ev Φ gl (.tup es) ρ = ((evs Φ gl es ρ).bind fun r => if r.1.length ≤ sizeLine then some (.tuple r.1, .sh, r.2) else none) := by first | exact id rfl | simp only [ev]
@[simp] theorem ev_lst {es} : ev Φ gl (.lst es) ρ = ((evs Φ gl es ρ).bind fun r => if r.1.length ≤ sizeLine then some (.list r.1, .fr, r.2) else none) := by first | exact id rfl | simp only [ev]
@[simp] theorem ev_dic {es} : ev Φ gl (.dic es) ρ = ((evs Φ gl es ρ).bind fun r => if r.1.length ≤ 30 then (dictOf (pairUp r.1)).bind fun d => some (.dict d, .fr, r.2) else none) := by first | exact id rfl | simp only [ev]
@[simp] theorem ev_ix {a b} : ev Φ gl (.ix a b) ρ = ((ev Φ gl a ρ).bind fun r => (ev Φ gl b r.2.2).bind fun r2 => (ixV r.1 r2.1).bind fun d => some (d, .sh, r2.2.2)) := by first | exact id rfl | simp only [ev]
@[simp] theorem ev_sl {a lo hi} : ev Φ gl (.sl a lo hi) ρ = ((ev Φ gl a ρ).bind fun r => (evo Φ gl lo r.2.2).bind fun l => (evo Φ gl hi l.2).bind fun h => (optI l.1).bind fun l1 => (optI h.1).bind fun h1 => (slV r.1 l1 h1).bind fun d => some (d.1, d.2, h.2)) := by first | exact id rfl | simp only [ev]
@[simp] theorem ev_rev {a} : ev Φ gl (.rev a) ρ = ((ev Φ gl a ρ).bind fun r => (revV r.1).bind fun d => some (d.1, d.2, r.2.2)) := by first | exact id rfl | simp only [ev]
@[simp] theorem ev_bi {f es} : ev Φ gl (.bi f es) ρ = ((evs Φ gl es ρ).bind fun r => (biV f r.1).bind fun d => some (d.1, d.2, r.2)) := by first | exact id rfl | simp only [ev]
@[simp] theorem ev_call {f es} : ev Φ gl (.call f es) ρ = ((evs Φ gl es ρ).bind fun r => (fillIo r.2 es r.1).bind fun ds => (Φ f ds).bind fun d => (putIo (ioSlots es) d.2 r.2).bind fun ρ2 => some (d.1, .sh, ρ2)) := by first | exact id rfl | simp only [ev]
@[simp] theorem ev_comp {vs g it c e} : ev Φ gl (.comp vs g it c e) ρ = ((evi Φ gl it ρ).bind fun r => if noOwn r.2 vs then (compE Φ gl vs g c e r.1 [] (wipeP r.2 vs)).bind fun q => some (.list q.1, .fr, backP r.2 q.2 vs) else none) := by first | exact id rfl | (simp only [ev]; rfl)
@[simp] theorem ev_comp2 {vs vs1 g it c g1 it1 c1 e} : ev Φ gl (.comp2 vs vs1 g it c g1 it1 c1 e) ρ = ((evi Φ gl it ρ).bind fun r => if noOwn r.2 vs then (compE2 Φ gl vs vs1 g c g1 it1 c1 e r.1 [] (wipeP r.2 vs)).bind fun q => some (.list q.1, .fr, backP r.2 q.2 vs) else none) := by first | exact id rfl | (simp only [ev]; rfl)
@[simp] theorem evo_no  : evo Φ gl .no ρ = some (none, ρ) := by first | exact id rfl | simp only [evo]
@[simp] theorem evo_so {e} : evo Φ gl (.so e) ρ = ((ev Φ gl e ρ).bind fun r => some (some r.1, r.2.2)) := by first | exact id rfl | simp only [evo]
@[simp] theorem evs_nil  : evs Φ gl .nil ρ = some ([], ρ) := by first | exact id rfl | simp only [evs]
@[simp] theorem evs_cons {e es} : evs Φ gl (.cons e es) ρ = ((ev Φ gl e ρ).bind fun r => (evs Φ gl es r.2.2).bind fun q => some (r.1 :: q.1, q.2)) := by first | exact id rfl | simp only [evs]
@[simp] theorem evi_seq {e} : evi Φ gl (.seq e) ρ = ((ev Φ gl e ρ).bind fun r => (itemsD r.1).bind fun ds => some (ds, r.2.2)) := by first | exact id rfl | simp only [evi]
@[simp] theorem evi_glob {g} : evi Φ gl (.glob g) ρ = ((gl[g]?).bind fun d => (itemsD d).bind fun ds => some (ds, ρ)) := by first | exact id rfl | simp only [evi]
@[simp] theorem evi_dk {i} : evi Φ gl (.dk i) ρ = (match getS ρ i with | some (.dict kvs) => some (kvs.map (·.1), ρ) | _ => none) := by first | exact id rfl | simp only [evi]
@[simp] theorem evi_rng {es} : evi Φ gl (.rng es) ρ = ((evs Φ gl es ρ).bind fun r => (rngD r.1).bind fun ds => some (ds, r.2)) := by first | exact id rfl | simp only [evi]
def zipV : PyData → PyData → Option (List PyData)
  | .list xs, .list ys => some ((xs.zip ys).map fun p => .tuple [p.1, p.2])
  | .tuple xs, .tuple ys => some ((xs.zip ys).map fun p => .tuple [p.1, p.2])
  | _, _ => none
@[simp] theorem zipV_t {xs ys : List PyData} : zipV (.tuple xs) (.tuple ys) = some ((xs.zip ys).map fun p => .tuple [p.1, p.2]) := id rfl
@[simp] theorem zipV_l {xs ys : List PyData} : zipV (.list xs) (.list ys) = some ((xs.zip ys).map fun p => .tuple [p.1, p.2]) := id rfl
@[simp] theorem evi_zip {a b : E} : evi Φ gl (.zip a b) ρ = ((ev Φ gl a ρ).bind fun r => (ev Φ gl b r.2.2).bind fun r2 => (zipV r.1 r2.1).bind fun ds => some (ds, r2.2.2)) := by
  simp only [evi, Option.bind_eq_bind]
  congr 1; funext r; congr 1; funext r2
  cases r.1 <;> cases r2.1 <;> rfl
@[simp] theorem evi_enum {a : E} {xs : List PyData} {fl : Fl} {ρ1 : PEnv} (h : ev Φ gl a ρ = some (.list xs, fl, ρ1)) : evi Φ gl (.enum a) ρ = some ((List.range xs.length).zipWith (fun k d => .tuple [.int (k : Nat), d]) xs, ρ1) := by
  simp only [evi, h, Option.bind_eq_bind, Option.bind_some]
@[simp] theorem run_asg {i e} : PP.run Φ gl ios (.asg i e) ρ = ((evE Φ gl e ρ).bind fun r => if decide (i < ρ.length) && !ios.contains i then some (.nx (setF r.2.2 i r.1 r.2.1)) else none) := by first | exact id rfl | simp only [PP.run]
@[simp] theorem run_asgT {g e} : PP.run Φ gl ios (.asgT g e) ρ = ((evE Φ gl e ρ).bind fun r => (asgG g r.1 r.2.2).bind fun ρ2 => some (.nx ρ2)) := by first | exact id rfl | simp only [PP.run]
@[simp] theorem run_asgO {i j f es} : PP.run Φ gl ios (.asgO i j f es) ρ = (if okM ρ (alss es) [] && (modss es).isEmpty then (evs Φ gl es ρ).bind fun r => if noILs r.1 then (Φ f r.1).bind fun q => (match q with | (.tuple [.list (.int x :: xs), .int y], _) => if immAll xs && decide (i < ρ.length) && !ios.contains i && decide (j < ρ.length) && !ios.contains j && !decide (i = j) then some (.nx ((ρ.set i (.ow (.list (.int x :: xs)))).set j (.fz (.int y)))) else none | _ => none) else none else none) := by first | exact id rfl | simp only [PP.run]
@[simp] theorem run_asgDS {i k j a b} : PP.run Φ gl ios (.asgDS i k j a b) ρ = ((evE Φ gl a ρ).bind fun r1 => (evE Φ gl b r1.2.2).bind fun r2 => (getO r2.2.2 i).bind fun _ => (evE Φ gl k r2.2.2).bind fun r3 => (getO r3.2.2 i).bind fun c => (setV c r3.1 r1.1).bind fun d => if decide (j < ρ.length) && !ios.contains j then some (.nx ((r3.2.2.set i (.ow d)).set j (.fz r2.1))) else none) := by first | exact id rfl | simp only [PP.run]
@[simp] theorem run_asgD {is es} : PP.run Φ gl ios (.asgD is es) ρ = ((asgDs Φ gl is es ρ).bind fun r => if is.all fun i => decide (i < ρ.length) && !ios.contains i then some (.nx (setAll is r.1 r.2)) else none) := by first | exact id rfl | simp only [PP.run]
@[simp] theorem run_setIx {i k e} : PP.run Φ gl ios (.setIx i k e) ρ = ((evE Φ gl e ρ).bind fun r => (getO r.2.2 i).bind fun _ => (evE Φ gl k r.2.2).bind fun r2 => (getO r2.2.2 i).bind fun c => (setV c r2.1 r.1).bind fun d => some (.nx (r2.2.2.set i (.ow d)))) := by first | exact id rfl | simp only [PP.run]
@[simp] theorem run_aug {i op e} : PP.run Φ gl ios (.aug i op e) ρ = ((evE Φ gl e ρ).bind fun r => (getS ρ i).bind fun x => (augV op x r.1).bind fun d => if ios.contains i then none else some (.nx (r.2.2.set i (.fz d)))) := by first | exact id rfl | simp only [PP.run]
@[simp] theorem run_mut {m i e} : PP.run Φ gl ios (.mut m i e) ρ = ((getO ρ i).bind fun d0 => if mKind m d0 then (evE Φ gl e ρ).bind fun r => (getO r.2.2 i).bind fun d1 => (mutV m d1 r.1).bind fun d => some (.nx (r.2.2.set i (.ow d))) else none) := by first | exact id rfl | simp only [PP.run]
@[simp] theorem run_ifs {c a b} : PP.run Φ gl ios (.ifs c a b) ρ = ((evT Φ gl c ρ).bind fun r => match r with | (true, ρ1) => runs Φ gl ios a ρ1 | (false, ρ1) => runs Φ gl ios b ρ1) := by first | exact id rfl | simp only [PP.run]
@[simp] theorem run_for {g it b dead} : PP.run Φ gl ios (.for_ g it b dead) ρ = ((evIt Φ gl it ρ).bind fun r => forE Φ gl ios g b dead r.1 r.2) := by first | exact id rfl | (simp only [PP.run]; rfl)
@[simp] theorem run_whil {c b dead} : PP.run Φ gl ios (.whil c b dead) ρ = (whileE Φ gl ios c b dead 1000000 ρ) := by first | exact id rfl | (simp only [PP.run]; rfl)
@[simp] theorem run_ret {e} : PP.run Φ gl ios (.ret e) ρ = ((evE Φ gl e ρ).bind fun r => some (.rt r.1 r.2.2)) := by first | exact id rfl | simp only [PP.run]
@[simp] theorem run_brk  : PP.run Φ gl ios .brk ρ = some (.bk ρ) := by first | exact id rfl | simp only [PP.run]
@[simp] theorem run_frz {is} : PP.run Φ gl ios (.frz is) ρ = (if is.contains lkM then none else some (.nx (frz ρ is))) := by first | exact id rfl | simp only [PP.run]
@[simp] theorem run_pop {g : G} {i : Nat} {xs : List PyData} (h : getO ρ i = some (.list xs)) : PP.run Φ gl ios (.pop g i) ρ = (xs[xs.length - 1]?).bind fun x => (asgG g x (ρ.set i (.ow (.list xs.dropLast)))).bind fun ρ2 => some (.nx ρ2) := by
  simp only [PP.run, h, Option.bind_eq_bind, Option.bind_some]
  rfl
@[simp] theorem runs_nil' : runs Φ gl ios .nil ρ = some (.nx ρ) := by simp only [runs]
@[simp] theorem runs_cons' {s : S} {ss : Ss} : runs Φ gl ios (.cons s ss) ρ = (PP.run Φ gl ios s ρ).bind fun o => match o with | .nx ρ1 => runs Φ gl ios ss ρ1 | o => some o := by
  (simp only [runs, Option.bind_eq_bind]) <;> rfl
@[simp] theorem evE_eq {e} : evE Φ gl e ρ = (if okM ρ (als e) (mods e) then (ev Φ gl e ρ).bind fun r => some (r.1, r.2.1, frzIf ρ r.2.2 (als e) (mods e) (immF r.1 r.2.1)) else none) := by first | exact id rfl | simp only [evE]
@[simp] theorem evT_eq {e : E} : evT Φ gl e ρ = (evE Φ gl e ρ).bind fun r => match r.1 with | .bool b => some (b, r.2.2) | _ => none := by
  (simp only [evT, Option.bind_eq_bind]) <;> rfl
@[simp] theorem evIt_eq {it : I} : evIt Φ gl it ρ = if okM ρ (alsI it) (modsI it) then (evi Φ gl it ρ).bind fun r => some (r.1, match it with | .rng _ => frzIf ρ r.2 (alsI it) (modsI it) true | _ => frz r.2 (alsI it)) else none := by
  simp only [evIt, Option.bind_eq_bind]; rfl
@[simp] theorem asgDs_nil' : asgDs Φ gl [] .nil ρ = some ([], ρ) := by simp only [asgDs]
@[simp] theorem asgDs_cons' {i : Nat} {is : List Nat} {e : E} {es : Es} : asgDs Φ gl (i :: is) (.cons e es) ρ = (evE Φ gl e ρ).bind fun r => (asgDs Φ gl is es r.2.2).bind fun q => some ((r.1, r.2.1) :: q.1, q.2) := by simp only [asgDs, Option.bind_eq_bind]; rfl
/-- nothing is frozen where nothing is one's own -/
theorem frzIf_of {as ms : List Nat} {b : Bool} (h : frz ρ as = ρ) : frzIf ρ ρ as ms b = ρ := by unfold frzIf; rw [h]; split <;> rfl
end
end PP

/-! PP20: more equations for simp. -/
namespace PP
open PySem PySem.Spec PyProof.Rows L2
@[simp] theorem unV_neg {i : Int} : unV .USub (.int i) = some (.int (-i)) := id rfl
@[simp] theorem unV_not {b : Bool} : unV .Not (.bool b) = some (.bool (!b)) := id rfl
@[simp] theorem binV_addI {i j : Int} : binV .Add (.int i) (.int j) = some (.int (i + j), .sh) := id rfl
@[simp] theorem binV_addS {a b : Str} : binV .Add (.str a) (.str b) = if a.length + b.length ≤ sizeLine then some (.str (a ++ b), .sh) else none := id rfl
@[simp] theorem binV_addT {a b : List PyData} : binV .Add (.tuple a) (.tuple b) = if a.length + b.length ≤ sizeLine then some (.tuple (a ++ b), .sh) else none := id rfl
@[simp] theorem binV_addL {a b : List PyData} : binV .Add (.list a) (.list b) = if a.length + b.length ≤ sizeLine then some (.list (a ++ b), .fr) else none := id rfl
@[simp] theorem binV_sub {i j : Int} : binV .Sub (.int i) (.int j) = some (.int (i - j), .sh) := id rfl
@[simp] theorem binV_mul {i j : Int} : binV .Mult (.int i) (.int j) = if mulOk i j then some (.int (i * j), .sh) else none := id rfl
@[simp] theorem binV_fdiv {i j : Int} : binV .FloorDiv (.int i) (.int j) = if 0 < j ∧ j < 1073741824 then some (.int (i / j), .sh) else none := by simp [binV]
@[simp] theorem binV_mod {i j : Int} : binV .Mod (.int i) (.int j) = if 0 < j then some (.int (i % j), .sh) else none := id rfl
@[simp] theorem cmpV_isN {a : PyData} : cmpV .Is a .none = some (match a with | .none => true | _ => false) := by cases a <;> rfl
@[simp] theorem cmpV_isnN {a : PyData} : cmpV .IsNot a .none = some (match a with | .none => false | _ => true) := by cases a <;> rfl
@[simp] theorem cmpV_lt {i j : Int} : cmpV .Lt (.int i) (.int j) = some (decide (i < j)) := id rfl
@[simp] theorem cmpV_le {i j : Int} : cmpV .LtE (.int i) (.int j) = some (decide (i ≤ j)) := id rfl
@[simp] theorem cmpV_gt {i j : Int} : cmpV .Gt (.int i) (.int j) = some (decide (j < i)) := id rfl
@[simp] theorem cmpV_ge {i j : Int} : cmpV .GtE (.int i) (.int j) = some (decide (j ≤ i)) := id rfl
@[simp] theorem cmpV_in {a b : PyData} : cmpV .In a b = inV a b := by cases a <;> cases b <;> rfl
@[simp] theorem cmpV_nin {a b : PyData} : cmpV .NotIn a b = (inV a b).map (!·) := by cases a <;> cases b <;> rfl
@[simp] theorem okD_int {i : Int} : okD (.int i) = true := id rfl
@[simp] theorem okD_str {i : Str} : okD (.str i) = true := id rfl
@[simp] theorem okD_non : okD .none = true := id rfl
@[simp] theorem okD_bl {b : Bool} : okD (.bool b) = true := id rfl
@[simp] theorem cmpV_eqI {i j : Int} : cmpV .Eq (.int i) (.int j) = some (decide (i = j)) := by
  show some _ = some _
  rw [show PyData.eqv (.int i) (.int j) = decide (i = j) from by simp [PyData.eqv]; rfl]
@[simp] theorem cmpV_neI {i j : Int} : cmpV .NotEq (.int i) (.int j) = some (!decide (i = j)) := by
  show some _ = some _
  rw [show PyData.eqv (.int i) (.int j) = decide (i = j) from by simp [PyData.eqv]; rfl]
@[simp] theorem cmpV_eqS {i j : Str} : cmpV .Eq (.str i) (.str j) = some (decide (i = j)) := by
  show some _ = some _
  rw [show PyData.eqv (.str i) (.str j) = decide (i = j) from by simp [PyData.eqv]; rfl]
@[simp] theorem cmpV_neS {i j : Str} : cmpV .NotEq (.str i) (.str j) = some (!decide (i = j)) := by
  show some _ = some _
  rw [show PyData.eqv (.str i) (.str j) = decide (i = j) from by simp [PyData.eqv]; rfl]
@[simp] theorem cmpV_eqB {i j : Bool} : cmpV .Eq (.bool i) (.bool j) = some (decide (i = j)) := by cases i <;> cases j <;> rfl
@[simp] theorem cmpV_neB {i j : Bool} : cmpV .NotEq (.bool i) (.bool j) = some (!decide (i = j)) := by cases i <;> cases j <;> rfl
@[simp] theorem biV_len {ds} : biV .len ds = v_len ds := id rfl
@[simp] theorem biV_abs {ds} : biV .abs ds = v_abs ds := id rfl
@[simp] theorem biV_int {ds} : biV .int ds = v_int ds := id rfl
@[simp] theorem biV_sum {ds} : biV .sum ds = v_sum ds := id rfl
@[simp] theorem biV_any {ds} : biV .any ds = v_any ds := id rfl
@[simp] theorem biV_all {ds} : biV .all ds = v_all ds := id rfl
@[simp] theorem biV_sorted {ds} : biV .sorted ds = v_sorted ds := id rfl
@[simp] theorem biV_min {ds} : biV .min ds = mmV true ds := id rfl
@[simp] theorem biV_max {ds} : biV .max ds = mmV false ds := id rfl
@[simp] theorem biV_tuple {ds} : biV .tuple ds = v_tuple ds := id rfl
@[simp] theorem biV_list {ds} : biV .list ds = v_list ds := id rfl
@[simp] theorem biV_dict {ds} : biV .dict ds = v_dict ds := id rfl
@[simp] theorem biV_isI {t ds} : biV (.isI t) ds = v_isI t ds := id rfl
@[simp] theorem biV_lenSetK {ds} : biV .lenSetK ds = v_lenSetK ds := id rfl
@[simp] theorem biV_lenSet {ds} : biV .lenSet ds = v_lenSet ds := id rfl
@[simp] theorem biV_sortedSet {ds} : biV .sortedSet ds = v_sortedSet ds := id rfl
@[simp] theorem biV_listRange {ds} : biV .listRange ds = v_listRange ds := id rfl
@[simp] theorem biV_get {ds} : biV .get ds = v_get ds := id rfl
@[simp] theorem biV_join {ds} : biV .join ds = v_join ds := id rfl
@[simp] theorem v_lenL {xs : List PyData} : v_len [.list xs] = some (.int xs.length, .sh) := id rfl
@[simp] theorem v_lenT {xs : List PyData} : v_len [.tuple xs] = some (.int xs.length, .sh) := id rfl
@[simp] theorem v_lenD {xs : List (PyData × PyData)} : v_len [.dict xs] = some (.int xs.length, .sh) := id rfl
@[simp] theorem v_tupleL {xs : List PyData} : v_tuple [.list xs] = some (.tuple xs, .sh) := id rfl
@[simp] theorem v_tupleT {xs : List PyData} : v_tuple [.tuple xs] = some (.tuple xs, .sh) := id rfl
@[simp] theorem v_listL {xs : List PyData} : v_list [.list xs] = some (.list xs, .fr) := id rfl
@[simp] theorem v_listT {xs : List PyData} : v_list [.tuple xs] = some (.list xs, .fr) := id rfl
@[simp] theorem v_intI {i : Int} : v_int [.int i] = some (.int i, .sh) := id rfl
@[simp] theorem v_isI_ {t d} : v_isI t [d] = (isT t d).map fun b => (.bool b, .sh) := id rfl
@[simp] theorem itemsL {xs : List PyData} : itemsD (.list xs) = some xs := id rfl
@[simp] theorem itemsT {xs : List PyData} : itemsD (.tuple xs) = some xs := id rfl
@[simp] theorem ixV_l {xs : List PyData} {i : Int} : ixV (.list xs) (.int i) = atI xs i := id rfl
@[simp] theorem ixV_t {xs : List PyData} {i : Int} : ixV (.tuple xs) (.int i) = atI xs i := id rfl
@[simp] theorem mutV_app {xs : List PyData} {d : PyData} : mutV "append" (.list xs) d = if xs.length < sizeLine then some (.list (xs ++ [d])) else none := id rfl
@[simp] theorem mutV_ext {xs ys : List PyData} : mutV "extend" (.list xs) (.list ys) = if xs.length + ys.length ≤ sizeLine then some (.list (xs ++ ys)) else none := id rfl
@[simp] theorem mKind_app {xs : List PyData} : mKind "append" (.list xs) = true := id rfl
@[simp] theorem mKind_ext {xs : List PyData} : mKind "extend" (.list xs) = true := id rfl
@[simp] theorem augV_add {a b : Int} : augV .Add (.int a) (.int b) = some (.int (a + b)) := id rfl
@[simp] theorem augV_sub {a b : Int} : augV .Sub (.int a) (.int b) = some (.int (a - b)) := id rfl
@[simp] theorem asgG_nm {i d ρ} : asgG (.nm i) d ρ = if i < ρ.length then some (ρ.set i (.fz d)) else none := by simp only [asgG]
@[simp] theorem asgG_tp {gs ds ρ} : asgG (.tp gs) (.tuple ds) ρ = asgGs gs ds ρ := by simp only [asgG]
@[simp] theorem asgGs_nil {ρ} : asgGs [] [] ρ = some ρ := by simp only [asgGs]
@[simp] theorem asgGs_cons {g gs d ds ρ} : asgGs (g :: gs) (d :: ds) ρ = (asgG g d ρ).bind fun ρ => asgGs gs ds ρ := by simp only [asgGs]; rfl
/-- frozen slots: nothing to do -/
theorem frz_fz {ρ : PEnv} {as : List Nat} (h : ∀ i, i ∈ as → isOwn ρ i = false) : frz ρ as = ρ := by
  induction as with
  | nil => rfl
  | cons a as ih =>
    have ha := h a (List.mem_cons_self ..)
    have e : frz ρ (a :: as) = frz (match ρ[a]? with | some (.ow d) => ρ.set a (.fz d) | _ => ρ) as := rfl
    rw [e]
    unfold isOwn at ha
    cases hx : ρ[a]? with
    | none => exact ih fun i hi => h i (List.mem_cons_of_mem _ hi)
    | some x =>
      rw [hx] at ha
      cases x with
      | ow d => cases ha
      | no => exact ih fun i hi => h i (List.mem_cons_of_mem _ hi)
      | fz d => exact ih fun i hi => h i (List.mem_cons_of_mem _ hi)
/-! ### environments that lie open -/
@[simp] theorem getS_ow {d ρ} : getS (.ow d :: ρ) 0 = some d := id rfl
@[simp] theorem getS_fz {d ρ} : getS (.fz d :: ρ) 0 = some d := id rfl
@[simp] theorem getS_no {ρ} : getS (.no :: ρ) 0 = none := id rfl
@[simp] theorem getS_s {s ρ n} : getS (s :: ρ) (n + 1) = getS ρ n := id rfl
@[simp] theorem getO_ow {d ρ} : getO (.ow d :: ρ) 0 = some d := id rfl
@[simp] theorem getO_fz {d ρ} : getO (.fz d :: ρ) 0 = none := id rfl
@[simp] theorem getO_no {ρ} : getO (.no :: ρ) 0 = none := id rfl
@[simp] theorem getO_s {s ρ n} : getO (s :: ρ) (n + 1) = getO ρ n := id rfl
@[simp] theorem isOwn_ow {d ρ} : isOwn (.ow d :: ρ) 0 = true := id rfl
@[simp] theorem isOwn_fz {d ρ} : isOwn (.fz d :: ρ) 0 = false := id rfl
@[simp] theorem isOwn_no {ρ} : isOwn (.no :: ρ) 0 = false := id rfl
@[simp] theorem isOwn_s {s ρ n} : isOwn (s :: ρ) (n + 1) = isOwn ρ n := id rfl
@[simp] theorem isOwn_nil {n} : isOwn [] n = false := id rfl
def nd (ρ : PEnv) (i : Nat) : Bool := match ρ[i]? with | some (.ow d) => notDict d | _ => true
@[simp] theorem nd_ow {d ρ} : nd (.ow d :: ρ) 0 = notDict d := id rfl
@[simp] theorem nd_fz {d ρ} : nd (.fz d :: ρ) 0 = true := id rfl
@[simp] theorem nd_no {ρ} : nd (.no :: ρ) 0 = true := id rfl
@[simp] theorem nd_s {s ρ n} : nd (s :: ρ) (n + 1) = nd ρ n := id rfl
@[simp] theorem nd_nil {n} : nd [] n = true := id rfl
def frz1 (ρ : PEnv) (i : Nat) : PEnv := match ρ[i]? with | some (.ow d) => ρ.set i (.fz d) | _ => ρ
@[simp] theorem frz_nil {ρ} : frz ρ [] = ρ := id rfl
@[simp] theorem frz_cons {ρ i is} : frz ρ (i :: is) = frz (frz1 ρ i) is := id rfl
@[simp] theorem frz1_ow {d ρ} : frz1 (.ow d :: ρ) 0 = .fz d :: ρ := id rfl
@[simp] theorem frz1_fz {d ρ} : frz1 (.fz d :: ρ) 0 = .fz d :: ρ := id rfl
@[simp] theorem frz1_no {ρ} : frz1 (.no :: ρ) 0 = .no :: ρ := id rfl
@[simp] theorem frz1_nil {n} : frz1 [] n = [] := id rfl
@[simp] theorem frz1_s {s ρ n} : frz1 (s :: ρ) (n + 1) = s :: frz1 ρ n := by
  unfold frz1
  rw [List.getElem?_cons_succ]
  cases h : ρ[n]? with
  | none => rfl
  | some x => cases x <;> rfl
@[simp] theorem noOwn_nil {ρ} : noOwn ρ [] = true := id rfl
@[simp] theorem noOwn_cons {ρ v vs} : noOwn ρ (v :: vs) = (!isOwn ρ v && noOwn ρ vs) := by
  unfold noOwn isOwn
  rw [List.all_cons]
  congr 1
  cases h : ρ[v]? with
  | none => rfl
  | some x => cases x <;> rfl
def back1 (ρ ρ' : PEnv) (v : Nat) : PEnv := match ρ[v]? with | some x => ρ'.set v x | none => ρ'
@[simp] theorem backP_nil {ρ ρ'} : backP ρ ρ' [] = ρ' := id rfl
@[simp] theorem backP_cons {ρ ρ' v vs} : backP ρ ρ' (v :: vs) = back1 ρ (backP ρ ρ' vs) v := id rfl
@[simp] theorem back1_z {s ρ t ρ'} : back1 (s :: ρ) (t :: ρ') 0 = s :: ρ' := id rfl
@[simp] theorem back1_s {s ρ t ρ' n} : back1 (s :: ρ) (t :: ρ') (n + 1) = t :: back1 ρ ρ' n := by
  unfold back1
  rw [List.getElem?_cons_succ]
  cases h : ρ[n]? <;> rfl
@[simp] theorem wipeP_nil {ρ} : wipeP ρ [] = ρ := id rfl
@[simp] theorem wipeP_cons {ρ v vs} : wipeP ρ (v :: vs) = (wipeP ρ vs).set v .no := id rfl
@[simp] theorem setF_sh {ρ i d} : setF ρ i d .sh = ρ.set i (.fz d) := id rfl
@[simp] theorem setF_fr {ρ i d} : setF ρ i d .fr = ρ.set i (.ow d) := id rfl
@[simp] theorem setAll_nil {ρ} : setAll [] [] ρ = ρ := id rfl
@[simp] theorem setAll_cons {i is d f r ρ} : setAll (i :: is) ((d, f) :: r) ρ = setAll is r (setF ρ i d f) := id rfl
@[simp] theorem okM_cons {ρ as m ms} : okM ρ as (m :: ms) = ((isOwn ρ m && !as.contains m) && okM ρ as ms) := by
  unfold okM
  rw [List.all_cons, Bool.and_assoc]
theorem okM_walk {ρ : PEnv} {as : List Nat} : okM ρ as [] = (!as.contains 1000000 || as.all (nd ρ)) := rfl
@[simp] theorem okM_none {ρ : PEnv} {as : List Nat} (h : as.contains 1000000 = false) : okM ρ as [] = true := by rw [okM_walk, h]; rfl
@[simp] theorem frzIf_cons {ρ ρ1 as m ms b} : frzIf ρ ρ1 as (m :: ms) b = frz ρ1 as := by unfold frzIf; cases b <;> rfl
@[simp] theorem frzIf_nil {ρ ρ1 as b} : frzIf ρ ρ1 as [] b = if b then ρ else frz ρ1 as := by unfold frzIf; cases b <;> rfl
@[simp] theorem immF_sh {d} : immF d .sh = immD d := id rfl
@[simp] theorem immF_fr {d} : immF d .fr = immTop d := id rfl
@[simp] theorem immD_int {d} : immD (.int d) = true := by simp [immD]
@[simp] theorem immD_str {d} : immD (.str d) = true := by simp [immD]
@[simp] theorem immD_bool {d} : immD (.bool d) = true := by simp [immD]
@[simp] theorem immD_none : immD .none = true := by simp [immD]
@[simp] theorem immD_tuple {ds} : immD (.tuple ds) = immAll ds := by simp [immD]
@[simp] theorem immAll_nil : immAll [] = true := by simp [immAll]
@[simp] theorem immAll_cons2 {d ds} : immAll (d :: ds) = (immD d && immAll ds) := by simp [immAll]
@[simp] theorem immAll_ints {xs : List Int} : immAll (xs.map .int) = true := by induction xs <;> simp [*]
@[simp] theorem immTop_list {ds} : immTop (.list ds) = immAll ds := by simp [immTop]
@[simp] theorem fillIo_nil {ρ} : fillIo ρ .nil [] = some [] := by simp [fillIo]
@[simp] theorem fillIo_io {ρ i es d ds} : fillIo ρ (.cons (.io i) es) (d :: ds) = (getO ρ i).bind fun x => (fillIo ρ es ds).bind fun r => some (x :: r) := by simp only [fillIo]; rfl
@[simp] theorem fillIo_e {ρ e es d ds} (h : ∀ i, e ≠ .io i) : fillIo ρ (.cons e es) (d :: ds) = (fillIo ρ es ds).bind fun r => some (d :: r) := by
  cases e <;> first | rfl | exact absurd rfl (h _)
@[simp] theorem ioSlots_nil : ioSlots .nil = [] := id rfl
@[simp] theorem ioSlots_io {i es} : ioSlots (.cons (.io i) es) = i :: ioSlots es := id rfl
@[simp] theorem ioSlots_e {e es} (h : ∀ i, e ≠ .io i) : ioSlots (.cons e es) = ioSlots es := by
  cases e <;> first | rfl | exact absurd rfl (h _)
@[simp] theorem putIo_nil {ρ} : putIo [] [] ρ = some ρ := id rfl
@[simp] theorem putIo_cons {i is d ds ρ} : putIo (i :: is) (d :: ds) ρ = putIo is ds (ρ.set i (.ow d)) := id rfl
@[simp] theorem outsOf_nil {ρ} : outsOf ρ [] = some [] := id rfl
@[simp] theorem endOf_rt {ios d ρ} : endOf ios (.rt d ρ) = (outsOf ρ ios).map fun o => (d, o) := id rfl
@[simp] theorem endOf_nx {ios ρ} : endOf ios (.nx ρ) = (outsOf ρ ios).map fun o => (.none, o) := id rfl
/-- a call is its body's run -/
theorem phi_eq {tbl : List Def} {gl : List PyData} {n f : Nat} {ds : List PyData} {D : Def} {ρ : PEnv} (hD : tbl[f]? = some D) (hl : ds.length = D.np) (he : envOf D ds = ρ) : phi tbl gl (n + 1) f ds = (runs (phi tbl gl n) gl D.ios D.body ρ).bind (endOf D.ios) := by
  subst he
  simp only [phi, hD, hl, if_true, Option.bind_eq_bind]
  congr 1; funext o
  cases o with
  | rt d ρ => cases h : outsOf ρ D.ios <;> simp [h]
  | nx ρ => cases h : outsOf ρ D.ios <;> simp [h]
  | bk ρ => rfl
theorem runs_step {Φ : Nat → List PyData → Option (PyData × List PyData)} {gl : List PyData} {ios : List Nat} {s : S} {ss : Ss} {ρ ρ1 : PEnv} (h : PP.run Φ gl ios s ρ = some (.nx ρ1)) : runs Φ gl ios (.cons s ss) ρ = runs Φ gl ios ss ρ1 := runs_nx h rfl
section
variable {Φ : Nat → List PyData → Option (PyData × List PyData)} {gl : List PyData} {ios : List Nat} {g : G} {b : Ss} {dead : List Nat}
theorem loop_nil {ρ : PEnv} : forE Φ gl ios g b dead [] ρ = some (.nx (wipeP ρ dead)) := rfl
theorem loop_cons {ρ : PEnv} (ρ1 ρ2 : PEnv) {d : PyData} {ds : List PyData} {o : Option Out} (h1 : asgG g d (wipeP ρ dead) = some ρ1) (h2 : runs Φ gl ios b ρ1 = some (.nx ρ2)) (h3 : forE Φ gl ios g b dead ds ρ2 = o) : forE Φ gl ios g b dead (d :: ds) ρ = o := by
  unfold forE at h3 ⊢
  simp only [forL, h1, h2, Option.bind_eq_bind, Option.bind_some]
  exact h3
/-- a loop's turn that ends in a return -/
theorem loop_ret {ρ : PEnv} (ρ1 ρ2 : PEnv) {d v : PyData} {ds : List PyData} (h1 : asgG g d (wipeP ρ dead) = some ρ1) (h2 : runs Φ gl ios b ρ1 = some (.rt v ρ2)) : forE Φ gl ios g b dead (d :: ds) ρ = some (.rt v ρ2) := by
  unfold forE
  simp only [forL, h1, h2, Option.bind_eq_bind, Option.bind_some]
end
end PP

/-! PP21: plain data: what is not deep, items by number, ranges, counting loops. -/
namespace PP
open PySem PySem.Spec PyProof.Rows L2
def okN (n : Nat) (d : PyData) : Bool := d.plain && decide (d.depth ≤ n)
theorem okN_all (n : Nat) : ∀ xs : List PyData, (PyData.plainAll xs && decide (PyData.depthAll xs ≤ n)) = xs.all (okN n)
  | [] => by simp [PyData.plainAll, PyData.depthAll]
  | x :: xs => by
    rw [List.all_cons, ← okN_all n xs]
    simp only [PyData.plainAll, PyData.depthAll, okN, Nat.max_le, Bool.decide_and]
    cases x.plain <;> cases PyData.plainAll xs <;> simp
@[simp] theorem okN_int {n i} : okN n (.int i) = true := by simp [okN, PyData.plain, PyData.depth]
@[simp] theorem okN_str {n i} : okN n (.str i) = true := by simp [okN, PyData.plain, PyData.depth]
@[simp] theorem okN_bool {n i} : okN n (.bool i) = true := by simp [okN, PyData.plain, PyData.depth]
@[simp] theorem okN_none {n} : okN n .none = true := by simp [okN, PyData.plain, PyData.depth]
@[simp] theorem okN_list {n xs} : okN (n + 1) (.list xs) = xs.all (okN n) := by simp [okN, ← okN_all, PyData.plain, PyData.depth]
@[simp] theorem okN_tuple {n xs} : okN (n + 1) (.tuple xs) = xs.all (okN n) := by simp [okN, ← okN_all, PyData.plain, PyData.depth]
theorem okD_eq {d : PyData} : okD d = okN 40 d := rfl
@[simp] theorem okD_list {xs} : okD (.list xs) = xs.all (okN 39) := by rw [okD_eq]; exact okN_list
@[simp] theorem okD_tuple {xs} : okD (.tuple xs) = xs.all (okN 39) := by rw [okD_eq]; exact okN_tuple
theorem okN_mono {n m : Nat} (h : n ≤ m) {d : PyData} (e : okN n d = true) : okN m d = true := by
  simp only [okN, Bool.and_eq_true, decide_eq_true_eq] at e ⊢
  exact ⟨e.1, Nat.le_trans e.2 h⟩
@[simp] theorem eqv_tt {xs ys} : PyData.eqv (.tuple xs) (.tuple ys) = PyData.eqvAll xs ys := by simp only [PyData.eqv]
@[simp] theorem eqv_ll {xs ys} : PyData.eqv (.list xs) (.list ys) = PyData.eqvAll xs ys := by simp only [PyData.eqv]
@[simp] theorem eqv_ii {x y} : PyData.eqv (.int x) (.int y) = decide (x = y) := by simp only [PyData.eqv]; rfl
@[simp] theorem eqv_ss {x y} : PyData.eqv (.str x) (.str y) = decide (x = y) := by simp only [PyData.eqv]; rfl
@[simp] theorem eqv_bb {x y} : PyData.eqv (.bool x) (.bool y) = decide (x = y) := by simp only [PyData.eqv]; rfl
@[simp] theorem eqv_nn : PyData.eqv .none .none = true := by simp only [PyData.eqv]
@[simp] theorem eqvAll_nn : PyData.eqvAll [] [] = true := by simp only [PyData.eqvAll]
@[simp] theorem eqvAll_cn {x xs} : PyData.eqvAll (x :: xs) [] = false := by simp only [PyData.eqvAll]
@[simp] theorem eqvAll_nc {x xs} : PyData.eqvAll [] (x :: xs) = false := by simp only [PyData.eqvAll]
@[simp] theorem eqvAll_cc {x xs y ys} : PyData.eqvAll (x :: xs) (y :: ys) = (PyData.eqv x y && PyData.eqvAll xs ys) := by simp only [PyData.eqvAll]
theorem eqV_ok {a b : PyData} (ha : okD a = true) (hb : okD b = true) : eqV a b = some (PyData.eqv a b) := by unfold eqV; rw [ha, hb]; rfl
@[simp] theorem cmpV_eqT {xs ys} (ha : okD (.tuple xs) = true) (hb : okD (.tuple ys) = true) : cmpV .Eq (.tuple xs) (.tuple ys) = some (PyData.eqvAll xs ys) := by
  show eqV _ _ = _
  rw [eqV_ok ha hb, eqv_tt]
@[simp] theorem cmpV_neT {xs ys} (ha : okD (.tuple xs) = true) (hb : okD (.tuple ys) = true) : cmpV .NotEq (.tuple xs) (.tuple ys) = some (!PyData.eqvAll xs ys) := by
  show (eqV _ _).map _ = _
  rw [eqV_ok ha hb, eqv_tt]; rfl
@[simp] theorem cmpV_neC {x xs} : cmpV .NotEq (.list (x :: xs)) (.list []) = some true := id rfl
@[simp] theorem cmpV_neE : cmpV .NotEq (.list []) (.list []) = some false := id rfl
theorem cmpV_ne0 {xs : List PyData} : cmpV .NotEq (.list xs) (.list []) = some (!xs.isEmpty) := by cases xs <;> rfl
theorem cmpV_neA {xs : List PyData} {x : PyData} : cmpV .NotEq (.list (xs ++ [x])) (.list []) = some true := by cases xs <;> rfl
/-! items -/
@[simp] theorem atI_0 {α : Type} {x : α} {xs : List α} : atI (x :: xs) 0 = some x := atI_nat (j := 0) rfl
@[simp] theorem atI_1 {α : Type} {x y : α} {xs : List α} : atI (x :: y :: xs) 1 = some y := atI_nat (j := 1) rfl
@[simp] theorem atI_2 {α : Type} {x y z : α} {xs : List α} : atI (x :: y :: z :: xs) 2 = some z := atI_nat (j := 2) rfl
@[simp] theorem atI_3 {α : Type} {x y z w : α} {xs : List α} : atI (x :: y :: z :: w :: xs) 3 = some w := atI_nat (j := 3) rfl
theorem atI_mid {α : Type} {pre ps : List α} {p : α} {i : Int} (h : i = pre.length) : atI (pre ++ p :: ps) i = some p := by
  subst h
  exact atI_nat (by simp)
@[simp] theorem atI_end {α : Type} {xs : List α} {x : α} : atI (xs ++ [x]) (-1) = some x := atI_last xs x
theorem atI_lt {α : Type} {xs : List α} {i : Int} (h0 : 0 ≤ i) (h : i < xs.length) : atI xs i = some (xs[i.toNat]'(by omega)) := by
  have : i = ((i.toNat : Nat) : Int) := by omega
  conv => lhs; rw [this]
  exact atI_nat (by rw [List.getElem?_eq_getElem])
@[simp] theorem setV_end {xs : List PyData} {x v : PyData} : setV (.list (xs ++ [x])) (.int (-1)) v = some (.list (xs ++ [v])) := by
  have : ixN (xs ++ [x]).length (-1) = some xs.length := by
    unfold ixN
    rw [List.length_append]
    simp
    omega
  show (ixN (xs ++ [x]).length (-1)).map _ = _
  rw [this]
  simp
/-! ranges -/
def iidx (i : Int) (m : Nat) : List PyData := (List.range m).map fun j => .int (i + (j : Nat))
@[simp] theorem iidx_0 {i} : iidx i 0 = [] := id rfl
theorem iidx_s {i m} : iidx i (m + 1) = .int i :: iidx (i + 1) m := by
  unfold iidx
  rw [List.range_succ_eq_map, List.map_cons, List.map_map]
  congr 1
  · simp
  · apply List.map_congr_left
    intro j _
    simp
    omega
@[simp] theorem iidx_len {i m} : (iidx i m).length = m := by simp [iidx]
theorem rngD_1 {j : Int} (h0 : 0 ≤ j) (h : j < 4611686018427387904) : rngD [.int j] = some (iidx 0 j.toNat) := by
  show (if rngOk 0 j then some (iidx 0 j.toNat) else none) = _
  rw [if_pos (by simp [rngOk]; omega)]
theorem rngD_n {n : Nat} (h : n < 4611686018427387904) : rngD [.int (n : Int)] = some (iidx 0 n) := by
  rw [rngD_1 (by omega) (by omega)]; rfl
theorem rngD_2 {i j : Int} (h0 : -4611686018427387904 ≤ i) (h1 : i < 4611686018427387904) (h2 : -4611686018427387904 ≤ j) (h3 : j < 4611686018427387904) : rngD [.int i, .int j] = some (iidx i (j - i).toNat) := by
  show (if rngOk i j then some (iidx i (j - i).toNat) else none) = _
  rw [if_pos (by simp [rngOk]; omega)]
theorem v_listRange_2 {i j : Int} (h0 : -4611686018427387904 ≤ i) (h1 : i < 4611686018427387904) (h2 : -4611686018427387904 ≤ j) (h3 : j < 4611686018427387904) (hl : (j - i).toNat ≤ sizeLine) : v_listRange [.int i, .int j] = some (.list (iidx i (j - i).toNat), .fr) := by
  simp only [v_listRange, rngD_2 h0 h1 h2 h3, Option.bind_eq_bind, Option.bind_some, iidx_len, if_pos hl]
/-! loops that count -/
theorem iter_add (k : Nat) (a : Int) : iter (· + 1) k a = a + k := by
  induction k generalizing a with
  | zero => simp [iter]
  | succ k ih => simp only [iter]; rw [ih]; omega
theorem whileE_count {Φ : Nat → List PyData → Option (PyData × List PyData)} {gl : List PyData} {ios : List Nat} {c : E} {b : Ss} {dead : List Nat} (E : Int → PEnv) (p : Int → Bool) (a : Int) (k : Nat) {m : Nat} (hk : k < m) (ht : ∀ i : Nat, i < k → p (a + i) = true) (hf : p (a + k) = false) (hw : ∀ x, wipeP (E x) dead = E x)
    (h1 : ∀ x, evT Φ gl c (E x) = some (p x, E x)) (h2 : ∀ x, runs Φ gl ios b (E x) = some (.nx (E (x + 1)))) : whileE Φ gl ios c b dead m (E a) = some (.nx (E (a + k))) := by
  have := whileL_iter (tst := fun ρ => evT Φ gl c ρ) (body := fun ρ => runs Φ gl ios b ρ) (dead := dead) E (· + 1) p k m a (E a) (hw a) (fun i hi => by rw [iter_add]; exact ht i hi) (by rw [iter_add]; exact hf) hk fun x => ⟨_, h1 x, fun _ => rfl, fun _ => ⟨_, h2 x, hw _⟩⟩
  rw [iter_add] at this
  exact this
end PP

/-! PP22: comprehensions over typed items; more about dicts. -/
namespace PP
open PySem PySem.Spec PyProof.Rows L2
section
variable {asgn : PyData → PEnv → Option PEnv} {tst elt : PEnv → Option (PyData × Fl × PEnv)} {vs : List Nat}
theorem compG {α : Type} {ρ : PEnv} (g : α → PyData) (p : α → Bool) (f : α → PyData) : ∀ (xs : List α) (acc : List PyData), (∀ x, x ∈ xs → ∃ ρ1 fl ρ2, asgn (g x) ρ = some ρ1 ∧ tst ρ1 = some (.bool (p x), fl, ρ2) ∧ (p x = false → wipeP ρ2 vs = ρ) ∧ (p x = true → ∃ fl3 ρ3, elt ρ2 = some (f x, fl3, ρ3) ∧ wipeP ρ3 vs = ρ)) → acc.length + xs.length ≤ sizeLine →
    compL asgn tst elt vs (xs.map g) acc ρ = some (acc ++ (xs.filter p).map f, ρ)
  | [], acc, _, _ => by simp [compL, compL2]
  | d :: ds, acc, h, hl => by
    obtain ⟨ρ1, fl, ρ2, h1, h2, h3, h4⟩ := h d (List.mem_cons_self ..)
    have ih := fun acc => compG (ρ := ρ) g p f ds acc fun d hd => h d (List.mem_cons_of_mem _ hd)
    unfold compL at ih ⊢
    simp only [List.map_cons, compL2, h1, h2, Option.bind_eq_bind, Option.bind_some]
    cases hp : p d with
    | false =>
      simp only [h3 hp]
      rw [ih acc (by rw [List.length_cons] at hl; omega), List.filter_cons, hp]
      rfl
    | true =>
      obtain ⟨fl3, ρ3, h5, h6⟩ := h4 hp
      have : acc.length < sizeLine := by rw [List.length_cons] at hl; omega
      simp only [addV, h5, Option.bind_eq_bind, Option.bind_some, if_pos this, h6]
      rw [ih (acc ++ [f d]) (by rw [List.length_append]; rw [List.length_cons] at hl; simp; omega), List.filter_cons, hp, if_pos rfl, List.map_cons, List.append_assoc]
      rfl
end
/-- a comprehension that changes nothing else -/
theorem compR {Φ : Nat → List PyData → Option (PyData × List PyData)} {gl : List PyData} {vs : List Nat} {g : G} {c e : E} {α : Type} {ρ : PEnv} (it : α → PyData) (p : α → Bool) (f : α → PyData) (R : α → PEnv) (fl : Fl) (xs : List α) (h1 : ∀ x, x ∈ xs → asgG g (it x) ρ = some (R x)) (h2 : ∀ x, x ∈ xs → ev Φ gl c (R x) = some (.bool (p x), .sh, R x)) (h3 : ∀ x, x ∈ xs → p x = true → ev Φ gl e (R x) = some (f x, fl, R x)) (h4 : ∀ x, x ∈ xs → wipeP (R x) vs = ρ) (hl : xs.length ≤ sizeLine) :
    compE Φ gl vs g c e (xs.map it) [] ρ = some ((xs.filter p).map f, ρ) := by
  unfold compE
  rw [compG it p f xs [] (fun x hx => ⟨R x, .sh, R x, h1 x hx, h2 x hx, fun _ => h4 x hx, fun hp => ⟨fl, R x, h3 x hx hp, h4 x hx⟩⟩) (by simpa using hl)]
  rfl
/-- .. all kept -/
theorem compA {Φ : Nat → List PyData → Option (PyData × List PyData)} {gl : List PyData} {vs : List Nat} {g : G} {e : E} {α : Type} {ρ : PEnv} (it : α → PyData) (f : α → PyData) (R : α → PEnv) (fl : Fl) (xs : List α) (h1 : ∀ x, x ∈ xs → asgG g (it x) ρ = some (R x)) (h3 : ∀ x, x ∈ xs → ev Φ gl e (R x) = some (f x, fl, R x)) (h4 : ∀ x, x ∈ xs → wipeP (R x) vs = ρ) (hl : xs.length ≤ sizeLine) :
    compE Φ gl vs g (.bl true) e (xs.map it) [] ρ = some (xs.map f, ρ) := by
  rw [compR it (fun _ => true) f R fl xs h1 (fun _ _ => ev_bl) (fun x hx _ => h3 x hx) h4 hl, List.filter_eq_self.mpr (fun _ _ => rfl)]
theorem iidx_zip {α : Type} (xs : List α) (i : Int) : iidx i xs.length = xs.zipIdx.map fun p => .int (i + (p.2 : Nat)) := by
  unfold iidx
  show _ = xs.zipIdx.map ((fun j : Nat => PyData.int (i + (j : Nat))) ∘ Prod.snd)
  rw [← List.map_map, List.zipIdx_eq_zip_range', List.map_snd_zip (by simp), List.range_eq_range']
theorem zipIdx_get {α : Type} {xs : List α} {p : α × Nat} (h : p ∈ xs.zipIdx) : xs[p.2]? = some p.1 := by
  have := List.mem_zipIdx_iff_getElem?.mp h
  simpa using this
theorem zipIdx_at {α : Type} {xs : List α} {p : α × Nat} (h : p ∈ xs.zipIdx) : atI xs (p.2 : Int) = some p.1 := atI_nat (zipIdx_get h)
/-! dicts -/
theorem dkey_plain {p : PyData × PyData} (h : plainKey p = true) : ∃ k, dkey p.1 = some (.inl k) := by
  unfold plainKey at h
  cases e : dkey p.1 with
  | none => rw [e] at h; cases h
  | some z => cases z with
    | inl k => exact ⟨k, rfl⟩
    | inr k => rw [e] at h; cases h
theorem fits_plain {kvs : List (PyData × PyData)} (h : kvs.all plainKey = true) (k : Sum Int Str) : dfits kvs (.inl k) = true := by
  unfold dfits
  rw [List.all_eq_true] at h ⊢
  intro p hp
  obtain ⟨k', e⟩ := dkey_plain (h p hp)
  rw [e]
theorem has_mem {kvs : List (PyData × PyData)} {p : PyData × PyData} {k : DK} (h : p ∈ kvs) (e : dkey p.1 = some k) : dhas kvs k = true := by
  unfold dhas
  rw [List.any_eq_true]
  exact ⟨p, h, by rw [e]; simp⟩
/-- keys that differ -/
def keysOk (kvs : List (PyData × PyData)) : Prop := kvs.all plainKey = true ∧ (kvs.map fun p => dkey p.1).Nodup
theorem look_mem : ∀ {kvs : List (PyData × PyData)} {p : PyData × PyData} {k : DK}, (kvs.map fun p => dkey p.1).Nodup → p ∈ kvs → dkey p.1 = some k → dlook kvs k = some p.2
  | q :: kvs, p, k, hn, hp, e => by
    rw [List.map_cons, List.nodup_cons] at hn
    rcases List.mem_cons.mp hp with rfl | hp
    · simp [dlook, e]
    · have : dkey q.1 ≠ some k := fun z => hn.1 (by rw [z]; exact List.mem_map.mpr ⟨p, hp, e⟩)
      unfold dlook
      rw [List.find?_cons_of_neg (by simpa using this)]
      exact look_mem hn.2 hp e
theorem put_new {kvs : List (PyData × PyData)} {k : DK} {kd v : PyData} (h : some k ∉ kvs.map fun p => dkey p.1) : dput kvs k kd v = kvs ++ [(kd, v)] := by
  unfold dput
  rw [if_neg]
  intro z
  unfold dhas at z
  rw [List.any_eq_true] at z
  obtain ⟨p, hp, e⟩ := z
  exact h (List.mem_map.mpr ⟨p, hp, by simpa using e⟩)
theorem dictOf_new : ∀ (ps acc : List (PyData × PyData)), (ps.all plainKey = true) → ((acc ++ ps).map fun p => dkey p.1).Nodup → (ps.foldlM (init := acc) fun acc p => (do
  match dkey p.1 with
  | some (.inl k) => some (dput acc (.inl k) p.1 p.2)
  | _ => none : Option (List (PyData × PyData)))) = some (acc ++ ps)
  | [], acc, _, _ => by simp
  | p :: ps, acc, hp, hn => by
    rw [List.all_cons, Bool.and_eq_true] at hp
    obtain ⟨k, e⟩ := dkey_plain hp.1
    have : some (Sum.inl k) ∉ acc.map fun p => dkey p.1 := by
      intro z
      rw [List.map_append, List.nodup_append] at hn
      exact hn.2.2 _ z _ (by rw [List.map_cons, ← e]; exact List.mem_cons_self ..) rfl
    rw [List.foldlM_cons]
    simp only [e, put_new this, Option.bind_eq_bind, Option.bind_some]
    rw [dictOf_new ps (acc ++ [(p.1, p.2)]) hp.2 (by simpa using hn)]
    simp
theorem dictOf_ok {ps : List (PyData × PyData)} (h : keysOk ps) : dictOf ps = some ps := by
  exact dictOf_new ps [] h.1 (by simpa using h.2)
theorem pairsD_map {α : Type} (f g : α → PyData) : ∀ xs : List α, pairsD (xs.map fun x => .tuple [f x, g x]) = some (xs.map fun x => (f x, g x))
  | [] => rfl
  | x :: xs => by rw [List.map_cons]; show (pairsD _).map _ = _; rw [pairsD_map f g xs]; rfl
end PP

/-! PP23: a value is the same as itself: _law_same. -/
namespace PP
open PySem PySem.Spec PyProof.Rows L2
/-- Same: slots 0 seen 1 due 2 waiting 3 one 4 other 5 keys 6 key 7 k -/
def eSame_0 : E :=
 .tup (.cons (.ix (.var 3) (.var 6)) (.cons (.ix (.var 4) (.var 6)) (.nil)))
def eSame_1 : E :=
 .tup (.cons (.ix (.var 5) (.var 6)) (.cons (.var 6) (.nil)))
def eSame_2 : E :=
 .tup (.cons (.var 6) (.cons (.var 6) (.nil)))
def cSame_3 : E :=
 .cmp .NotIn (.var 6) (.var 3)
def eSame_4 : E :=
 .tup (.cons (.ix (.var 3) (.var 7)) (.cons (.ix (.var 4) (.var 7)) (.nil)))
def cSame_5 : E :=
 .cmp .NotEq (.var 2) (.lst (.nil))
def bSame_6 : Ss :=
 .cons (.pop (.tp [.nm 3, .nm 4]) 2)
 (.cons (.ifs (.bi (.isI "dict") (.cons (.var 4) (.nil))) (.cons (.ifs (.bop .Or (.un .Not (.bi (.isI "dict") (.cons (.var 3) (.nil)))) (.bop .Or (.cmp .NotEq (.bi .len (.cons (.var 3) (.nil))) (.bi .len (.cons (.var 4) (.nil)))) (.cmp .NotEq (.comp [6] (.nm 6) (.dk 4) (cSame_3) (.var 6)) (.lst (.nil))))) (.cons (.ret (.bl false))
 (.nil)) (.nil))
 (.cons (.asg 5 (.bi .dict (.cons (.comp [6] (.nm 6) (.dk 3) (.bl true) (eSame_2)) (.nil))))
 (.cons (.frz [5])
 (.cons (.mut "extend" 2 (.bin .Add (.comp [6] (.nm 6) (.dk 4) (.bl true) (eSame_0)) (.comp [6] (.nm 6) (.dk 4) (.bl true) (eSame_1))))
 (.nil))))) (.cons (.ifs (.bop .Or (.bi (.isI "tuple") (.cons (.var 4) (.nil))) (.bi (.isI "list") (.cons (.var 4) (.nil)))) (.cons (.ifs (.bop .Or (.cmp .NotEq (.bi (.isI "tuple") (.cons (.var 3) (.nil))) (.bi (.isI "tuple") (.cons (.var 4) (.nil)))) (.bop .Or (.cmp .NotEq (.bi (.isI "list") (.cons (.var 3) (.nil))) (.bi (.isI "list") (.cons (.var 4) (.nil)))) (.cmp .NotEq (.bi .len (.cons (.var 3) (.nil))) (.bi .len (.cons (.var 4) (.nil)))))) (.cons (.ret (.bl false))
 (.nil)) (.nil))
 (.cons (.mut "extend" 2 (.comp [7] (.nm 7) (.rng (.cons (.bi .len (.cons (.var 4) (.nil))) (.nil))) (.bl true) (eSame_4)))
 (.nil))) (.cons (.ifs (.bop .Or (.cmp .NotEq (.bi (.isI "bool") (.cons (.var 3) (.nil))) (.bi (.isI "bool") (.cons (.var 4) (.nil)))) (.bop .Or (.cmp .NotEq (.bi (.isI "int") (.cons (.var 3) (.nil))) (.bi (.isI "int") (.cons (.var 4) (.nil)))) (.bop .Or (.cmp .NotEq (.bi (.isI "str") (.cons (.var 3) (.nil))) (.bi (.isI "str") (.cons (.var 4) (.nil)))) (.cmp .NotEq (.var 3) (.var 4))))) (.cons (.ret (.bl false))
 (.nil)) (.nil))
 (.nil)))
 (.nil)))
 (.nil))
def bSame : Ss :=
 .cons (.asg 2 (.lst (.cons (.tup (.cons (.var 0) (.cons (.var 1) (.nil)))) (.nil))))
 (.cons (.whil (cSame_5) (bSame_6) [3, 4, 5])
 (.cons (.ret (.bl true))
 (.nil)))
mutual
/-- dicts with plain keys that differ -/
def sOk : PyData → Prop
  | .list xs | .tuple xs => sOkAll xs
  | .dict kvs => keysOk kvs ∧ sOkKv kvs
  | _ => True
def sOkAll : List PyData → Prop
  | [] => True
  | x :: xs => sOk x ∧ sOkAll xs
def sOkKv : List (PyData × PyData) → Prop
  | [] => True
  | p :: kvs => sOk p.1 ∧ sOk p.2 ∧ sOkKv kvs
end
mutual
def nodes : PyData → Nat
  | .list xs | .tuple xs => nodesAll xs + 1
  | .dict kvs => nodesKv kvs + 1
  | _ => 1
def nodesAll : List PyData → Nat
  | [] => 0
  | x :: xs => nodes x + nodesAll xs
def nodesKv : List (PyData × PyData) → Nat
  | [] => 0
  | p :: kvs => nodes p.1 + nodes p.2 + nodesKv kvs
end
theorem sOkAll_iff : ∀ {xs : List PyData}, sOkAll xs ↔ ∀ x, x ∈ xs → sOk x
  | [] => by simp [sOkAll]
  | x :: xs => by simp [sOkAll, sOkAll_iff (xs := xs)]
theorem sOkKv_iff : ∀ {kvs : List (PyData × PyData)}, sOkKv kvs ↔ ∀ p, p ∈ kvs → sOk p.1 ∧ sOk p.2
  | [] => by simp [sOkKv]
  | p :: kvs => by simp [sOkKv, sOkKv_iff (kvs := kvs), and_assoc]
theorem nodesAll_app : ∀ (xs ys : List PyData), nodesAll (xs ++ ys) = nodesAll xs + nodesAll ys
  | [], ys => by simp [nodesAll]
  | x :: xs, ys => by simp [nodesAll, nodesAll_app xs ys, Nat.add_assoc]
theorem nodes_pos : ∀ d : PyData, 1 ≤ nodes d
  | .list _ | .tuple _ | .dict _ | .none | .bool _ | .int _ | .str _ => by simp [nodes]
theorem length_nodes : ∀ xs : List PyData, xs.length ≤ nodesAll xs
  | [] => Nat.zero_le _
  | x :: xs => by have := length_nodes xs; have := nodes_pos x; simp [nodesAll]; omega
theorem nodesKv_eq : ∀ kvs : List (PyData × PyData), nodesKv kvs = nodesAll (kvs.map (·.2)) + nodesAll (kvs.map (·.1))
  | [] => rfl
  | p :: kvs => by simp [nodesAll, nodesKv, nodesKv_eq kvs]; omega
def kids : PyData → List PyData
  | .list xs | .tuple xs => xs
  | .dict kvs => kvs.map (·.2) ++ kvs.map (·.1)
  | _ => []
theorem kids_nodes (d : PyData) : nodesAll (kids d) + 1 = nodes d := by
  cases d <;> simp [kids, nodes, nodesAll, nodesAll_app, nodesKv_eq]
theorem kids_ok {d : PyData} (h : sOk d) : ∀ x, x ∈ kids d → sOk x := by
  cases d with
  | list xs => exact sOkAll_iff.mp h
  | tuple xs => exact sOkAll_iff.mp h
  | dict kvs =>
    intro x hx
    have h2 := sOkKv_iff.mp (show sOkKv kvs from h.2)
    simp only [kids, List.mem_append, List.mem_map] at hx
    rcases hx with ⟨p, hp, rfl⟩ | ⟨p, hp, rfl⟩
    · exact (h2 p hp).2
    · exact (h2 p hp).1
  | _ => intro x hx; cases hx
def dbl (d : PyData) : PyData := .tuple [d, d]
abbrev smE (s d : PyData) (ws : List PyData) (x y z : Sl) : PEnv := [.fz s, .fz d, .ow (.list (ws.map dbl)), x, y, z, .no, .no]
section
variable {Φ : Nat → List PyData → Option (PyData × List PyData)} {gl : List PyData}
theorem same_test (s d : PyData) (ws : List PyData) (x y z : Sl) : evT Φ gl cSame_5 (smE s d ws x y z) = some (!ws.isEmpty, smE s d ws x y z) := by
  cases ws <;> simp [cSame_5, als, mods, alss, modss]
@[simp] theorem al_0 : als eSame_0 = [3, 6, 4, 6] := rfl
@[simp] theorem al_1 : als eSame_1 = [5, 6, 6] := rfl
@[simp] theorem al_2 : als eSame_2 = [6, 6] := rfl
@[simp] theorem al_3 : als cSame_3 = [6, 3] := rfl
@[simp] theorem al_4 : als eSame_4 = [3, 7, 4, 7] := rfl
@[simp] theorem mo_0 : mods eSame_0 = [] := rfl
@[simp] theorem mo_1 : mods eSame_1 = [] := rfl
@[simp] theorem mo_2 : mods eSame_2 = [] := rfl
@[simp] theorem mo_3 : mods cSame_3 = [] := rfl
@[simp] theorem mo_4 : mods eSame_4 = [] := rfl
theorem same_hc (xs : List PyData) (h2 : xs.length ≤ sizeLine) (w x y z : Sl) (d : PyData) (hd : d = .tuple xs ∨ d = .list xs) : compE Φ gl [7] (.nm 7) (.bl true) eSame_4 (iidx 0 xs.length) [] [w, x, y, .fz d, .fz d, z, .no, .no] = some (xs.map dbl, [w, x, y, .fz d, .fz d, z, .no, .no]) := by
  rw [iidx_zip xs 0]
  refine (compA (fun p : PyData × Nat => PyData.int (0 + (p.2 : Nat))) (fun p => dbl p.1) (fun p => [w, x, y, .fz d, .fz d, z, .no, .fz (.int (0 + (p.2 : Nat)))]) .sh xs.zipIdx (fun p hp => by simp) (fun p hp => ?_) (fun p hp => by simp) (by rw [List.length_zipIdx]; exact h2)).trans ?_
  · have hg := zipIdx_at hp
    have h2 : (2 : Nat) ≤ sizeLine := by decide
    rcases hd with rfl | rfl <;> simp [eSame_4, hg, dbl, h2]
  · congr 2
    show xs.zipIdx.map (dbl ∘ Prod.fst) = _
    rw [← List.map_map, List.zipIdx_map_fst]
theorem same_tup (s d : PyData) (ws xs : List PyData) (h1 : ws.length + xs.length ≤ sizeLine) (h2 : xs.length ≤ sizeLine) (h3 : xs.length < 4611686018427387904) : runs Φ gl [] bSame_6 (smE s d (ws ++ [.tuple xs]) .no .no .no) = some (.nx (smE s d (ws ++ xs) (.fz (.tuple xs)) (.fz (.tuple xs)) .no)) := by
  have hc := same_hc (Φ := Φ) (gl := gl) xs h2
  simp [bSame_6, als, mods, alss, modss, alsI, modsI, dbl, isT, rngD_n h3, hc, h1]
theorem same_lst (s d : PyData) (ws xs : List PyData) (h1 : ws.length + xs.length ≤ sizeLine) (h2 : xs.length ≤ sizeLine) (h3 : xs.length < 4611686018427387904) : runs Φ gl [] bSame_6 (smE s d (ws ++ [.list xs]) .no .no .no) = some (.nx (smE s d (ws ++ xs) (.fz (.list xs)) (.fz (.list xs)) .no)) := by
  have hc := same_hc (Φ := Φ) (gl := gl) xs h2
  simp [bSame_6, als, mods, alss, modss, alsI, modsI, dbl, isT, rngD_n h3, hc, h1]
theorem inV_key {kvs : List (PyData × PyData)} (h : keysOk kvs) {p : PyData × PyData} (hp : p ∈ kvs) : inV p.1 (.dict kvs) = some true := by
  obtain ⟨k, e⟩ := dkey_plain (List.all_eq_true.mp h.1 p hp)
  have : inV p.1 (.dict kvs) = (match dkey p.1 with | some k => if dfits kvs k then some (dhas kvs k) else none | none => none) := by cases p.1 <;> rfl
  rw [this, e]
  simp only [fits_plain h.1, if_true, has_mem hp e]
theorem ixV_key {kvs : List (PyData × PyData)} (h : keysOk kvs) {p : PyData × PyData} (hp : p ∈ kvs) : ixV (.dict kvs) p.1 = some p.2 := by
  obtain ⟨k, e⟩ := dkey_plain (List.all_eq_true.mp h.1 p hp)
  show (match dkey p.1 with | some k => if dfits kvs k then dlook kvs k else none | none => none) = _
  rw [e]
  simp only [fits_plain h.1, if_true, look_mem h.2 hp e]
theorem keysOk_twice {kvs : List (PyData × PyData)} (h : keysOk kvs) : keysOk (kvs.map fun p => (p.1, p.1)) := by
  refine ⟨?_, ?_⟩
  · rw [List.all_map]; exact h.1
  · rw [List.map_map]; exact h.2
theorem same_dict (s d : PyData) (ws : List PyData) (kvs : List (PyData × PyData)) (hk : keysOk kvs) (hl : ws.length + (kvs.length + kvs.length) ≤ 1000000) : ∃ ρ2, runs Φ gl [] bSame_6 (smE s d (ws ++ [.dict kvs]) .no .no .no) = some (.nx ρ2) ∧ wipeP ρ2 [3, 4, 5] = smE s d (ws ++ (kvs.map (·.2) ++ kvs.map (·.1))) .no .no .no := by
  have h1 : ws.length + (kvs.length + kvs.length) ≤ sizeLine := by unfold sizeLine; omega
  have h2 : kvs.length ≤ sizeLine := by omega
  have h3 : kvs.length + kvs.length ≤ sizeLine := by omega
  have h4 : (2 : Nat) ≤ sizeLine := by decide
  have c3 : ∀ (w x y z : Sl), compE Φ gl [6] (.nm 6) cSame_3 (.var 6) (kvs.map (·.1)) [] [w, x, y, .fz (.dict kvs), .fz (.dict kvs), z, .no, .no] = some ([], [w, x, y, .fz (.dict kvs), .fz (.dict kvs), z, .no, .no]) := by
    intro w x y z
    refine (compR (fun p : PyData × PyData => p.1) (fun _ => false) (fun p => p.1) (fun p => [w, x, y, .fz (.dict kvs), .fz (.dict kvs), z, .fz p.1, .no]) .sh kvs (fun p hp => by simp) (fun p hp => ?_) (fun p hp h => by cases h) (fun p hp => by simp) h2).trans ?_
    · simp [cSame_3, inV_key hk hp]
    · rw [List.filter_eq_nil_iff.mpr (by simp)]; rfl
  have c2 : ∀ (w x y z : Sl), compE Φ gl [6] (.nm 6) (.bl true) eSame_2 (kvs.map (·.1)) [] [w, x, y, .fz (.dict kvs), .fz (.dict kvs), z, .no, .no] = some (kvs.map fun p => .tuple [p.1, p.1], [w, x, y, .fz (.dict kvs), .fz (.dict kvs), z, .no, .no]) := by
    intro w x y z
    refine compA (fun p : PyData × PyData => p.1) (fun p => .tuple [p.1, p.1]) (fun p => [w, x, y, .fz (.dict kvs), .fz (.dict kvs), z, .fz p.1, .no]) .sh kvs (fun p hp => by simp) (fun p hp => ?_) (fun p hp => by simp) h2
    simp [eSame_2, h4]
  have c0 : ∀ (w x y z : Sl), compE Φ gl [6] (.nm 6) (.bl true) eSame_0 (kvs.map (·.1)) [] [w, x, y, .fz (.dict kvs), .fz (.dict kvs), z, .no, .no] = some (kvs.map fun p => .tuple [p.2, p.2], [w, x, y, .fz (.dict kvs), .fz (.dict kvs), z, .no, .no]) := by
    intro w x y z
    refine compA (fun p : PyData × PyData => p.1) (fun p => .tuple [p.2, p.2]) (fun p => [w, x, y, .fz (.dict kvs), .fz (.dict kvs), z, .fz p.1, .no]) .sh kvs (fun p hp => by simp) (fun p hp => ?_) (fun p hp => by simp) h2
    simp [eSame_0, h4, ixV_key hk hp]
  have c1 : ∀ (w x y u v : Sl), compE Φ gl [6] (.nm 6) (.bl true) eSame_1 (kvs.map (·.1)) [] [w, x, y, u, v, .fz (.dict (kvs.map fun p => (p.1, p.1))), .no, .no] = some (kvs.map fun p => .tuple [p.1, p.1], [w, x, y, u, v, .fz (.dict (kvs.map fun p => (p.1, p.1))), .no, .no]) := by
    intro w x y u v
    refine compA (fun p : PyData × PyData => p.1) (fun p => .tuple [p.1, p.1]) (fun p => [w, x, y, u, v, .fz (.dict (kvs.map fun p => (p.1, p.1))), .fz p.1, .no]) .sh kvs (fun p hp => by simp) (fun p hp => ?_) (fun p hp => by simp) h2
    have : ixV (.dict (kvs.map fun p => (p.1, p.1))) p.1 = some p.1 := ixV_key (keysOk_twice hk) (p := (p.1, p.1)) (List.mem_map.mpr ⟨p, hp, rfl⟩)
    simp [eSame_1, h4, this]
  have cd : v_dict [.list (kvs.map fun p => .tuple [p.1, p.1])] = some (.dict (kvs.map fun p => (p.1, p.1)), .fr) := by
    simp only [v_dict, pairsD_map, Option.bind_eq_bind, Option.bind_some, dictOf_ok (keysOk_twice hk)]
    rfl
  refine ⟨smE s d (ws ++ (kvs.map (·.2) ++ kvs.map (·.1))) (.fz (.dict kvs)) (.fz (.dict kvs)) (.fz (.dict (kvs.map fun p => (p.1, p.1)))), ?_, by simp⟩
  have e2 : (fun p : PyData × PyData => PyData.tuple [p.2, p.2]) = dbl ∘ (·.2) := rfl
  have e1 : (fun p : PyData × PyData => PyData.tuple [p.1, p.1]) = dbl ∘ (·.1) := rfl
  simp [bSame_6, als, mods, alss, modss, alsI, modsI, dbl, isT, okM_walk, notDict, lkM, c0, c1, c2, c3, cd, h1, h2, h3]
  rfl
theorem same_atom (s d : PyData) (ws : List PyData) (x : PyData) (hx : kids x = []) (hd : ∀ kvs, x ≠ .dict kvs) (ht : ∀ xs, x ≠ .tuple xs) (hl : ∀ xs, x ≠ .list xs) : runs Φ gl [] bSame_6 (smE s d (ws ++ [x]) .no .no .no) = some (.nx (smE s d ws (.fz x) (.fz x) .no)) := by
  cases x with
  | dict kvs => exact absurd rfl (hd _)
  | tuple kvs => exact absurd rfl (ht _)
  | list kvs => exact absurd rfl (hl _)
  | none => simp [bSame_6, als, mods, alss, modss, alsI, modsI, dbl, isT, cmpV, eqV]
  | bool b => simp [bSame_6, als, mods, alss, modss, alsI, modsI, dbl, isT]
  | int b => simp [bSame_6, als, mods, alss, modss, alsI, modsI, dbl, isT]
  | str b => simp [bSame_6, als, mods, alss, modss, alsI, modsI, dbl, isT]
theorem kOk_of {d : PyData} {kvs : List (PyData × PyData)} (h : sOk d) (e : d = .dict kvs) : keysOk kvs := by subst e; exact h.1
theorem same_step (s d : PyData) (ws : List PyData) (x : PyData) (h : sOk x) (hl : nodesAll ws + nodes x ≤ 1000000) : ∃ ρ2, runs Φ gl [] bSame_6 (smE s d (ws ++ [x]) .no .no .no) = some (.nx ρ2) ∧ wipeP ρ2 [3, 4, 5] = smE s d (ws ++ kids x) .no .no .no := by
  have hn := kids_nodes x
  have l1 := length_nodes ws
  have l2 := length_nodes (kids x)
  have hz : (1000000 : Nat) ≤ sizeLine := by decide
  cases x with
  | dict kvs =>
    have l3 : (kids (.dict kvs)).length = kvs.length + kvs.length := by simp [kids]
    exact same_dict s d ws kvs h.1 (by omega)
  | tuple xs =>
    have l3 : (kids (.tuple xs)).length = xs.length := rfl
    exact ⟨_, same_tup s d ws xs (by omega) (by omega) (by omega), by simp [kids]⟩
  | list xs =>
    have l3 : (kids (.list xs)).length = xs.length := rfl
    exact ⟨_, same_lst s d ws xs (by omega) (by omega) (by omega), by simp [kids]⟩
  | none => exact ⟨_, same_atom s d ws _ rfl nofun nofun nofun, by simp [kids]⟩
  | bool b => exact ⟨_, same_atom s d ws _ rfl nofun nofun nofun, by simp [kids]⟩
  | int b => exact ⟨_, same_atom s d ws _ rfl nofun nofun nofun, by simp [kids]⟩
  | str b => exact ⟨_, same_atom s d ws _ rfl nofun nofun nofun, by simp [kids]⟩
theorem same_loop (s d : PyData) : ∀ (m : Nat) (ws : List PyData) (ρ : PEnv), nodesAll ws < m → nodesAll ws ≤ 1000000 → (∀ x, x ∈ ws → sOk x) → wipeP ρ [3, 4, 5] = smE s d ws .no .no .no → whileE Φ gl [] cSame_5 bSame_6 [3, 4, 5] m ρ = some (.nx (smE s d [] .no .no .no))
  | 0, _, _, h, _, _, _ => absurd h (Nat.not_lt_zero _)
  | m + 1, ws, ρ, h, hl, ho, hw => by
    unfold whileE
    simp only [whileL, hw, same_test, Option.bind_eq_bind, Option.bind_some]
    rcases List.eq_nil_or_concat ws with e | ⟨ini, x, e⟩
    · subst e
      rfl
    · rw [List.concat_eq_append] at e
      subst e
      have hx : (!(ini ++ [x]).isEmpty) = true := by cases ini <;> rfl
      have ha : nodesAll (ini ++ [x]) = nodesAll ini + nodes x := by rw [nodesAll_app]; simp [nodesAll]
      have hk := kids_nodes x
      have hk2 : nodesAll (ini ++ kids x) = nodesAll ini + nodesAll (kids x) := nodesAll_app _ _
      obtain ⟨ρ2, h1, h2⟩ := same_step (Φ := Φ) (gl := gl) s d ini x (ho x (by simp)) (by omega)
      simp only [hx, h1, Option.bind_some]
      refine same_loop s d m (ini ++ kids x) ρ2 (by omega) (by omega) (fun y hy => ?_) h2
      rcases List.mem_append.mp hy with hy | hy
      · exact ho y (by simp [hy])
      · exact kids_ok (ho x (by simp)) y hy
/-- a value is the same as itself -/
theorem same_ok {d : PyData} (h : sOk d) (hn : nodes d < 1000000) : (runs Φ gl [] bSame [.fz d, .fz d, .no, .no, .no, .no, .no, .no]).bind (endOf []) = some (.bool true, []) := by
  have h2 : (2 : Nat) ≤ sizeLine := by decide
  have h1 : (1 : Nat) ≤ sizeLine := by decide
  unfold bSame
  rw [runs_step (ρ1 := smE d d [d] .no .no .no) (by simp [als, alss, mods, modss, h1, h2, dbl])]
  rw [runs_step (ρ1 := smE d d [] .no .no .no) (by rw [run_whil]; exact same_loop d d 1000000 [d] _ (by simpa [nodesAll] using hn) (by simp [nodesAll]; omega) (by simpa using h) (by simp))]
  simp [als, mods]
end
end PP

/-! PP24: comprehensions and walks that draw. -/
namespace PP
open PySem PySem.Spec PyProof.Rows L2
section
variable {Φ : Nat → List PyData → Option (PyData × List PyData)} {gl : List PyData} {ios : List Nat}
theorem compX {vs : List Nat} {g : G} {e : E} (I : PEnv → Prop) (P : PyData → Prop) : ∀ (ds acc : List PyData) (ρ : PEnv), I ρ → (∀ ρ d, I ρ → d ∈ ds → ∃ ρ1 v fl ρ2, asgG g d ρ = some ρ1 ∧ ev Φ gl e ρ1 = some (v, fl, ρ2) ∧ P v ∧ I (wipeP ρ2 vs)) → acc.length + ds.length ≤ sizeLine →
    ∃ out ρ', compE Φ gl vs g (.bl true) e ds acc ρ = some (acc ++ out, ρ') ∧ I ρ' ∧ out.length = ds.length ∧ ∀ v, v ∈ out → P v
  | [], acc, ρ, h, _, _ => ⟨[], ρ, by simp [compE, compL, compL2], h, rfl, nofun⟩
  | d :: ds, acc, ρ, h, hs, hl => by
    obtain ⟨ρ1, v, fl, ρ2, h1, h2, h3, h4⟩ := hs ρ d h (List.mem_cons_self ..)
    obtain ⟨out, ρ', e1, e2, e3, e4⟩ := compX (vs := vs) (g := g) (e := e) I P ds (acc ++ [v]) (wipeP ρ2 vs) h4 (fun ρ d hi hd => hs ρ d hi (List.mem_cons_of_mem _ hd)) (by simp at hl ⊢; omega)
    refine ⟨v :: out, ρ', ?_, e2, by simp [e3], fun x hx => ?_⟩
    · have : acc.length < sizeLine := by simp at hl; omega
      unfold compE compL at e1 ⊢
      simp only [ev_bl] at e1
      simp only [compL2, h1, ev_bl, addV, h2, Option.bind_eq_bind, Option.bind_some, if_pos this]
      rw [e1, List.append_assoc]
      rfl
    · rcases List.mem_cons.mp hx with rfl | hx
      · exact h3
      · exact e4 x hx
/-- a walk under a word that stays, or that ends in a return that is as wanted -/
theorem forE_inv {g : G} {b : Ss} {dead : List Nat} (I : PEnv → Prop) : ∀ (ds : List PyData) (ρ : PEnv), I (wipeP ρ dead) → (∀ ρ d, d ∈ ds → I ρ → ∃ ρ1 ρ2, asgG g d ρ = some ρ1 ∧ runs Φ gl ios b ρ1 = some (.nx ρ2) ∧ I (wipeP ρ2 dead)) → ∃ ρ', forE Φ gl ios g b dead ds ρ = some (.nx ρ') ∧ I ρ' := fun ds ρ h hs => forL_inv I ds ρ h hs
end
theorem map_of {α : Type} (f : α → PyData) (P : α → Prop) : ∀ {xs : List PyData}, (∀ v, v ∈ xs → ∃ a, v = f a ∧ P a) → ∃ as : List α, xs = as.map f ∧ ∀ a, a ∈ as → P a
  | [], _ => ⟨[], rfl, nofun⟩
  | x :: xs, h => by
    obtain ⟨a, rfl, ha⟩ := h x (List.mem_cons_self ..)
    obtain ⟨as, rfl, hs⟩ := map_of f P (xs := xs) fun v hv => h v (List.mem_cons_of_mem _ hv)
    refine ⟨a :: as, rfl, fun b hb => ?_⟩
    rcases List.mem_cons.mp hb with rfl | hb
    · exact ha
    · exact hs b hb
end PP

namespace PP
open PySem PySem.Spec PyProof.Rows L2
/-! PP25: dicts from keys to values, as lists of pairs. -/
class Key (κ : Type) where
  enc : κ → PyData
  dk : κ → DK
  ok : ∀ k, dkey (enc k) = some (dk k)
  inj : ∀ {a b}, dk a = dk b → a = b
  side : ∀ a b, (dk a).isLeft = (dk b).isLeft
  imm : ∀ k, immD (enc k) = true
instance : Key Int := ⟨.int, fun k => .inl (.inl k), fun _ => rfl, fun h => by cases h; rfl, fun _ _ => rfl, fun _ => by simp⟩
instance : Key Str := ⟨.str, fun k => .inl (.inr k), fun _ => rfl, fun h => by cases h; rfl, fun _ _ => rfl, fun _ => by simp⟩
instance : Key (Int × Int) := ⟨fun k => .tuple [.int k.1, .int k.2], fun k => .inr [.inl k.1, .inl k.2], fun _ => rfl, fun {a b} h => by obtain ⟨a1, a2⟩ := a; obtain ⟨b1, b2⟩ := b; cases h; rfl, fun _ _ => rfl, fun _ => by simp⟩
instance : Key (Int × Int × Int) := ⟨fun k => .tuple [.int k.1, .int k.2.1, .int k.2.2], fun k => .inr [.inl k.1, .inl k.2.1, .inl k.2.2], fun _ => rfl, fun {a b} h => by obtain ⟨a1, a2, a3⟩ := a; obtain ⟨b1, b2, b3⟩ := b; cases h; rfl, fun _ _ => rfl, fun _ => by simp⟩
instance : Key (Str × Str) := ⟨fun k => .tuple [.str k.1, .str k.2], fun k => .inr [.inr k.1, .inr k.2], fun _ => rfl, fun {a b} h => by obtain ⟨a1, a2⟩ := a; obtain ⟨b1, b2⟩ := b; cases h; rfl, fun _ _ => rfl, fun _ => by simp⟩
theorem keysD_ints : ∀ l : List Int, keysD (l.map .int) = some (l.map .inl)
  | [] => rfl
  | x :: l => by rw [List.map_cons]; simp [keysD, keyD, keysD_ints l]
instance : Key (List Int) := ⟨fun l => .tuple (l.map .int), fun l => .inr (l.map .inl), fun l => by simp [dkey, keysD_ints], fun {a b} h => by
  have h : a.map (Sum.inl : Int → Sum Int Str) = b.map Sum.inl := Sum.inr.inj h
  exact (List.map_inj_right (fun x y e => Sum.inl.inj e)).mp h, fun _ _ => rfl, fun _ => by simp⟩
section
variable {κ β : Type} [DecidableEq κ]
def putA (xs : List (κ × β)) (k : κ) (v : β) : List (κ × β) := if xs.any fun p => p.1 = k then xs.map fun p => if p.1 = k then (p.1, v) else p else xs ++ [(k, v)]
def getA (xs : List (κ × β)) (k : κ) : Option β := (xs.find? fun p => p.1 = k).map (·.2)
def hasA (xs : List (κ × β)) (k : κ) : Bool := xs.any fun p => p.1 = k
theorem putA_len (xs : List (κ × β)) (k : κ) (v : β) : (putA xs k v).length ≤ xs.length + 1 := by
  unfold putA
  split <;> simp
theorem getA_cons (p : κ × β) (xs : List (κ × β)) (k : κ) : getA (p :: xs) k = if p.1 = k then some p.2 else getA xs k := by
  unfold getA
  by_cases h : p.1 = k
  · simp [h]
  · rw [List.find?_cons_of_neg (by simp [h]), if_neg h]
theorem hasA_get : ∀ (xs : List (κ × β)) (k : κ), hasA xs k = (getA xs k).isSome
  | [], _ => rfl
  | p :: xs, k => by
    rw [getA_cons]
    unfold hasA
    rw [List.any_cons]
    have := hasA_get xs k
    unfold hasA at this
    rw [this]
    by_cases h : p.1 = k <;> simp [h]
theorem getA_app (xs : List (κ × β)) (q : κ × β) (k : κ) : getA (xs ++ [q]) k = (getA xs k).or (if q.1 = k then some q.2 else none) := by
  induction xs with
  | nil => rw [List.nil_append, getA_cons]; rfl
  | cons p xs ih => rw [List.cons_append, getA_cons, getA_cons, ih]; split <;> rfl
theorem getA_map (xs : List (κ × β)) (k : κ) (v : β) (k' : κ) : getA (xs.map fun p => if p.1 = k then (p.1, v) else p) k' = if k' = k then (getA xs k').map fun _ => v else getA xs k' := by
  induction xs with
  | nil => simp [getA]
  | cons p xs ih =>
    rw [List.map_cons, getA_cons, getA_cons, ih]
    by_cases h : p.1 = k
    · by_cases h2 : k' = k
      · subst h2; simp [h]
      · have h3 : ¬ k = k' := fun z => h2 z.symm
        simp [h, h2, h3]
    · by_cases h2 : k' = k
      · subst h2; simp [h]
      · simp [h, h2]
theorem getA_put (xs : List (κ × β)) (k : κ) (v : β) (k' : κ) : getA (putA xs k v) k' = if k' = k then some v else getA xs k' := by
  unfold putA
  have hh := hasA_get xs k
  unfold hasA at hh
  rw [hh]
  by_cases h : (getA xs k).isSome
  · rw [if_pos h, getA_map]
    by_cases h2 : k' = k
    · subst h2
      obtain ⟨w, e⟩ := Option.isSome_iff_exists.mp h
      simp [e]
    · simp [h2]
  · rw [if_neg h, getA_app]
    have : getA xs k = none := by simpa using h
    by_cases h2 : k' = k
    · subst h2; simp [this]
    · have h3 : ¬ k = k' := fun z => h2 z.symm
      simp [h2, h3]
theorem keys_put (xs : List (κ × β)) (k : κ) (v : β) : (putA xs k v).map (·.1) = if hasA xs k then xs.map (·.1) else xs.map (·.1) ++ [k] := by
  unfold putA hasA
  split
  · rw [List.map_map]
    apply List.map_congr_left
    intro p _
    by_cases h : p.1 = k <;> simp [h]
  · simp
theorem hasA_mem {xs : List (κ × β)} {k : κ} : hasA xs k = true ↔ k ∈ xs.map (·.1) := by
  unfold hasA
  simp
theorem nodup_put {xs : List (κ × β)} (k : κ) (v : β) (h : (xs.map (·.1)).Nodup) : ((putA xs k v).map (·.1)).Nodup := by
  rw [keys_put]
  split
  · exact h
  · rename_i hk
    rw [hasA_mem] at hk
    rw [List.nodup_append]
    refine ⟨h, by simp, fun a ha b hb => ?_⟩
    have : b = k := by simpa using hb
    subst this
    exact fun z => hk (z ▸ ha)
theorem putA_putA (xs : List (κ × β)) (k : κ) (v v' : β) : putA (putA xs k v) k v' = putA xs k v' := by
  have h1 : (putA xs k v).any (fun p => p.1 = k) = true := by
    have := hasA_get (putA xs k v) k
    rw [getA_put] at this
    simpa [hasA] using this
  have h2 : putA (putA xs k v) k v' = (putA xs k v).map fun p => if p.1 = k then (p.1, v') else p := by
    conv => lhs; rw [putA, if_pos h1]
  rw [h2]
  unfold putA
  split
  · rw [List.map_map]
    apply List.map_congr_left
    intro p _
    by_cases h : p.1 = k <;> simp [h]
  · rename_i h
    rw [List.map_append]
    have : xs.map (fun p => if p.1 = k then (p.1, v') else p) = xs := by
      conv => rhs; rw [← List.map_id xs]
      apply List.map_congr_left
      intro p hp
      by_cases h2 : p.1 = k
      · exact absurd (List.any_eq_true.mpr ⟨p, hp, by simpa using h2⟩) h
      · simp [h2]
    rw [this]
    simp
theorem getA_mem {xs : List (κ × β)} {k : κ} {v : β} (h : getA xs k = some v) : (k, v) ∈ xs := by
  unfold getA at h
  cases e : xs.find? (fun p => p.1 = k) with
  | none => rw [e] at h; cases h
  | some p =>
    rw [e] at h
    have h1 := List.find?_some e
    have h2 := List.mem_of_find?_eq_some e
    simp at h h1
    subst h; subst h1
    exact h2
theorem getA_of_mem : ∀ {xs : List (κ × β)} {k : κ} {v : β}, (xs.map (·.1)).Nodup → (k, v) ∈ xs → getA xs k = some v
  | p :: xs, k, v, hn, hm => by
    rw [getA_cons]
    rw [List.map_cons, List.nodup_cons] at hn
    rcases List.mem_cons.mp hm with rfl | hm
    · simp
    · have : p.1 ≠ k := fun z => hn.1 (by rw [z]; exact List.mem_map.mpr ⟨_, hm, rfl⟩)
      rw [if_neg this]
      exact getA_of_mem hn.2 hm
end
section
variable {κ β : Type} [DecidableEq κ] [Key κ]
abbrev ek (k : κ) : PyData := Key.enc k
def dA (f : β → PyData) (xs : List (κ × β)) : List (PyData × PyData) := xs.map fun p => (ek p.1, f p.2)
variable (f : β → PyData)
theorem dA_key {a k : κ} : (dkey (ek a) = some (Key.dk k)) ↔ a = k := by
  rw [ek, Key.ok]
  exact ⟨fun h => Key.inj (Option.some.inj h), fun h => by rw [h]⟩
theorem dA_has (xs : List (κ × β)) (k : κ) : dhas (dA f xs) (Key.dk k) = hasA xs k := by
  unfold dhas dA hasA
  rw [List.any_map]
  congr 1
  funext p
  simp only [Function.comp, dA_key]
theorem dA_fits (xs : List (κ × β)) (k : κ) : dfits (dA f xs) (Key.dk k) = true := by
  unfold dfits dA
  rw [List.all_map, List.all_eq_true]
  intro p _
  simp only [Function.comp, ek, Key.ok]
  have := Key.side p.1 k
  cases h1 : Key.dk p.1 <;> cases h2 : Key.dk k <;> simp [h1, h2] at this ⊢
theorem dA_look (k : κ) : ∀ xs : List (κ × β), dlook (dA f xs) (Key.dk k) = (getA xs k).map f
  | [] => rfl
  | p :: xs => by
    have ih := dA_look k xs
    rw [getA_cons]
    unfold dlook dA at ih ⊢
    rw [List.map_cons]
    by_cases h : p.1 = k
    · rw [List.find?_cons_of_pos (by simpa [dA_key] using h)]; simp [h]
    · rw [List.find?_cons_of_neg (by simpa [dA_key] using h), if_neg h]
      exact ih
theorem dA_put (xs : List (κ × β)) (k : κ) (v : β) : dput (dA f xs) (Key.dk k) (ek k) (f v) = dA f (putA xs k v) := by
  unfold dput putA
  rw [dA_has]
  unfold hasA
  split
  · unfold dA
    rw [List.map_map, List.map_map]
    apply List.map_congr_left
    intro p _
    by_cases h : p.1 = k
    · simp [h, dA_key]
    · simp [h, dA_key]
  · simp [dA]
theorem dA_get3 (xs : List (κ × β)) (k : κ) (d : PyData) : v_get [.dict (dA f xs), ek k, d] = some (((getA xs k).map f).getD d, .sh) := by
  simp only [v_get, ek, Key.ok, Option.bind_eq_bind, Option.bind_some, dA_fits, if_true, dA_look]
theorem dA_get2 (xs : List (κ × β)) (k : κ) : v_get [.dict (dA f xs), ek k] = some (((getA xs k).map f).getD .none, .sh) := by
  simp only [v_get, ek, Key.ok, Option.bind_eq_bind, Option.bind_some, dA_fits, if_true, dA_look]
theorem dA_set (xs : List (κ × β)) (k : κ) (v : β) (h : xs.length < sizeLine) : setV (.dict (dA f xs)) (ek k) (f v) = some (.dict (dA f (putA xs k v))) := by
  have hl : (dA f xs).length < sizeLine := by simpa [dA] using h
  simp only [setV, ek, Key.ok, Option.bind_eq_bind, Option.bind_some, dA_fits, hl, decide_true, Bool.and_self, if_true]
  rw [← dA_put]
theorem dA_ix (xs : List (κ × β)) (k : κ) : ixV (.dict (dA f xs)) (ek k) = (getA xs k).map f := by
  show (match dkey (ek k) with | some kk => if dfits (dA f xs) kk then dlook (dA f xs) kk else none | none => none) = _
  rw [ek, Key.ok]
  simp only [dA_fits, if_true, dA_look]
theorem dA_in (xs : List (κ × β)) (k : κ) : inV (ek k) (.dict (dA f xs)) = some (hasA xs k) := by
  have : inV (ek k) (.dict (dA f xs)) = (match dkey (ek k) with | some k => if dfits (dA f xs) k then some (dhas (dA f xs) k) else none | none => none) := by cases ek k <;> rfl
  rw [this, ek, Key.ok]
  simp only [dA_fits, if_true, dA_has]
theorem dA_len (xs : List (κ × β)) : (dA f xs).length = xs.length := by simp [dA]
theorem dA_keys (xs : List (κ × β)) : (dA f xs).map (·.1) = (xs.map (·.1)).map ek := by simp [dA]
/-- dict([..]) of pairs -/
theorem dictOf_A (hs : ∀ k : κ, (Key.dk k).isLeft = true) : ∀ (ps acc : List (κ × β)), ((dA f ps).foldlM (init := dA f acc) fun acc p => (do
  match dkey p.1 with
  | some (.inl k) => some (dput acc (.inl k) p.1 p.2)
  | _ => none : Option (List (PyData × PyData)))) = some (dA f (ps.foldl (fun m p => putA m p.1 p.2) acc))
  | [], acc => rfl
  | p :: ps, acc => by
    obtain ⟨k, e⟩ := Sum.isLeft_iff.mp (hs p.1)
    show ((_ :: dA f ps).foldlM _ _) = _
    rw [List.foldlM_cons]
    simp only [ek, Key.ok, e, Option.bind_eq_bind, Option.bind_some]
    rw [← e, show Key.enc p.1 = ek p.1 from rfl, dA_put]
    exact dictOf_A hs ps _
def mkA (ps : List (κ × β)) : List (κ × β) := ps.foldl (fun m p => putA m p.1 p.2) []
theorem v_dict_A (hs : ∀ k : κ, (Key.dk k).isLeft = true) (ps : List (κ × β)) : v_dict [.list (ps.map fun p => .tuple [ek p.1, f p.2])] = some (.dict (dA f (mkA ps)), .fr) := by
  have := dictOf_A f hs ps []
  simp only [v_dict, pairsD_map, Option.bind_eq_bind, Option.bind_some]
  have h2 : dictOf (ps.map fun x => (ek x.1, f x.2)) = some (dA f (mkA ps)) := this
  rw [h2]; rfl
end
theorem mkA_keys {κ β : Type} [DecidableEq κ] : ∀ (ps acc : List (κ × β)), (acc.map (·.1)).Nodup → ((ps.foldl (fun m p => putA m p.1 p.2) acc).map (·.1)).Nodup
  | [], acc, h => h
  | p :: ps, acc, h => mkA_keys ps _ (nodup_put _ _ h)
theorem mkA_nodup {κ β : Type} [DecidableEq κ] (ps : List (κ × β)) : ((mkA ps).map (·.1)).Nodup := mkA_keys ps [] (by simp)
theorem mkA_mem {κ β : Type} [DecidableEq κ] (k : κ) : ∀ (ps acc : List (κ × β)), k ∈ (ps.foldl (fun m p => putA m p.1 p.2) acc).map (·.1) ↔ k ∈ acc.map (·.1) ∨ k ∈ ps.map (·.1)
  | [], acc => by simp
  | p :: ps, acc => by
    rw [List.foldl_cons, mkA_mem k ps, keys_put, List.map_cons, List.mem_cons]
    by_cases h : hasA acc p.1
    · rw [if_pos h]
      have := hasA_mem.mp h
      constructor
      · rintro (h1 | h1)
        · exact .inl h1
        · exact .inr (.inr h1)
      · rintro (h1 | rfl | h1)
        · exact .inl h1
        · exact .inl this
        · exact .inr h1
    · rw [if_neg h, List.mem_append, List.mem_singleton]
      constructor
      · rintro ((h1 | h1) | h1)
        · exact .inl h1
        · exact .inr (.inl h1)
        · exact .inr (.inr h1)
      · rintro (h1 | h1 | h1)
        · exact .inl (.inl h1)
        · exact .inl (.inr h1)
        · exact .inr h1
abbrev dI {β : Type} (f : β → PyData) (xs : List (Int × β)) : List (PyData × PyData) := dA f xs
abbrev putI {β : Type} (xs : List (Int × β)) (k : Int) (v : β) : List (Int × β) := putA xs k v
abbrev getI {β : Type} (xs : List (Int × β)) (k : Int) : Option β := getA xs k
section
variable {β : Type} (f : β → PyData)
theorem dI_get3 (xs : List (Int × β)) (k : Int) (d : PyData) : v_get [.dict (dI f xs), .int k, d] = some (((getI xs k).map f).getD d, .sh) := dA_get3 f xs k d
theorem dI_get2 (xs : List (Int × β)) (k : Int) : v_get [.dict (dI f xs), .int k] = some (((getI xs k).map f).getD .none, .sh) := dA_get2 f xs k
theorem dI_set (xs : List (Int × β)) (k : Int) (v : β) (h : xs.length < sizeLine) : setV (.dict (dI f xs)) (.int k) (f v) = some (.dict (dI f (putI xs k v))) := dA_set f xs k v h
theorem dI_ix (xs : List (Int × β)) (k : Int) : ixV (.dict (dI f xs)) (.int k) = (getI xs k).map f := dA_ix f xs k
theorem putI_len (xs : List (Int × β)) (k : Int) (v : β) : (putI xs k v).length ≤ xs.length + 1 := putA_len xs k v
end
end PP

namespace PP
open PySem PySem.Spec PyProof.Rows L2
/-! PP26: loops and comprehensions turn by turn. -/
section
variable {Φ : Nat → List PyData → Option (PyData × List PyData)} {gl : List PyData} {ios : List Nat} {g : G} {b : Ss} {dead : List Nat}
def runA (Φ : Nat → List PyData → Option (PyData × List PyData)) (gl : List PyData) (ios : List Nat) (b : Ss) : Option PEnv → Option Out
  | some ρ => runs Φ gl ios b ρ
  | none => none
@[simp] theorem runA_some {ρ : PEnv} : runA Φ gl ios b (some ρ) = runs Φ gl ios b ρ := id rfl
def endT (dead : List Nat) : Option Out → Option Out
  | some (.nx ρ) => some (.nx (wipeP ρ dead))
  | some (.bk ρ) => some (.bk (wipeP ρ dead))
  | o => o
@[simp] theorem endT_nx {ρ : PEnv} : endT dead (some (.nx ρ)) = some (.nx (wipeP ρ dead)) := id rfl
@[simp] theorem endT_bk {ρ : PEnv} : endT dead (some (.bk ρ)) = some (.bk (wipeP ρ dead)) := id rfl
@[simp] theorem endT_rt {d : PyData} {ρ : PEnv} : endT dead (some (.rt d ρ)) = some (.rt d ρ) := id rfl
/-- one turn of a walk -/
def turnE (Φ : Nat → List PyData → Option (PyData × List PyData)) (gl : List PyData) (ios : List Nat) (g : G) (b : Ss) (dead : List Nat) (d : PyData) (ρ : PEnv) : Option Out := endT dead (runA Φ gl ios b (asgG g d ρ))
@[simp] theorem turnE_eq {d : PyData} {ρ : PEnv} : turnE Φ gl ios g b dead d ρ = endT dead (runA Φ gl ios b (asgG g d ρ)) := id rfl
theorem turn_nx {d : PyData} {ρ ρ' : PEnv} (h : turnE Φ gl ios g b dead d ρ = some (.nx ρ')) : ∃ ρ1 ρ2, asgG g d ρ = some ρ1 ∧ runs Φ gl ios b ρ1 = some (.nx ρ2) ∧ wipeP ρ2 dead = ρ' := by
  unfold turnE at h
  cases e : asgG g d ρ with
  | none => rw [e] at h; cases h
  | some ρ1 =>
    rw [e] at h
    cases e2 : runs Φ gl ios b ρ1 with
    | none => simp [e2, endT] at h
    | some o =>
      rw [runA_some, e2] at h
      cases o with
      | nx ρ2 => simp at h; exact ⟨ρ1, ρ2, rfl, e2, h⟩
      | bk ρ2 => simp at h
      | rt d ρ2 => simp at h
theorem turn_rt {d v : PyData} {ρ ρ' : PEnv} (h : turnE Φ gl ios g b dead d ρ = some (.rt v ρ')) : ∃ ρ1, asgG g d ρ = some ρ1 ∧ runs Φ gl ios b ρ1 = some (.rt v ρ') := by
  unfold turnE at h
  cases e : asgG g d ρ with
  | none => rw [e] at h; cases h
  | some ρ1 =>
    rw [e] at h
    cases e2 : runs Φ gl ios b ρ1 with
    | none => simp [e2, endT] at h
    | some o =>
      rw [runA_some, e2] at h
      cases o with
      | nx ρ2 => simp at h
      | bk ρ2 => simp at h
      | rt d ρ2 => simp at h; obtain ⟨rfl, rfl⟩ := h; exact ⟨ρ1, rfl, e2⟩
theorem turn_bk {d : PyData} {ρ ρ' : PEnv} (h : turnE Φ gl ios g b dead d ρ = some (.bk ρ')) : ∃ ρ1 ρ2, asgG g d ρ = some ρ1 ∧ runs Φ gl ios b ρ1 = some (.bk ρ2) ∧ wipeP ρ2 dead = ρ' := by
  unfold turnE at h
  cases e : asgG g d ρ with
  | none => rw [e] at h; cases h
  | some ρ1 =>
    rw [e] at h
    cases e2 : runs Φ gl ios b ρ1 with
    | none => simp [e2, endT] at h
    | some o =>
      rw [runA_some, e2] at h
      cases o with
      | nx ρ2 => simp at h
      | bk ρ2 => simp at h; exact ⟨ρ1, ρ2, rfl, e2, h⟩
      | rt d ρ2 => simp at h
/-- a walk that folds a state, with a word that stays -/
theorem forE_foldW {σ α : Type} (E : σ → PEnv) (enc : α → PyData) (step : σ → α → σ) (I : σ → List α → Prop) (hs : ∀ s x xs, I s (x :: xs) → turnE Φ gl ios g b dead (enc x) (E s) = some (.nx (E (step s x))) ∧ I (step s x) xs) : ∀ (xs : List α) (s : σ) (ρ : PEnv), I s xs → wipeP ρ dead = E s → forE Φ gl ios g b dead (xs.map enc) ρ = some (.nx (E (xs.foldl step s)))
  | [], s, ρ, _, h => by rw [List.map_nil, loop_nil, h]; rfl
  | x :: xs, s, ρ, hi, h => by
    obtain ⟨h1, h2⟩ := hs s x xs hi
    obtain ⟨ρ1, ρ2, e1, e2, e3⟩ := turn_nx h1
    rw [List.map_cons]
    exact loop_cons ρ1 ρ2 (by rw [h]; exact e1) e2 (forE_foldW E enc step I hs xs _ ρ2 h2 e3)
theorem forE_fold {σ α : Type} (E : σ → PEnv) (enc : α → PyData) (step : σ → α → σ) (I : σ → List α → Prop) (xs : List α) (s : σ) (h : wipeP (E s) dead = E s) (hi : I s xs) (hs : ∀ s x xs, I s (x :: xs) → turnE Φ gl ios g b dead (enc x) (E s) = some (.nx (E (step s x))) ∧ I (step s x) xs) : forE Φ gl ios g b dead (xs.map enc) (E s) = some (.nx (E (xs.foldl step s))) := forE_foldW E enc step I hs xs s _ hi h
/-- a walk that looks for something and returns it -/
theorem forE_find {α : Type} (ρ : PEnv) (enc : α → PyData) (p : α → Option PyData) : ∀ (xs : List α), wipeP ρ dead = ρ → (∀ x, x ∈ xs → p x = none → turnE Φ gl ios g b dead (enc x) ρ = some (.nx ρ)) → (∀ x v, x ∈ xs → p x = some v → ∃ ρ', turnE Φ gl ios g b dead (enc x) ρ = some (.rt v ρ')) → ∀ ρ0, wipeP ρ0 dead = ρ → (match xs.findSome? p with | none => forE Φ gl ios g b dead (xs.map enc) ρ0 = some (.nx ρ) | some v => ∃ ρ', forE Φ gl ios g b dead (xs.map enc) ρ0 = some (.rt v ρ'))
  | [], h, _, _, ρ0, h0 => by rw [← h0]; exact loop_nil
  | x :: xs, h, h1, h2, ρ0, h0 => by
    cases e : p x with
    | none =>
      obtain ⟨ρ1, ρ2, e1, e2, e3⟩ := turn_nx (h1 x (List.mem_cons_self ..) e)
      have ih := forE_find ρ enc p xs h (fun y hy => h1 y (List.mem_cons_of_mem _ hy)) (fun y v hy => h2 y v (List.mem_cons_of_mem _ hy)) ρ2 e3
      rw [List.findSome?_cons, e]
      revert ih
      cases xs.findSome? p with
      | none => intro ih; exact loop_cons ρ1 ρ2 (by rw [h0]; exact e1) e2 ih
      | some v =>
        rintro ⟨ρ', ih⟩
        exact ⟨ρ', loop_cons ρ1 ρ2 (by rw [h0]; exact e1) e2 ih⟩
    | some v =>
      obtain ⟨ρ', h3⟩ := h2 x v (List.mem_cons_self ..) e
      obtain ⟨ρ1, e1, e2⟩ := turn_rt h3
      rw [List.findSome?_cons, e]
      exact ⟨ρ', loop_ret ρ1 ρ' (by rw [h0]; exact e1) e2⟩
end
/-! comprehensions -/
section
variable {Φ : Nat → List PyData → Option (PyData × List PyData)} {gl : List PyData} {g : G} {c e : E} {vs : List Nat}
/-- a comprehension: what each item gives, all else as it was -/
theorem compE_pf {α : Type} {ρ : PEnv} (it : α → PyData) (p : α → Bool) (f : α → PyData) (xs : List α) (acc : List PyData) (hl : acc.length + xs.length ≤ sizeLine) (h : ∀ x, x ∈ xs → ∃ ρ1 fl, asgG g (it x) ρ = some ρ1 ∧ ev Φ gl c ρ1 = some (.bool (p x), .sh, ρ1) ∧ (p x = true → ev Φ gl e ρ1 = some (f x, fl, ρ1)) ∧ wipeP ρ1 vs = ρ) :
    compE Φ gl vs g c e (xs.map it) acc ρ = some (acc ++ (xs.filter p).map f, ρ) := by
  unfold compE
  exact compG it p f xs acc (fun x hx => by
    obtain ⟨ρ1, fl, h1, h2, h3, h4⟩ := h x hx
    exact ⟨ρ1, .sh, ρ1, h1, h2, fun _ => h4, fun hp => ⟨fl, ρ1, h3 hp, h4⟩⟩) hl
theorem compE_f {α : Type} {ρ : PEnv} (it : α → PyData) (f : α → PyData) (xs : List α) (acc : List PyData) (hl : acc.length + xs.length ≤ sizeLine) (h : ∀ x, x ∈ xs → ∃ ρ1 fl, asgG g (it x) ρ = some ρ1 ∧ ev Φ gl e ρ1 = some (f x, fl, ρ1) ∧ wipeP ρ1 vs = ρ) :
    compE Φ gl vs g (.bl true) e (xs.map it) acc ρ = some (acc ++ xs.map f, ρ) := by
  rw [compE_pf it (fun _ => true) f xs acc hl (fun x hx => by
    obtain ⟨ρ1, fl, h1, h3, h4⟩ := h x hx
    exact ⟨ρ1, fl, h1, ev_bl, fun _ => h3, h4⟩), List.filter_eq_self.mpr (fun _ _ => rfl)]
/-- two clauses -/
theorem compE2_f {α : Type} {ρ : PEnv} {vs1 : List Nat} {g1 : G} {it1 : I} {c1 : E} (it : α → PyData) (f : α → List PyData) (m : Nat) : ∀ (xs : List α) (acc : List PyData), acc.length + m * xs.length ≤ sizeLine → (∀ x, x ∈ xs → (f x).length ≤ m ∧ ∃ ρ1 ds ρ2, asgG g (it x) ρ = some ρ1 ∧ evi Φ gl it1 ρ1 = some (ds, ρ2) ∧ (∀ acc, acc.length + m ≤ sizeLine → ∃ ρ3, compE Φ gl vs1 g1 c1 e ds acc (wipeP ρ2 vs1) = some (acc ++ f x, ρ3) ∧ wipeP ρ3 vs = ρ)) →
    compE2 Φ gl vs vs1 g (.bl true) g1 it1 c1 e (xs.map it) acc ρ = some (acc ++ (xs.map f).flatten, ρ)
  | [], acc, _, _ => by simp [compE2, compL2]
  | x :: xs, acc, hl, h => by
    obtain ⟨h0, ρ1, ds, ρ2, h1, h2, h3⟩ := h x (List.mem_cons_self ..)
    rw [List.length_cons, Nat.mul_succ] at hl
    obtain ⟨ρ3, h4, h5⟩ := h3 acc (by omega)
    have ih := compE2_f (vs1 := vs1) (g1 := g1) (it1 := it1) (c1 := c1) it f m xs (acc ++ f x) (by rw [List.length_append]; omega) (fun y hy => h y (List.mem_cons_of_mem _ hy))
    unfold compE2 at ih ⊢
    simp only [ev_bl] at ih
    rw [List.map_cons]
    simp only [compL2, h1, ev_bl, h2, h4, Option.bind_eq_bind, Option.bind_some, h5, List.map_cons, List.flatten_cons]
    rw [ih]
    simp
end
/-! numbers of a row -/
theorem ints_map (xs : List Int) : intsD (xs.map .int) = some xs := by
  induction xs with
  | nil => rfl
  | cons x xs ih => simp [intsD, ih]
theorem bools_map (xs : List Bool) : boolsD (xs.map .bool) = some xs := by
  induction xs with
  | nil => rfl
  | cons x xs ih => simp [boolsD, ih]
theorem strs_map (xs : List Str) : strsD (xs.map .str) = some xs := by
  induction xs with
  | nil => rfl
  | cons x xs ih => simp [strsD, ih]
theorem bools_mapF {α : Type} (f : α → Bool) (xs : List α) : boolsD (xs.map fun x => .bool (f x)) = some (xs.map f) := by
  rw [← bools_map, List.map_map]; rfl
theorem ints_mapF {α : Type} (f : α → Int) (xs : List α) : intsD (xs.map fun x => .int (f x)) = some (xs.map f) := by
  rw [← ints_map, List.map_map]; rfl
theorem v_sum_m (xs : List Int) : v_sum [.list (xs.map .int)] = some (.int xs.sum, .sh) := by simp [v_sum, ints_map]
theorem v_sum_t (xs : List Int) : v_sum [.tuple (xs.map .int)] = some (.int xs.sum, .sh) := by simp [v_sum, ints_map]
theorem v_all_m {α : Type} (f : α → Bool) (xs : List α) : v_all [.list (xs.map fun x => .bool (f x))] = some (.bool (xs.all f), .sh) := by
  simp only [v_all, bools_mapF, Option.map_some]
  rw [List.all_map]; rfl
theorem v_any_m {α : Type} (f : α → Bool) (xs : List α) : v_any [.list (xs.map fun x => .bool (f x))] = some (.bool (xs.any f), .sh) := by
  simp only [v_any, bools_mapF, Option.map_some]
  rw [List.any_map]; rfl
end PP

namespace PP
open PySem PySem.Spec PyProof.Rows L2
/-! PP27: rows of numbers, each once; ranges; sets of numbers. -/
def rangeI (i : Int) (m : Nat) : List Int := (List.range m).map fun j => i + (j : Nat)
theorem iidx_eq (i : Int) (m : Nat) : iidx i m = (rangeI i m).map .int := by unfold iidx rangeI; rw [List.map_map]; rfl
@[simp] theorem rangeI_len (i : Int) (m : Nat) : (rangeI i m).length = m := by simp [rangeI]
theorem mem_rangeI {i q : Int} {m : Nat} : q ∈ rangeI i m ↔ i ≤ q ∧ q < i + m := by
  unfold rangeI
  simp only [List.mem_map, List.mem_range]
  constructor
  · rintro ⟨j, hj, rfl⟩; omega
  · rintro ⟨h1, h2⟩; exact ⟨(q - i).toNat, by omega, by omega⟩
theorem rangeI_s {i : Int} {m : Nat} : rangeI i (m + 1) = i :: rangeI (i + 1) m := by
  unfold rangeI
  rw [List.range_succ_eq_map, List.map_cons, List.map_map]
  congr 1
  · simp
  · apply List.map_congr_left; intro j _; simp; omega
theorem rangeI_nodup (i : Int) (m : Nat) : (rangeI i m).Nodup := by
  unfold rangeI
  exact List.Pairwise.map _ (fun (a b : Nat) (h : a ≠ b) => by omega) List.nodup_range
theorem dedupI_go : ∀ (ns acc : List Int), acc.Nodup → (ns.foldl (fun acc x => if acc.any (· == x) then acc else acc ++ [x]) acc).Nodup ∧ ∀ q, q ∈ ns.foldl (fun acc x => if acc.any (· == x) then acc else acc ++ [x]) acc ↔ q ∈ acc ∨ q ∈ ns
  | [], acc, h => ⟨h, by simp⟩
  | x :: ns, acc, h => by
    rw [List.foldl_cons]
    by_cases hx : acc.any (· == x) = true
    · rw [if_pos hx]
      obtain ⟨h1, h2⟩ := dedupI_go ns acc h
      refine ⟨h1, fun q => ?_⟩
      have : x ∈ acc := by simpa using hx
      rw [h2, List.mem_cons]
      constructor
      · rintro (h | h) <;> simp [h]
      · rintro (h | rfl | h)
        · exact .inl h
        · exact .inl this
        · exact .inr h
    · rw [if_neg hx]
      have hx2 : x ∉ acc := by simpa using hx
      obtain ⟨h1, h2⟩ := dedupI_go ns (acc ++ [x]) (by
        rw [List.nodup_append]
        refine ⟨h, by simp, fun a ha b hb => ?_⟩
        have : b = x := by simpa using hb
        subst this
        exact fun z => hx2 (z ▸ ha))
      refine ⟨h1, fun q => ?_⟩
      rw [h2, List.mem_append, List.mem_singleton, List.mem_cons, or_assoc]
theorem dedupI_nodup (ns : List Int) : (dedupI ns).Nodup := (dedupI_go ns [] (by simp)).1
theorem dedupI_mem (ns : List Int) (q : Int) : q ∈ dedupI ns ↔ q ∈ ns := by
  have := (dedupI_go ns [] (by simp)).2 q
  simpa [dedupI] using this
theorem len_of_mem {α : Type} [DecidableEq α] {xs ys : List α} (h1 : xs.Nodup) (h2 : ys.Nodup) (h : ∀ q, q ∈ xs ↔ q ∈ ys) : xs.length = ys.length :=
  ((List.perm_ext_iff_of_nodup h1 h2).mpr h).length_eq
theorem v_lenSet_m (ns : List Int) (h : ns.length ≤ 4000) : v_lenSet [.list (ns.map .int)] = some (.int (dedupI ns).length, .sh) := by
  simp [v_lenSet, ints_map, h]
theorem atI_map {α β : Type} (f : α → β) (xs : List α) (i : Int) : atI (xs.map f) i = (atI xs i).map f := by
  unfold atI
  rw [List.length_map]
  cases ixN xs.length i <;> simp
end PP

namespace PP
open PySem PySem.Spec PyProof.Rows L2
/-! PP28: the order of data: least, greatest, sorted. -/
open PySem.W
mutual
theorem alike_eqv : ∀ x y : PyData, alike x y = true → PyData.eqv x y = true → x = y
  | .none, y, h, e => by cases y <;> simp [alike] at h ⊢
  | .bool a, y, h, e => by cases y <;> simp [alike] at h; simp at e; rw [e]
  | .int a, y, h, e => by cases y <;> simp [alike] at h; simp at e; rw [e]
  | .str a, y, h, e => by cases y <;> simp [alike] at h; simp at e; rw [e]
  | .list xs, y, h, e => by
    cases y <;> simp [alike] at h
    rename_i ys
    rw [alikeAll_eqv xs ys h (by simpa using e)]
  | .tuple xs, y, h, e => by
    cases y <;> simp [alike] at h
    rename_i ys
    rw [alikeAll_eqv xs ys h (by simpa using e)]
  | .dict _, y, h, e => by cases y <;> simp [alike] at h
theorem alikeAll_eqv : ∀ xs ys : List PyData, alikeAll xs ys = true → PyData.eqvAll xs ys = true → xs = ys
  | [], [], _, _ => rfl
  | [], y :: ys, _, e => by simp at e
  | x :: xs, [], _, e => by simp at e
  | x :: xs, y :: ys, h, e => by
    obtain ⟨h1, h2⟩ := alike_all_cons h
    simp at e
    rw [alike_eqv x y h1 e.1, alikeAll_eqv xs ys h2 e.2]
end
theorem toks_inj {x y : PyData} (h : alike x y = true) (e : keyToks x = keyToks y) : x = y := by
  cases he : PyData.eqv x y with
  | true => exact alike_eqv x y h he
  | false =>
    have := (toks_eqv x y h).2 he [] [.inl 0]
    rw [e, lex_pre, lex_irrefl] at this
    cases this
theorem dlt_irrefl (x : PyData) : dataLt x x = false := lex_irrefl _
theorem dlt_trans {x y z : PyData} (h1 : dataLt x y = true) (h2 : dataLt y z = true) : dataLt x z = true := lex_trans _ _ _ h1 h2
theorem dlt_neg {x y z : PyData} (h1 : dataLt x y = false) (h2 : dataLt y z = false) : dataLt x z = false := by
  cases h : dataLt x z with
  | false => rfl
  | true => rcases lex_negTrans (O := itemOrd) (keyToks x) (keyToks y) (keyToks z) h with h3 | h3
            · unfold dataLt at h1; rw [h1] at h3; cases h3
            · unfold dataLt at h2; rw [h2] at h3; cases h3
theorem dlt_asymm {x y : PyData} (h : dataLt x y = true) : dataLt y x = false := by
  cases h2 : dataLt y x with
  | false => rfl
  | true => have := dlt_trans h h2; rw [dlt_irrefl] at this; cases this
theorem dlt_total {x y : PyData} (ha : alike x y = true) (h1 : dataLt x y = false) (h2 : dataLt y x = false) : x = y := toks_inj ha (lex_total _ _ h1 h2)
theorem leD_trans (a b c : PyData) (h1 : leD a b = true) (h2 : leD b c = true) : leD a c = true := by
  simp [leD] at h1 h2 ⊢
  exact dlt_neg h2 h1
theorem leD_total (a b : PyData) : (leD a b || leD b a) = true := by
  simp only [leD]
  cases h : dataLt b a with
  | false => rfl
  | true => rw [dlt_asymm h]; rfl
/-- all alike -/
def Alk (xs : List PyData) : Prop := ∀ x y, x ∈ xs → y ∈ xs → alike x y = true
theorem alk_all {xs : List PyData} : alikeAllD xs = true ↔ Alk xs := by
  unfold alikeAllD Alk
  simp only [List.all_eq_true]
  exact ⟨fun h x y hx hy => h x hx y hy, fun h x hx y hy => h x y hx hy⟩
theorem Alk.sub {xs ys : List PyData} (h : Alk xs) (hs : ∀ y, y ∈ ys → y ∈ xs) : Alk ys := fun x y hx hy => h x y (hs x hx) (hs y hy)
theorem Alk.map {α : Type} (f : α → PyData) (xs : List α) (h : ∀ a b, alike (f a) (f b) = true) : Alk (xs.map f) := by
  intro x y hx hy
  obtain ⟨a, _, rfl⟩ := List.mem_map.mp hx
  obtain ⟨b, _, rfl⟩ := List.mem_map.mp hy
  exact h a b
theorem sortD_perm (xs : List PyData) : (sortD xs).Perm xs := List.mergeSort_perm xs leD
theorem sortD_pw (xs : List PyData) : (sortD xs).Pairwise (fun a b => leD a b = true) := List.pairwise_mergeSort leD_trans leD_total xs
theorem mem_sortD {xs : List PyData} {x : PyData} : x ∈ sortD xs ↔ x ∈ xs := (sortD_perm xs).mem_iff
/-- the sorted row is the one that is sorted and has the same items -/
theorem sortD_eq {xs ys : List PyData} (ha : Alk xs) (p : xs.Perm ys) (hs : ys.Pairwise (fun a b => leD a b = true)) : sortD xs = ys := by
  refine List.Perm.eq_of_pairwise (le := fun a b => leD a b = true) (fun a b h1 h2 l1 l2 => ?_) (sortD_pw xs) hs ((sortD_perm xs).trans p)
  simp [leD] at l1 l2
  exact dlt_total (ha a b (mem_sortD.mp h1) (p.mem_iff.mpr h2)) l2 l1
theorem sortD_congr {xs ys : List PyData} (ha : Alk xs) (p : xs.Perm ys) : sortD xs = sortD ys := sortD_eq ha (p.trans (sortD_perm ys).symm) (sortD_pw ys)
theorem minD_go : ∀ (xs : List PyData) (x : PyData), (minD x xs = x ∨ minD x xs ∈ xs) ∧ dataLt x (minD x xs) = false ∧ ∀ y, y ∈ xs → dataLt y (minD x xs) = false
  | [], x => ⟨.inl rfl, dlt_irrefl _, nofun⟩
  | y :: xs, x => by
    have e : minD x (y :: xs) = minD (if dataLt y x then y else x) xs := rfl
    rw [e]
    cases h : dataLt y x with
    | true =>
      obtain ⟨h1, h2, h3⟩ := minD_go xs y
      rw [if_pos rfl]
      refine ⟨.inr ?_, dlt_neg (dlt_asymm h) h2, fun z hz => ?_⟩
      · rcases h1 with h1 | h1
        · rw [h1]; exact List.mem_cons_self ..
        · exact List.mem_cons_of_mem _ h1
      · rcases List.mem_cons.mp hz with rfl | hz
        · exact h2
        · exact h3 z hz
    | false =>
      obtain ⟨h1, h2, h3⟩ := minD_go xs x
      rw [if_neg (by simp)]
      refine ⟨?_, h2, fun z hz => ?_⟩
      · rcases h1 with h1 | h1
        · exact .inl h1
        · exact .inr (List.mem_cons_of_mem _ h1)
      · rcases List.mem_cons.mp hz with rfl | hz
        · exact dlt_neg h h2
        · exact h3 z hz
theorem maxD_go : ∀ (xs : List PyData) (x : PyData), (maxD x xs = x ∨ maxD x xs ∈ xs) ∧ dataLt (maxD x xs) x = false ∧ ∀ y, y ∈ xs → dataLt (maxD x xs) y = false
  | [], x => ⟨.inl rfl, dlt_irrefl _, nofun⟩
  | y :: xs, x => by
    have e : maxD x (y :: xs) = maxD (if dataLt x y then y else x) xs := rfl
    rw [e]
    cases h : dataLt x y with
    | true =>
      obtain ⟨h1, h2, h3⟩ := maxD_go xs y
      rw [if_pos rfl]
      refine ⟨.inr ?_, dlt_neg h2 (dlt_asymm h), fun z hz => ?_⟩
      · rcases h1 with h1 | h1
        · rw [h1]; exact List.mem_cons_self ..
        · exact List.mem_cons_of_mem _ h1
      · rcases List.mem_cons.mp hz with rfl | hz
        · exact h2
        · exact h3 z hz
    | false =>
      obtain ⟨h1, h2, h3⟩ := maxD_go xs x
      rw [if_neg (by simp)]
      refine ⟨?_, h2, fun z hz => ?_⟩
      · rcases h1 with h1 | h1
        · exact .inl h1
        · exact .inr (List.mem_cons_of_mem _ h1)
      · rcases List.mem_cons.mp hz with rfl | hz
        · exact dlt_neg h2 h
        · exact h3 z hz
theorem minD_mem (x : PyData) (xs : List PyData) : minD x xs ∈ x :: xs := by
  rcases (minD_go xs x).1 with h | h
  · rw [h]; exact List.mem_cons_self ..
  · exact List.mem_cons_of_mem _ h
theorem minD_le (x : PyData) (xs : List PyData) : ∀ y, y ∈ x :: xs → dataLt y (minD x xs) = false := fun y hy => by
  rcases List.mem_cons.mp hy with rfl | hy
  · exact (minD_go xs y).2.1
  · exact (minD_go xs x).2.2 y hy
theorem maxD_mem (x : PyData) (xs : List PyData) : maxD x xs ∈ x :: xs := by
  rcases (maxD_go xs x).1 with h | h
  · rw [h]; exact List.mem_cons_self ..
  · exact List.mem_cons_of_mem _ h
theorem maxD_ge (x : PyData) (xs : List PyData) : ∀ y, y ∈ x :: xs → dataLt (maxD x xs) y = false := fun y hy => by
  rcases List.mem_cons.mp hy with rfl | hy
  · exact (maxD_go xs y).2.1
  · exact (maxD_go xs x).2.2 y hy
/-- the least is the one that is there and that none is below -/
theorem minD_eq {x m : PyData} {xs : List PyData} (ha : Alk (x :: xs)) (hm : m ∈ x :: xs) (hl : ∀ y, y ∈ x :: xs → dataLt y m = false) : minD x xs = m :=
  dlt_total (ha _ _ (minD_mem x xs) hm) (hl _ (minD_mem x xs)) (minD_le x xs m hm)
theorem maxD_eq {x m : PyData} {xs : List PyData} (ha : Alk (x :: xs)) (hm : m ∈ x :: xs) (hl : ∀ y, y ∈ x :: xs → dataLt m y = false) : maxD x xs = m :=
  dlt_total (ha _ _ (maxD_mem x xs) hm) (maxD_ge x xs m hm) (hl _ (maxD_mem x xs))
theorem minD_congr {x y : PyData} {xs ys : List PyData} (ha : Alk (x :: xs)) (h : ∀ z, z ∈ x :: xs ↔ z ∈ y :: ys) : minD x xs = minD y ys :=
  minD_eq ha ((h _).mpr (minD_mem y ys)) fun z hz => minD_le y ys z ((h z).mp hz)
/-! rows of numbers, texts -/
@[simp] theorem dlt_int (x y : Int) : dataLt (.int x) (.int y) = decide (x < y) := dataLt_int x y
theorem alk_ints (xs : List Int) : Alk (xs.map .int) := Alk.map _ _ fun _ _ => rfl
theorem alk_strs (xs : List Str) : Alk (xs.map .str) := Alk.map _ _ fun _ _ => rfl
theorem okN_ints (n : Nat) (xs : List Int) : (xs.map PyData.int).all (okN n) = true := by simp
theorem okN_strs (n : Nat) (xs : List Str) : (xs.map PyData.str).all (okN n) = true := by simp
/-- may be sorted: tuples that are not empty, or no tuples and not None -/
def isT1 : PyData → Bool
  | .tuple (_ :: _) => true
  | _ => false
def isO1 : PyData → Bool
  | .none => false
  | .tuple _ => false
  | _ => true
theorem sortOk_eq (xs : List PyData) : sortOk xs = (alikeAllD xs && okD (.list xs) && (xs.all isT1 || xs.all isO1) && decide (xs.length ≤ sizeLine)) := by
  have h1 : isT1 = (fun x => match x with | .tuple (_ :: _) => true | _ => false) := by funext x; cases x <;> first | rfl | (rename_i l; cases l <;> rfl)
  have h2 : isO1 = (fun x => match x with | .none => false | .tuple _ => false | _ => true) := by funext x; cases x <;> rfl
  rw [h1, h2]; rfl
theorem sortOk_T {xs : List PyData} (h1 : Alk xs) (h2 : xs.all (okN 39) = true) (h3 : xs.all isT1 = true) (h4 : xs.length ≤ sizeLine) : sortOk xs = true := by
  rw [sortOk_eq, alk_all.mpr h1, okD_list, h2, h3]
  simpa using h4
theorem sortOk_O {xs : List PyData} (h1 : Alk xs) (h2 : xs.all (okN 39) = true) (h3 : xs.all isO1 = true) (h4 : xs.length ≤ sizeLine) : sortOk xs = true := by
  rw [sortOk_eq, alk_all.mpr h1, okD_list, h2, h3]
  simpa using h4
theorem sortOk_ints {xs : List Int} (h : xs.length ≤ sizeLine) : sortOk (xs.map .int) = true := sortOk_O (alk_ints xs) (okN_ints 39 xs) (by simp [isO1]) (by simpa using h)
theorem sortOk_strs {xs : List Str} (h : xs.length ≤ sizeLine) : sortOk (xs.map .str) = true := sortOk_O (alk_strs xs) (okN_strs 39 xs) (by simp [isO1]) (by simpa using h)
def maxI (x : Int) (xs : List Int) : Int := xs.foldl max x
def minI (x : Int) (xs : List Int) : Int := xs.foldl min x
theorem max_ints {x : Int} {xs : List Int} (h : xs.length + 1 ≤ sizeLine) : mmV false [.list (.int x :: xs.map .int)] = some (.int (maxI x xs), .sh) := by
  have := sortOk_ints (xs := x :: xs) (by simpa using h)
  rw [List.map_cons] at this
  simp only [mmV, this, if_true]
  rw [maxD_ints]; rfl
theorem min_ints {x : Int} {xs : List Int} (h : xs.length + 1 ≤ sizeLine) : mmV true [.list (.int x :: xs.map .int)] = some (.int (minI x xs), .sh) := by
  have := sortOk_ints (xs := x :: xs) (by simpa using h)
  rw [List.map_cons] at this
  simp only [mmV, this, if_true]
  rw [minD_ints]; rfl
theorem maxI_spec (x : Int) (xs : List Int) : x ≤ maxI x xs ∧ (∀ y, y ∈ xs → y ≤ maxI x xs) ∧ (maxI x xs = x ∨ maxI x xs ∈ xs) := by
  induction xs generalizing x with
  | nil => simp [maxI]
  | cons y ys ih =>
    have e : maxI x (y :: ys) = maxI (max x y) ys := rfl
    obtain ⟨h1, h2, h3⟩ := ih (max x y)
    rw [e]
    refine ⟨by omega, fun z hz => ?_, ?_⟩
    · rcases List.mem_cons.mp hz with rfl | hz
      · omega
      · exact h2 z hz
    · rcases h3 with h3 | h3
      · rcases Int.le_total x y with h | h
        · right; rw [h3, Int.max_eq_right h]; exact List.mem_cons_self ..
        · left; rw [h3, Int.max_eq_left h]
      · exact .inr (List.mem_cons_of_mem _ h3)
theorem minI_spec (x : Int) (xs : List Int) : minI x xs ≤ x ∧ (∀ y, y ∈ xs → minI x xs ≤ y) ∧ (minI x xs = x ∨ minI x xs ∈ xs) := by
  induction xs generalizing x with
  | nil => simp [minI]
  | cons y ys ih =>
    have e : minI x (y :: ys) = minI (min x y) ys := rfl
    obtain ⟨h1, h2, h3⟩ := ih (min x y)
    rw [e]
    refine ⟨by omega, fun z hz => ?_, ?_⟩
    · rcases List.mem_cons.mp hz with rfl | hz
      · omega
      · exact h2 z hz
    · rcases h3 with h3 | h3
      · rcases Int.le_total x y with h | h
        · left; rw [h3, Int.min_eq_left h]
        · right; rw [h3, Int.min_eq_right h]; exact List.mem_cons_self ..
      · exact .inr (List.mem_cons_of_mem _ h3)
end PP

namespace PP
open PySem PySem.Spec PyProof.Rows L2
/-! PP29: walks by number; what the laws draw. -/
section
variable {Φ : Nat → List PyData → Option (PyData × List PyData)} {gl : List PyData} {ios : List Nat} {g : G} {b : Ss} {dead : List Nat}
/-- a walk that folds a state; each item is one of the row, the number of those to come is told -/
theorem forE_foldN {σ α : Type} (E : σ → PEnv) (enc : α → PyData) (step : σ → α → σ) (I : σ → Nat → Prop) (xs : List α) (s : σ) (ρ : PEnv) (h : wipeP ρ dead = E s) (hi : I s xs.length) (hs : ∀ s x n, x ∈ xs → I s (n + 1) → turnE Φ gl ios g b dead (enc x) (E s) = some (.nx (E (step s x))) ∧ I (step s x) n) : forE Φ gl ios g b dead (xs.map enc) ρ = some (.nx (E (xs.foldl step s))) :=
  forE_foldW E enc step (fun s l => (∀ x, x ∈ l → x ∈ xs) ∧ I s l.length) (fun s x l ⟨h1, h2⟩ => by
    obtain ⟨h3, h4⟩ := hs s x l.length (h1 x (List.mem_cons_self ..)) (by simpa using h2)
    exact ⟨h3, fun y hy => h1 y (List.mem_cons_of_mem _ hy), h4⟩) xs s ρ ⟨fun _ h => h, hi⟩ h
/-- for k in range(len(xs)) -/
theorem forE_idx {σ α : Type} (E : σ → PEnv) (step : σ → α → Nat → σ) (I : σ → Nat → Prop) (xs : List α) (s : σ) (ρ : PEnv) (h : wipeP ρ dead = E s) (hi : I s xs.length) (hs : ∀ s x k n, xs[k]? = some x → I s (n + 1) → turnE Φ gl ios g b dead (.int (k : Nat)) (E s) = some (.nx (E (step s x k))) ∧ I (step s x k) n) : forE Φ gl ios g b dead (iidx 0 xs.length) ρ = some (.nx (E (xs.zipIdx.foldl (fun s p => step s p.1 p.2) s))) := by
  rw [iidx_zip xs 0]
  refine forE_foldN E (fun p : α × Nat => PyData.int (0 + (p.2 : Nat))) (fun s p => step s p.1 p.2) I xs.zipIdx s ρ h (by simpa using hi) fun s p n hp hn => ?_
  have := hs s p.1 p.2 n (zipIdx_get hp) hn
  simpa using this
end
theorem zipIdx_foldl {σ α : Type} (step : σ → α → σ) : ∀ (xs : List α) (k : Nat) (s : σ), (xs.zipIdx k).foldl (fun s p => step s p.1) s = xs.foldl step s
  | [], _, _ => rfl
  | x :: xs, k, s => by rw [List.zipIdx_cons, List.foldl_cons, zipIdx_foldl step xs]; rfl
/-! the law's state: draws, how many are taken, and counts -/
def kDraws : Str := Str.ofString "draws"
def kAt : Str := Str.ofString "at"
def wKvs (ms : List Int) (cs : List (Str × Int)) (k : Int) : List (PyData × PyData) := (.str kDraws, .list (ms.map .int)) :: (.str kAt, .int k) :: cs.map fun c => (.str c.1, .int c.2)
def wSt (ms : List Int) (cs : List (Str × Int)) (k : Int) : PyData := .dict (wKvs ms cs k)
theorem w_fits (ms cs k) (x : Str) : dfits (wKvs ms cs k) (.inl (.inr x)) = true := by
  simp [dfits, wKvs, dkey, keyD]
theorem w_at (ms cs k) : ixV (.dict (wKvs ms cs k)) (.str kAt) = some (.int k) := by
  show (if dfits (wKvs ms cs k) (.inl (.inr kAt)) then dlook (wKvs ms cs k) (.inl (.inr kAt)) else none) = _
  rw [w_fits]; rfl
theorem w_draws (ms cs k) : ixV (.dict (wKvs ms cs k)) (.str kDraws) = some (.list (ms.map .int)) := by
  show (if dfits (wKvs ms cs k) (.inl (.inr kDraws)) then dlook (wKvs ms cs k) (.inl (.inr kDraws)) else none) = _
  rw [w_fits]; rfl
/-- what a state's counts are called: not draws, not at -/
def csOk (cs : List (Str × Int)) : Prop := cs.length ≤ 20 ∧ ∀ c, c ∈ cs → c.1 ≠ kAt ∧ c.1 ≠ kDraws
theorem w_set (ms cs k v) (h : csOk cs) : setV (.dict (wKvs ms cs k)) (.str kAt) (.int v) = some (.dict (wKvs ms cs v)) := by
  have hl : (wKvs ms cs k).length < sizeLine := by
    have : (1000 : Nat) < sizeLine := by decide
    have := h.1
    simp [wKvs]; omega
  have hh : dhas (wKvs ms cs k) (.inl (.inr kAt)) = true := by simp [dhas, wKvs, dkey, keyD]
  have hp : dput (wKvs ms cs k) (.inl (.inr kAt)) (.str kAt) (.int v) = wKvs ms cs v := by
    unfold dput
    rw [if_pos hh]
    unfold wKvs
    rw [List.map_cons, List.map_cons, List.map_map]
    have h1 : ¬ dkey (.str kDraws) = some (.inl (.inr kAt)) := by decide
    have h2 : dkey (.str kAt) = some (.inl (.inr kAt)) := rfl
    rw [if_neg h1, if_pos h2]
    congr 2
    apply List.map_congr_left
    intro c hc
    have h3 : ¬ dkey (.str c.1) = some (.inl (.inr kAt)) := by
      intro z
      have : c.1 = kAt := by simpa [dkey, keyD] using z
      exact (h.2 c hc).1 this
    simp only [Function.comp, if_neg h3]
  show (if dfits (wKvs ms cs k) (.inl (.inr kAt)) && decide ((wKvs ms cs k).length < sizeLine) then some (PyData.dict (dput (wKvs ms cs k) (.inl (.inr kAt)) (.str kAt) (.int v))) else none) = _
  rw [w_fits, hp]
  simp [hl]
def bNext : Ss :=
 .cons (.augIx 0 (.str (Str.ofString "at")) .Add (.int 1))
 (.cons (.ifs (.cmp .Gt (.ix (.var 0) (.str (Str.ofString "at"))) (.bi .len (.cons (.ix (.var 0) (.str (Str.ofString "draws"))) (.nil)))) (.cons (.ret (.int 0))
 (.nil)) (.nil))
 (.cons (.ret (.bin .Mod (.bi .int (.cons (.ix (.ix (.var 0) (.str (Str.ofString "draws"))) (.bin .Sub (.ix (.var 0) (.str (Str.ofString "at"))) (.int 1))) (.nil))) (.var 1)))
 (.nil)))
def bPick (f : Nat) : Ss :=
 .cons (.ret (.ix (.var 1) (.call f (.cons (.io 0) (.cons (.bi .len (.cons (.var 1) (.nil))) (.nil))))))
 (.nil)
section
variable {Φ : Nat → List PyData → Option (PyData × List PyData)} {gl : List PyData}
theorem nextR_aug {ios : List Nat} (ms : List Int) (cs : List (Str × Int)) (hc : csOk cs) (k : Int) (x : Sl) : PP.run Φ gl ios (.augIx 0 (.str kAt) .Add (.int 1)) [.ow (wSt ms cs k), x] = some (.nx [.ow (wSt ms cs (k + 1)), x]) := by
  simp [PP.run, wSt, als, mods, dkey, keyD, w_at, w_set _ _ _ _ hc]
theorem nextR (ms : List Int) (cs : List (Str × Int)) (hc : csOk cs) (hm : ∀ z, z ∈ ms → 0 ≤ z) (k : Int) (hk : 0 ≤ k) (many : Int) (h0 : 0 < many) : ∃ v, 0 ≤ v ∧ v < many ∧ (runs Φ gl [0] bNext [.ow (wSt ms cs k), .fz (.int many)]).bind (endOf [0]) = some (.int v, [wSt ms cs (k + 1)]) := by
  unfold bNext
  have e1 : (Str.ofString "at") = kAt := rfl
  have e2 : (Str.ofString "draws") = kDraws := rfl
  simp only [e1, e2]
  rw [runs_step (ρ1 := [.ow (wSt ms cs (k + 1)), .fz (.int many)]) (nextR_aug ms cs hc k _)]
  by_cases hlt : (ms.length : Int) < k + 1
  · refine ⟨0, by omega, h0, ?_⟩
    simp [als, mods, alss, modss, wSt, w_at, w_draws, hlt, outsOf]
  · have hz := hm _ (List.getElem_mem (l := ms) (n := k.toNat) (by omega))
    refine ⟨ms[k.toNat]'(by omega) % many, Int.emod_nonneg _ (by omega), Int.emod_lt_of_pos _ h0, ?_⟩
    have ha2 : atI (ms.map PyData.int) k = some (.int (ms[k.toNat]'(by omega))) := by
      rw [atI_lt hk (by rw [List.length_map]; omega)]
      simp
    simp [als, mods, alss, modss, wSt, w_at, w_draws, hlt, outsOf, ha2, h0]
theorem pickR {f : Nat} (w w' : PyData) (rows : List PyData) (v : Int) (v0 : 0 ≤ v) (v1 : v < rows.length) (e : Φ f [w, .int rows.length] = some (.int v, [w'])) (d : PyData) (hd : d = .list rows ∨ d = .tuple rows) : ∃ x, x ∈ rows ∧ (runs Φ gl [0] (bPick f) [.ow w, .fz d]).bind (endOf [0]) = some (x, [w']) := by
  have ha := atI_lt v0 v1
  refine ⟨rows[v.toNat]'(by omega), List.getElem_mem _, ?_⟩
  unfold bPick
  rcases hd with rfl | rfl <;> simp [als, mods, alss, modss, e, ha, outsOf]
end
/-- tuples of texts, of numbers -/
@[simp] theorem alikeAll_strs : ∀ xs ys : List Str, PySem.W.alikeAll (xs.map .str) (ys.map .str) = true
  | [], ys => by simp [PySem.W.alikeAll]
  | x :: xs, [] => by simp [PySem.W.alikeAll]
  | x :: xs, y :: ys => by simp [PySem.W.alikeAll, PySem.W.alike, alikeAll_strs xs ys]
@[simp] theorem alikeAll_ints : ∀ xs ys : List Int, PySem.W.alikeAll (xs.map .int) (ys.map .int) = true
  | [], ys => by simp [PySem.W.alikeAll]
  | x :: xs, [] => by simp [PySem.W.alikeAll]
  | x :: xs, y :: ys => by simp [PySem.W.alikeAll, PySem.W.alike, alikeAll_ints xs ys]
theorem sOkAll_map {α : Type} (f : α → PyData) (xs : List α) (h : ∀ x, x ∈ xs → sOk (f x)) : sOkAll (xs.map f) := by
  rw [sOkAll_iff]
  intro d hd
  obtain ⟨x, hx, rfl⟩ := List.mem_map.mp hd
  exact h x hx
@[simp] theorem sOk_int (i) : sOk (.int i) := by simp [sOk]
@[simp] theorem sOk_str (i) : sOk (.str i) := by simp [sOk]
@[simp] theorem sOk_bool (i) : sOk (.bool i) := by simp [sOk]
@[simp] theorem sOk_none : sOk .none := by simp [sOk]
@[simp] theorem sOk_tup (xs) : sOk (.tuple xs) ↔ sOkAll xs := by simp [sOk]
@[simp] theorem sOk_lst (xs) : sOk (.list xs) ↔ sOkAll xs := by simp [sOk]
@[simp] theorem sOkAll_nil : sOkAll [] := by simp [sOkAll]
@[simp] theorem sOkAll_cons (x xs) : sOkAll (x :: xs) ↔ sOk x ∧ sOkAll xs := by simp [sOkAll]
@[simp] theorem sOkAll_ints (xs : List Int) : sOkAll (xs.map .int) := sOkAll_map _ _ fun _ _ => sOk_int _
@[simp] theorem sOkAll_strs (xs : List Str) : sOkAll (xs.map .str) := sOkAll_map _ _ fun _ _ => sOk_str _
@[simp] theorem nodes_int (i) : nodes (.int i) = 1 := by simp [nodes]
@[simp] theorem nodes_str (i) : nodes (.str i) = 1 := by simp [nodes]
@[simp] theorem nodes_bool (i) : nodes (.bool i) = 1 := by simp [nodes]
@[simp] theorem nodes_none : nodes .none = 1 := by simp [nodes]
@[simp] theorem nodes_tup (xs) : nodes (.tuple xs) = nodesAll xs + 1 := by simp [nodes]
@[simp] theorem nodes_lst (xs) : nodes (.list xs) = nodesAll xs + 1 := by simp [nodes]
@[simp] theorem nodesAll_nil : nodesAll [] = 0 := by simp [nodesAll]
@[simp] theorem nodesAll_cons (x xs) : nodesAll (x :: xs) = nodes x + nodesAll xs := by simp [nodesAll]
theorem nodesAll_le {α : Type} (f : α → PyData) (m : Nat) : ∀ (xs : List α), (∀ x, x ∈ xs → nodes (f x) ≤ m) → nodesAll (xs.map f) ≤ m * xs.length
  | [], _ => by simp
  | x :: xs, h => by
    have := nodesAll_le f m xs fun y hy => h y (List.mem_cons_of_mem _ hy)
    have := h x (List.mem_cons_self ..)
    rw [List.map_cons, nodesAll_cons, List.length_cons, Nat.mul_succ]
    omega
@[simp] theorem nodesAll_ints (xs : List Int) : nodesAll (xs.map .int) = xs.length := by induction xs <;> simp [*]; omega
@[simp] theorem nodesAll_strs (xs : List Str) : nodesAll (xs.map .str) = xs.length := by induction xs <;> simp [*]; omega
theorem sOk_dA {κ β : Type} [DecidableEq κ] [Key κ] (f : β → PyData) (xs : List (κ × β)) (hs : ∀ k : κ, (Key.dk k).isLeft = true) (hn : (xs.map (·.1)).Nodup) (h1 : ∀ k : κ, sOk (ek k)) (h2 : ∀ p, p ∈ xs → sOk (f p.2)) : sOk (.dict (dA f xs)) := by
  have h3 : keysOk (dA f xs) := by
    refine ⟨?_, ?_⟩
    · rw [List.all_eq_true]
      intro p hp
      obtain ⟨q, _, rfl⟩ := List.mem_map.mp hp
      obtain ⟨k, e⟩ := Sum.isLeft_iff.mp (hs q.1)
      unfold plainKey
      show (match dkey (ek q.1) with | some (.inl _) => true | _ => false) = true
      rw [ek, Key.ok, e]
    · unfold dA
      rw [List.map_map]
      have : (fun p : PyData × PyData => dkey p.1) ∘ (fun p : κ × β => (ek p.1, f p.2)) = (fun k : κ => some (Key.dk k)) ∘ (·.1) := by
        funext p
        exact Key.ok p.1
      rw [this, ← List.map_map]
      exact List.Pairwise.map _ (fun (a b : κ) (h : a ≠ b) z => h (Key.inj (Option.some.inj z))) hn
  refine ⟨h3, ?_⟩
  rw [sOkKv_iff]
  intro p hp
  obtain ⟨q, hq, rfl⟩ := List.mem_map.mp hp
  exact ⟨h1 _, h2 q hq⟩
theorem nodes_dA {κ β : Type} [DecidableEq κ] [Key κ] (f : β → PyData) (m : Nat) (xs : List (κ × β)) (h : ∀ p, p ∈ xs → nodes (ek p.1) + nodes (f p.2) ≤ m) : nodes (.dict (dA f xs)) ≤ m * xs.length + 1 := by
  have : ∀ xs : List (κ × β), (∀ p, p ∈ xs → nodes (ek p.1) + nodes (f p.2) ≤ m) → nodesKv (dA f xs) ≤ m * xs.length := by
    intro xs
    induction xs with
    | nil => intro _; simp [dA, nodesKv]
    | cons p xs ih =>
      intro h
      have h1 := ih fun q hq => h q (List.mem_cons_of_mem _ hq)
      have h2 := h p (List.mem_cons_self ..)
      have e : nodesKv (dA f (p :: xs)) = nodes (ek p.1) + nodes (f p.2) + nodesKv (dA f xs) := by simp [dA, nodesKv]
      rw [e, List.length_cons, Nat.mul_succ]
      omega
  have := this xs h
  simp only [nodes]
  omega
/-! what is in a row -/
theorem inV_T {xs : List PyData} {x : PyData} (h1 : okD x = true) (h2 : okD (.list xs) = true) : inV x (.tuple xs) = some (xs.any fun y => PyData.eqv y x) := by
  have : inV x (.tuple xs) = if okD x && okD (.list xs) then some (xs.any fun y => PyData.eqv y x) else none := by cases x <;> rfl
  rw [this, h1, h2]; rfl
theorem inV_L {xs : List PyData} {x : PyData} (h1 : okD x = true) (h2 : okD (.list xs) = true) : inV x (.list xs) = some (xs.any fun y => PyData.eqv y x) := by
  have : inV x (.list xs) = if okD x && okD (.list xs) then some (xs.any fun y => PyData.eqv y x) else none := by cases x <;> rfl
  rw [this, h1, h2]; rfl
theorem any_strs (r : List Str) (w : Str) : ((r.map PyData.str).any fun y => PyData.eqv y (.str w)) = decide (w ∈ r) := by
  induction r with
  | nil => rfl
  | cons x r ih =>
    rw [List.map_cons, List.any_cons, ih, eqv_ss]
    by_cases h : x = w
    · subst h; simp
    · have h2 : ¬ w = x := fun z => h z.symm
      simp [h, h2]
theorem any_ints (r : List Int) (w : Int) : ((r.map PyData.int).any fun y => PyData.eqv y (.int w)) = decide (w ∈ r) := by
  induction r with
  | nil => rfl
  | cons x r ih =>
    rw [List.map_cons, List.any_cons, ih, eqv_ii]
    by_cases h : x = w
    · subst h; simp
    · have h2 : ¬ w = x := fun z => h z.symm
      simp [h, h2]
@[simp] theorem in_strsT (r : List Str) (w : Str) : inV (.str w) (.tuple (r.map .str)) = some (decide (w ∈ r)) := by
  rw [inV_T rfl (by simp), any_strs]
@[simp] theorem in_strsL (r : List Str) (w : Str) : inV (.str w) (.list (r.map .str)) = some (decide (w ∈ r)) := by
  rw [inV_L rfl (by simp), any_strs]
@[simp] theorem in_intsT (r : List Int) (w : Int) : inV (.int w) (.tuple (r.map .int)) = some (decide (w ∈ r)) := by
  rw [inV_T rfl (by simp), any_ints]
@[simp] theorem in_intsL (r : List Int) (w : Int) : inV (.int w) (.list (r.map .int)) = some (decide (w ∈ r)) := by
  rw [inV_L rfl (by simp), any_ints]
theorem fold_filter {α β : Type} (p : α → Bool) (f : α → β) : ∀ (xs : List α) (s : List β), xs.foldl (fun s x => if p x = true then s ++ [f x] else s) s = s ++ (xs.filter p).map f
  | [], s => by simp
  | x :: xs, s => by
    rw [List.foldl_cons, fold_filter p f xs, List.filter_cons]
    cases p x <;> simp
theorem fold_map {α β : Type} (f : α → β) : ∀ (xs : List α) (s : List β), xs.foldl (fun s x => s ++ [f x]) s = s ++ xs.map f
  | [], s => by simp
  | x :: xs, s => by rw [List.foldl_cons, fold_map f xs]; simp
theorem fold_flat {α β : Type} (f : α → List β) : ∀ (xs : List α) (s : List β), xs.foldl (fun s x => s ++ f x) s = s ++ xs.flatMap f
  | [], s => by simp
  | x :: xs, s => by rw [List.foldl_cons, fold_flat f xs]; simp
theorem pairwise_idx {α : Type} (xs : List α) (p : α × Nat → Bool) : ((xs.zipIdx.filter p).map fun z => (z.2 : Int)).Pairwise (· < ·) := by
  rw [List.pairwise_map]
  apply List.Pairwise.filter
  have : (xs.zipIdx.map (·.2)).Pairwise (· < ·) := by
    rw [List.zipIdx_map_snd]
    exact List.pairwise_lt_range'
  rw [List.pairwise_map] at this
  exact this.imp fun h => by omega
/-- sorted: numbers that ascend and are the same -/
theorem sort_intsA {xs ys : List Int} (hx : xs.Nodup) (hy : ys.Pairwise (· < ·)) (h : ∀ q, q ∈ xs ↔ q ∈ ys) : sortD (xs.map .int) = ys.map .int := by
  refine sortD_eq (alk_ints xs) (List.Perm.map _ ((List.perm_ext_iff_of_nodup hx (hy.imp fun h => by omega)).mpr h)) ?_
  rw [List.pairwise_map]
  refine hy.imp fun h => ?_
  simp [leD]; omega
theorem cut_take {α : Type} (xs : List α) (k : Nat) : cutL xs none (some (k : Int)) = xs.take k := by
  unfold cutL
  rw [HT.sIx_none, HT.sIx_nat]
  simp only [List.drop_zero, Nat.sub_zero]
  rw [List.take_eq_take_iff]; omega
theorem cut_drop {α : Type} (xs : List α) (k : Nat) : cutL xs (some (k : Int)) none = xs.drop k := by
  unfold cutL
  rw [HT.sIx_none, HT.sIx_nat]
  rw [List.take_of_length_le (by rw [List.length_drop]; exact Nat.le_refl _)]
  by_cases h : k ≤ xs.length
  · rw [Nat.min_eq_left h]
  · rw [Nat.min_eq_right (by omega), List.drop_length, List.drop_eq_nil_of_le (by omega)]
/-- a slot that is not one's own -/
def notOw (x : Sl) : Prop := x = .no ∨ ∃ d, x = .fz d
theorem notOw.own {x : Sl} (h : notOw x) (ρ : PEnv) : isOwn (x :: ρ) 0 = false := by rcases h with rfl | ⟨d, rfl⟩ <;> rfl
theorem notOw.nd {x : Sl} (h : notOw x) (ρ : PEnv) : nd (x :: ρ) 0 = true := by rcases h with rfl | ⟨d, rfl⟩ <;> rfl
theorem notOw.frz {x : Sl} (h : notOw x) (ρ : PEnv) : frz1 (x :: ρ) 0 = x :: ρ := by rcases h with rfl | ⟨d, rfl⟩ <;> rfl
theorem notOw_no : notOw .no := .inl rfl
theorem notOw_fz (d : PyData) : notOw (.fz d) := .inr ⟨d, rfl⟩
section
variable {Φ : Nat → List PyData → Option (PyData × List PyData)} {gl : List PyData} {ios : List Nat} {g : G} {b : Ss} {dead : List Nat}
/-- a walk under a word of the items to come and the environment -/
theorem forE_rel {α : Type} (enc : α → PyData) (P : List α → PEnv → Prop) (hs : ∀ x xs ρ, P (x :: xs) ρ → ∃ ρ', turnE Φ gl ios g b dead (enc x) ρ = some (.nx ρ') ∧ P xs ρ') : ∀ (xs : List α) (ρ : PEnv), P xs (wipeP ρ dead) → ∃ ρ', forE Φ gl ios g b dead (xs.map enc) ρ = some (.nx ρ') ∧ P [] ρ'
  | [], ρ, h => ⟨_, loop_nil, h⟩
  | x :: xs, ρ, h => by
    obtain ⟨ρ', h1, h2⟩ := hs x xs _ h
    obtain ⟨ρ1, ρ2, e1, e2, rfl⟩ := turn_nx h1
    obtain ⟨ρ3, e3, h3⟩ := forE_rel enc P hs xs ρ2 h2
    exact ⟨ρ3, by rw [List.map_cons]; exact loop_cons ρ1 ρ2 e1 e2 e3, h3⟩
end
end PP

/-! PP30: more rules of the walk: d.update(e). -/
namespace PP
open PySem PySem.Spec PyProof.Rows L2 RZ
def rUpdK : V → List V → Hp → VK → Prop := fun x vs H Q => ∃ (a b : Addr) (kvs more : List (L2.Key × V)), x = .ref a ∧ vs = [.ref b] ∧ a ≠ b ∧ H a = some (.dK kvs) ∧ Rd H b (.dK more) ∧ kvs.length + more.length ≤ sizeLine ∧ Q .non (upd H a (.dK (mergeK kvs more)))
theorem length_mergeK : ∀ (more kvs : List (L2.Key × V)), (mergeK kvs more).length ≤ kvs.length + more.length
  | [], kvs => Nat.le_refl _
  | p :: more, kvs => by
    have h1 := length_mergeK more (putK kvs p.1 p.2)
    have h2 := length_putK kvs p.1 p.2
    have e : mergeK kvs (p :: more) = mergeK (putK kvs p.1 p.2) more := rfl
    rw [e, List.length_cons]
    omega
theorem mt_updK {X : Cx} : MtR X "dict.update" rUpdK := by
  intro pins s σ H x xs v us Q I rx rxs ⟨a, b, kvs, more, ex, exs, hne, e, e2, hl, q⟩
  subst ex; subst exs
  cases rx
  obtain ⟨u, rfl, ru⟩ := rxs.one
  cases ru
  obtain ⟨z, hd, vs, rel, dd⟩ := dk_of I.hok e
  obtain ⟨z2, hd2, vs2, rel2, dd2⟩ := dk_rd I.hok e2
  have hm := length_mergeK more kvs
  refine call_meetsIn PySem.F.slot_dict_update dd.typeIs PySem.F.entry_dict_update (PySem.F.args_dict_update_2 _ _) (meets_dict_update (mixKind X.prog X.w) a b hne hd2)
    ⟨vs, vs2, dd, dd2, by rw [← rel.length, ← rel2.length]; exact hl, fun h' dd' _ hs => ?_⟩
  have he : ∃ q, h'.get? a = some q := let ⟨q, _, _, hq, _⟩ := dd'; ⟨q, hq⟩
  exact ⟨.non, _, d_write (t' := s.toks) I (by rw [e]; exact True.intro) hs he (dk_new (Nat.le_trans hm hl) hd (KV.merge rel2 rel) dd'), rfl, q⟩
section
variable {K : PySem.W.Frag} {H : Hp} {P : Addr → Prop}
theorem rpK_merge : ∀ {more : List (L2.Key × V)} {ds2 : List (PyData × PyData)} {kvs : List (L2.Key × V)} {ds : List (PyData × PyData)}, RpK K H P more ds2 → RpK K H P kvs ds → RpK K H P (mergeK kvs more) (mergeD ds ds2)
  | _, _, kvs, ds, .nil, r => r
  | _, _, kvs, ds, .cons (k := k) (v := v) (d := d) r1 rs, r => by
    have hk : dkey (keyPD k) = some (.inl k) := by cases k <;> rfl
    have := rpK_merge rs (dput_rp (k := k) r1 r)
    show RpK K H P (mergeK (putK kvs k v) _) (List.foldl _ (match dkey (keyPD k) with | some k' => dput ds k' (keyPD k) d | none => ds) _)
    rw [hk]
    exact this
theorem rpT_plain {kvs : List (List L2.Key × V)} {ds : List (PyData × PyData)} (r : RpT K H P kvs ds) (h : ds.all plainKey = true) : kvs = [] := by
  cases r with
  | nil => rfl
  | cons r rs =>
    exfalso
    rename_i k _ _ _ _
    rw [List.all_cons, Bool.and_eq_true] at h
    have := h.1
    unfold plainKey at this
    rw [show dkey (PyData.tuple (List.map keyPD k), _).1 = _ from dkey_t k] at this
    cases this
end
section
variable {X : Cx} {Φ : Nat → List PyData → Option (PyData × List PyData)} {gl : List PyData} {ios : List Nat} {pos cpos apos p : Pos} {i : Nat} {x : Str} {e : Expr} {ee : E}
theorem ty_dict : ∀ (P : Addr → Prop) a d, mKind "update" d = true → Own X.K H P a d → tyV X.K "dict" (.ref a) H := fun P a d hk o => by
  cases o with
  | lst h r => simp [mKind] at hk
  | dk h r => exact .inr (.inr (.inl ⟨rfl, .inl ⟨_, h⟩⟩))
  | dt n h r => exact .inr (.inr (.inl ⟨rfl, .inr ⟨_, h⟩⟩))
theorem s_update (hN : X.N[i]? = some x) (hv : Vis X.env.scope x) (he : PEv X Φ gl e ee) (hd : (x == ("__debug__" : Str)) = false := by decide) (hcd : (x == ("__classdict__" : Str)) = false := by decide)
    (hbase : attributeBase (.Name x p) "update" X.env (eval (.Name x p) X.env) = eval (.Name x p) X.env := by rfl)
    (hfew : ((backTo cpos (starEach [e] X.env)).all (fun x => !x.1) && (backToKw cpos (keywordEach [] X.env)).all (fun x => x.1.isSome)
      && decide (([e] : List Expr).length + ([] : List Keyword).length + (if ([] : List Keyword).isEmpty then 0 else 1) < 30)) = true := by rfl)
    (hline : (apos.endLine == cpos.line) = true := by rfl) (hs : starEach [e] X.env = (false, eval e X.env) :: starEach [] X.env := by rfl) (hplain : (backTo cpos (starEach [] X.env)).any (·.1) = false := by rfl)
    (hsw : swapsWith (.Call (.Attribute (.Name x p) "update" apos) [e] [] cpos) none pos.line X.env = pure false := by rfl) :
    PSv X Φ gl ios (.Expr (.Call (.Attribute (.Name x p) "update" apos) [e] [] cpos) pos) (.mut "update" i ee) :=
  (ps_expr (pe_bm (id := "dict.update") PySem.F.plainAttrs_dict PySem.F.slot_dict_update PySem.F.type_dict_update mt_updK (pe_var hN hv hd hcd) (pa_cons he pa_nil hs) hbase hfew hline hs hplain) hsw).imp fun D σ H w =>
    mut_core w ty_dict fun P H1 a v d dv d' hp o r hm Q hQ => by
      cases o with
      | lst h ra => simp [mutV] at hm
      | dk h ra =>
        cases r with
        | dk n2 h2 rb =>
          simp only [mutV] at hm
          split at hm
          · rename_i hz
            simp only [Bool.and_eq_true, decide_eq_true_eq] at hz
            cases hm
            exact ⟨a, _, _, _, rfl, rfl, fun z => n2 (z ▸ hp), h, h2.rd, by rw [ra.length, rb.length]; exact hz.2, hQ _ _ (.dk upd_same ((rpK_merge rb ra).ext (own_ext hp h fun _ z => nomatch z)))⟩
          · cases hm
        | dt n2 h2 rb =>
          simp only [mutV] at hm
          split at hm
          · rename_i hz
            simp only [Bool.and_eq_true, decide_eq_true_eq] at hz
            exact absurd (rpT_plain rb hz.1.2) h2.1
          · cases hm
        | _ => simp [mutV] at hm
      | dt n h ra =>
        cases r with
        | dk n2 h2 rb =>
          simp only [mutV] at hm
          split at hm
          · rename_i hz
            simp only [Bool.and_eq_true, decide_eq_true_eq] at hz
            exact absurd (rpT_plain ra hz.1.1) n
          · cases hm
        | dt n2 h2 rb =>
          simp only [mutV] at hm
          split at hm
          · rename_i hz
            simp only [Bool.and_eq_true, decide_eq_true_eq] at hz
            exact absurd (rpT_plain ra hz.1.1) n
          · cases hm
        | _ => simp [mutV] at hm
end
end PP

/-! PP31: sets of ints and texts, any number of them, made of a list, and sorted: after the house's sets of ints (HandS.Set, HandS.SetFor), by the kind of keys that dicts have. -/
namespace PP
open PySem PySem.Spec PyProof.Rows L2 RZ
def memK (ks : List L2.Key) (j : L2.Key) : Bool := ks.any fun x => decide (x = j)
theorem memK_iff {ks : List L2.Key} {j : L2.Key} : memK ks j = true ↔ j ∈ ks := by
  unfold memK
  simp
def kofV : Value → L2.Key
  | .int i _ => .inl i
  | .str x _ => .inr x
  | _ => .inl 0
theorem kof_rel {k : L2.Key} {v : Value} (r : RelV (kV k) v) : kofV v = k := by
  cases k with
  | inl i => obtain ⟨t, rfl⟩ := (show ∃ t, v = Value.int i t from r); rfl
  | inr x => obtain ⟨t, rfl⟩ := (show ∃ t, v = Value.str x t from r); rfl
section
variable (P : Program) (w : World)
abbrev mxK : KeyKind P w L2.Key := mixKind P w
def GoodM (e : Int × Value) : Prop := ∃ k : L2.Key, RelV (kV k) e.2 ∧ e.1 = (mxK P w).hash k
abbrev keyM (e : Int × Value) : L2.Key := kofV e.2
/-- the set at a: S its members, n their number, its table such that it can be walked -/
def SetM (h : Heap) (a : Addr) (S : L2.Key → Bool) (n : Nat) : Prop := ∃ o es ep t, h.get? a = some o ∧ o.ExactSet ∧ o.data = .set es ep t ∧ (∀ e ∈ es.toList, GoodM P w e) ∧ (es.toList.map keyM).Nodup ∧
    (∀ k, S k = true ↔ k ∈ es.toList.map keyM) ∧ es.size < scanBound ∧ t.fits es.size = true ∧ es.size = n ∧ Ris t.place.toList ∧ (w.params.followText "set-order" = true ∨ t.led = true)
end
section
variable {P : Program} {w : World} {h h' : Heap} {a : Addr} {S : L2.Key → Bool} {n : Nat}
theorem SetM.at (R : SetM P w h a S n) (k : ∀ o, h.get? a = some o → h'.get? a = some o) : SetM P w h' a S n := let ⟨o, es, ep, t, ho, r⟩ := R; ⟨o, es, ep, t, k o ho, r⟩
theorem SetM.congr {S' : L2.Key → Bool} (R : SetM P w h a S n) (e : ∀ k, S' k = S k) : SetM P w h a S' n := by
  rw [show S' = S from funext e]; exact R
theorem goodM_elems {l : List (Int × Value)} (g : ∀ e ∈ l, GoodM P w e) : ElemsOf (mxK P w) l := fun e he => let ⟨k, h1, h2⟩ := g e he; ⟨⟨k, kV_is h1, h2⟩, key_scan h1⟩
theorem goodM_is {e : Int × Value} (g : GoodM P w e) (k : L2.Key) : (mxK P w).is k e.2 = true ↔ keyM e = k := by
  obtain ⟨k0, h1, _⟩ := g
  rw [show keyM e = k0 from kof_rel h1]
  exact ⟨fun q => (mxK P w).inj _ _ _ (kV_is h1) q, fun q => q ▸ kV_is h1⟩
theorem goodM_mem {l : List (Int × Value)} (g : ∀ e ∈ l, GoodM P w e) (k : L2.Key) : k ∈ l.map keyM ↔ ∃ e ∈ l, (mxK P w).is k e.2 = true := by
  rw [List.mem_map]
  exact ⟨fun ⟨e, he, q⟩ => ⟨e, he, (goodM_is (g e he) k).2 q⟩, fun ⟨e, he, q⟩ => ⟨e, he, (goodM_is (g e he) k).1 q⟩⟩
end
section
variable {P : Program} {w : World} {A : Around} {E : Value → Shared → Prop} {s : Shared} {a : Addr} {S : L2.Key → Bool} {n : Nat}
/-- the store behind an add -/
theorem setM_tail {g : Bool → Sem Unit} (hg : ∀ (b : Bool) (s₁ : Shared) (Q' : Unit → Shared → Prop), Q' () s₁ → wpAny (model P w) A (g b) Q' E s₁)
    {o : Obj} {es es1 : Array (Int × Value)} {ep : Nat} {t t2 : SetTable} (ho : s.heap.get? a = some o) (hex : o.ExactSet) (hd : o.data = .set es ep t) {S' : L2.Key → Bool}
    (g1 : ∀ e ∈ es1.toList, GoodM P w e) (nd1 : (es1.toList.map keyM).Nodup) (m1 : ∀ k, S' k = true ↔ k ∈ es1.toList.map keyM) (hb1 : es1.size < scanBound) (hf2 : t2.fits es1.size = true) (hr : Ris t2.place.toList)
    (hl : w.params.followText "set-order" = true ∨ t2.led = true) {wasDummy : Bool} {R : Option Bool → Shared → Prop} (hR : ∀ h', Heap.SameBut a s.heap h' → SetM P w h' a S' es1.size → R (some true) { s with heap := h' }) :
    wpAny (model P w) A (do
        storeSet a es1 t2
        if (!wasDummy && t2.tooFull) = true then do
            g (relayAll t2 es1 (SetTable.grown es1.size)).2.2
            storeSet a (relayAll t2 es1 (SetTable.grown es1.size)).1 (relayAll t2 es1 (SetTable.grown es1.size)).2.1
            pure (some true)
          else pure (some true)) R E s := by
  have sb1 := Heap.SameBut.update s.heap a (Obj.putSet es1 t2)
  have ho1 := store_at (es' := es1) (t' := t2) ho hd
  refine wpAny_bind (wpAny_storeSet_of ho hd ?_ (fits_of_scanBound hb1))
  split
  case isFalse => exact wpAny_pure (hR _ sb1 ⟨_, es1, _, t2, ho1, hex, rfl, g1, nd1, m1, hb1, hf2, rfl, hr, hl⟩)
  case isTrue =>
    have pm := relayAll_perm t2 es1 (SetTable.grown es1.size)
    have f3 := relayAll_fits t2 es1 (SetTable.grown es1.size)
    have r3 := relayAll_ris t2 es1 (SetTable.grown es1.size)
    have l3 := relayAll_led t2 es1 (SetTable.grown es1.size)
    generalize relayAll t2 es1 (SetTable.grown es1.size) = Z at pm f3 r3 l3 ⊢
    obtain ⟨es2, t3, gave⟩ := Z
    dsimp only at pm f3 r3 l3 ⊢
    have hsz : es2.size = es1.size := by
      have := pm.length_eq
      rwa [Array.length_toList, Array.length_toList] at this
    have hb2 : es2.size < scanBound := hsz ▸ hb1
    refine wpAny_bind (hg _ _ _ (wpAny_bind (wpAny_storeSet_of ho1 rfl ?_ (fits_of_scanBound hb2))))
    exact wpAny_pure (hR _ (sb1.trans (Heap.SameBut.update _ a _)) ⟨_, es2, _, t3, store_at (es' := es2) (t' := t3) ho1 rfl, hex, rfl, fun e he => g1 e (pm.mem_iff.mp he), (pm.map keyM).nodup_iff.mpr nd1,
      fun k => (m1 k).trans (pm.map keyM).mem_iff.symm, hb2, f3, hsz, r3, hl.imp id fun z => l3.trans z⟩)
/-- a key is put in -/
theorem setM_add {k : L2.Key} {v : Value} {Q : Bool → Shared → Prop} (hv : RelV (kV k) v) (R : SetM P w s.heap a S n) (room : n + 1 < scanBound)
    (hQ : ∀ h', Heap.SameBut a s.heap h' → SetM P w h' a (fun j => S j || decide (j = k)) (if S k = true then n else n + 1) → Q (!S k) { s with heap := h' }) :
    wpAny (model P w) A (setAddHashed a v ((mxK P w).hash k)) Q E s := by
  obtain ⟨o, es, ep, t, ho, hex, hd, g, nd, hm, hb, hf, hn, hr, hl⟩ := R
  have hkey : (mxK P w).is k v = true := kV_is hv
  have hsc : v.scannable = true := key_scan hv
  have hel : ElemsOf (mxK P w) es.toList := goodM_elems g
  unfold setAddHashed setAddHashedIn
  refine wpAny_holding (wpAny_bind (wpAny_setState_of ho hd hf ?_))
  dsimp only
  rw [byScan_of hsc hb hel]
  simp only [↓reduceIte]
  unfold setAddByScan
  refine wpAny_bind (wpAny_bind (wpAny_rule (wpAny_bind (wpAny_setScan_of hkey ho hd hf hel ?_))))
  cases hfi : List.findIdx? (fun e => (mxK P w).is k e.2) es.toList with
  | some j =>
    obtain ⟨hj, pj, _⟩ := List.findIdx?_eq_some_iff_getElem.mp hfi
    have hSk : S k = true := (hm k).2 ((goodM_mem g k).2 ⟨es.toList[j], List.getElem_mem hj, pj⟩)
    have q := hQ s.heap (Heap.SameBut.refl a s.heap) ⟨o, es, ep, t, ho, hex, hd, g, nd, fun i => by
      rw [Bool.or_eq_true, decide_eq_true_eq, ← hm i]
      exact ⟨fun z => z.elim id (fun e => e ▸ hSk), .inl⟩, hb, hf, by rw [if_pos hSk]; exact hn, hr, hl⟩
    rw [hSk] at q
    exact wpAny_pure (wpAny_pure q)
  | none =>
    have hnk : k ∉ es.toList.map keyM := fun z => by
      obtain ⟨e, he, q⟩ := (goodM_mem g k).1 z
      have c := List.findIdx?_eq_none_iff.mp hfi e he
      rw [q] at c
      cases c
    have hSk : S k = false := Bool.eq_false_iff.mpr fun q => hnk ((hm k).1 q)
    have hgw : ∀ (b : Bool) {s₁ : Shared} {Q' : Unit → Shared → Prop}, Q' () s₁ → wpAny (model P w) A (match b with | true => rule "set.scan.the-table-gave-way" | false => pure ()) Q' E s₁ :=
      fun b s₁ Q' q => by cases b <;> first | exact wpAny_pure q | exact wpAny_rule q
    have pm := layNew_perm t es ((mxK P w).hash k) v
    have f1 := layNew_fits t es ((mxK P w).hash k) v
    have r1 := layNew_ris t es ((mxK P w).hash k) v hr
    have l1 := layNew_led t es ((mxK P w).hash k) v
    dsimp only
    generalize layNew t es ((mxK P w).hash k) v = Z at pm f1 r1 l1 ⊢
    obtain ⟨es1, t1, wasDummy, gave⟩ := Z
    dsimp only at pm f1 r1 l1 ⊢
    rw [Array.toList_push] at pm
    have pc : es1.toList.Perm (((mxK P w).hash k, v) :: es.toList) := pm.trans (List.perm_append_singleton _ _)
    have pk : (es1.toList.map keyM).Perm (k :: es.toList.map keyM) := by
      have := pc.map keyM
      rwa [List.map_cons, show keyM ((mxK P w).hash k, v) = k from kof_rel hv] at this
    have g1 : ∀ e ∈ es1.toList, GoodM P w e := fun e he => (List.mem_cons.mp (pc.mem_iff.mp he)).elim (fun z => z ▸ ⟨k, hv, rfl⟩) (g e)
    have nd1 : (es1.toList.map keyM).Nodup := pk.nodup_iff.mpr (List.nodup_cons.mpr ⟨hnk, nd⟩)
    have m1 : ∀ i, (S i || decide (i = k)) = true ↔ i ∈ es1.toList.map keyM := fun i => by
      rw [Bool.or_eq_true, decide_eq_true_eq, hm i, pk.mem_iff, List.mem_cons, or_comm]
    have hsz : es1.size = n + 1 := by
      have := pc.length_eq
      rwa [Array.length_toList, List.length_cons, Array.length_toList, hn] at this
    have hb1 : es1.size < scanBound := hsz ▸ room
    have hled : w.params.followText "set-order" = true ∨ t1.led = true := hl.imp id fun z => l1.trans z
    have fin : ∀ h', Heap.SameBut a s.heap h' → SetM P w h' a (fun j => S j || decide (j = k)) es1.size → Q true { s with heap := h' } := fun h' sb r => by
      have q := hQ h' sb
      rw [hSk] at q
      exact q (hsz ▸ r)
    refine wpAny_bind (hgw _ ?_)
    split
    · refine wpAny_bind ?_
      rw [hashByValue_scannable 8 hsc]
      refine wpAny_pure (setM_tail (fun b s₁ Q' q => hgw b q) ho hex hd g1 nd1 m1 hb1 ?_ ?_ ?_ fun h' sb r => wpAny_pure (fin h' sb r))
      · first | (split <;> first | exact f1 | exact SetTable.fits_plain_off f1) | exact f1
      · first | (split <;> exact r1) | exact r1
      · first | (split <;> exact hled) | exact hled
    · refine wpAny_bind (wpAny_pure ?_)
      simp only [↓reduceIte]
      exact setM_tail (fun b s₁ Q' q => hgw b q) ho hex hd g1 nd1 m1 hb1 f1 r1 hled fun h' sb r => wpAny_pure (fin h' sb r)
theorem setM_new {h : Heap} {a : Addr} {ks : List L2.Key} (ho : h.get? a = some { cls := .type "set", dict := none, data := .set #[] 0 (.fresh 0 0 (!w.params.followText "set-order")) }) : SetM P w h a (fun j => memK (ks.take 0) j) 0 :=
  ⟨_, #[], 0, _, ho, ⟨rfl, rfl, rfl⟩, rfl, (fun e he => by simp at he), (by simp), (fun k => by simp [memK]), (by decide), (by rfl), rfl, List.Pairwise.nil, (by cases e : w.params.followText "set-order" with
    | true => exact .inl rfl
    | false => exact .inr (by first | rfl | simp [SetTable.fresh, e]))⟩
/-- the loop that fills it -/
theorem setM_loop {I : Addr} {fp wr : List Addr} {G : Array GenState → Array GenState → Prop} {n : Nat} {Pv : Nat → Value → Prop} {St : Nat → Shared → Prop} {R : Result → Shared → Prop}
    (W : WalksS P w A.in1 I fp wr G n Pv St) (S : Addr) (hSf : S ∉ fp) (ks : List L2.Key) (hn : n = ks.length) (hb : ks.length + 1 < scanBound) (hval : ∀ i v, Pv i v → ∃ k, ks[i]? = some k ∧ RelV (kV k) v) :
    ∀ (k i : Nat) (s : Shared), n - i = k → i ≤ n → St i s → (∃ c, c ≤ i ∧ SetM P w s.heap S (fun j => memK (ks.take i) j) c) →
      (∀ s' c, Moved (S :: wr) G s s' → c ≤ n → SetM P w s'.heap S (fun j => memK ks j) c → R (.ok (.ret .none)) s') → codeAny (model P w) A (.builtin "set.update.loop" ⟨[.ref S, .ref I], []⟩) R s := by
  have hSw : S ∉ wr := fun h => hSf (W.sub _ h)
  have hsub : ∀ b ∈ wr, b ∈ S :: wr := fun b hb => List.mem_cons_of_mem _ hb
  intro k
  induction k with
  | zero =>
    intro i s hk' hi hst ⟨c, hc, hS⟩ hR
    obtain rfl : i = n := by omega
    refine codeAny_builtin F.entry_set_update_loop ?_
    rw [Around.under_plainId F.plain_set_update_loop _]
    refine wpAny_bind (W.done s _ _ hst fun s' hm => wpAny_pure (hR s' c (hm.mono hsub) hc ?_))
    rw [List.take_of_length_le (by omega)] at hS
    exact hS.at fun o e => hm.heap S o hSw e
  | succ k ih =>
    intro i s hk' hi hst ⟨c, hc, hS⟩ hR
    have hlt : i < n := by omega
    refine codeAny_builtin F.entry_set_update_loop ?_
    rw [Around.under_plainId F.plain_set_update_loop _]
    refine wpAny_bind (W.item i s _ _ hlt hst fun v s' hP hst' hm => ?_)
    obtain ⟨z, hz, rv⟩ := hval i v hP
    have hS' : SetM P w s'.heap S (fun j => memK (ks.take i) j) c := hS.at fun o e => hm.heap S o hSw e
    refine wpAny_bind (wpAny_holding ?_)
    unfold setAdd
    refine wpAny_holding (wpAny_bind ((mxK P w).pyHash (kV_is rv) (setM_add (s := { s' with toks := s'.toks + 1 }) rv hS' (by omega) fun h' hsb hS2 => ?_)))
    have hS3 : SetM P w h' S (fun j => memK (ks.take (i + 1)) j) (if memK (ks.take i) z = true then c else c + 1) := hS2.congr fun j => by
      rw [List.take_add_one, hz]
      simp [memK, List.any_append, eq_comm]
    have hc3 : (if memK (ks.take i) z = true then c else c + 1) ≤ i + 1 := by split <;> omega
    refine wpAny_pure ⟨plainId_quiet F.plain_set_update_loop _, ih (i + 1) _ (by omega) hlt (W.frame _ s' _ _ hst' (Nat.le_succ _) fun b hb o e => ?_) ⟨_, hc3, hS3⟩ fun s'' c'' hm'' hc'' hS'' => ?_⟩
    · exact (hsb.2 b fun h : b = S => hSf (h ▸ hb)).trans e
    · refine hR s'' c'' (Moved.trans W.gtrans ((hm.mono hsub).then_heap (Nat.le_succ _) fun b o hb e => ?_) hm'') hc'' hS''
      exact (hsb.2 b fun h : b = S => hb (h ▸ List.mem_cons_self)).trans e
end
end PP

/-! PP32: sorted(set(xs)), xs a list of ints or of texts. -/
namespace PP
open PySem PySem.Spec PyProof.Rows L2 RZ
abbrev setObj0 (w : World) : Obj := { cls := .type "set", dict := none, data := .set #[] 0 (.fresh 0 0 (!w.params.followText "set-order")) }
section
variable {P : Program} {w : World} {A : Around} {E : Value → Shared → Prop} {s : Shared}
set_option maxHeartbeats 3200000 in
/-- set(xs): the members are the keys -/
theorem setM_list {l : Addr} {items : Array Value} (ks : List L2.Key) {Q : Value → Shared → Prop} (hh : A.handled = none) (hl : s.heap.IsList l items) (hit : Vals (ks.map kV) items.toList) (hb : ks.length + 1 < scanBound)
    (h : ∀ (h' : Heap) (tk c : Nat), SetM P w h' s.heap.objs.size (memK ks) c → c ≤ ks.length → (∀ b o, s.heap.get? b = some o → h'.get? b = some o) → Q (.ref s.heap.objs.size) { s with heap := h', toks := tk }) :
    wpAny (model P w) A (call (.type "set") [.ref l]) Q E s := by
  have hisz : items.size = ks.length := by
    have q : (ks.map kV).length = items.toList.length := hit.length
    rw [List.length_map] at q
    exact q.symm
  obtain ⟨c, tl, hmro⟩ := F.called_set.mro
  have hmade := F.called_set.made
  have hsub := F.called_set.sub
  have h1 := F.called_set.notType
  have h2 := F.called_set.canCreate
  have hct := F.typeCall_set_1 (.ref l)
  refine wpAny_call (codeAny_of_tree ?_)
  show wpAny _ _ (callAny (.type "set") _) _ _ _
  refine wpAny_pure ⟨Code.quiet_builtin _ (by decide +kernel), codeAny_builtin F.entry_type_call ?_⟩
  rw [Around.under_plain (weight_type_call_type "set" [.ref l] []) rfl]
  repeat (any_goals (first | assumption | wp_step))
  refine codeAny_mono (code_set_led1 (.ref l) (E := E) (Q₁ := fun obj s₁ => obj = .ref s.heap.objs.size ∧ s₁ = { s with heap := s.heap.push (setObj0 w) }) ⟨rfl, rfl⟩) fun r s₁ hr => ?_
  rcases r with e | fl
  · exact hr
  cases fl with
  | ret obj =>
    obtain ⟨rfl, rfl⟩ := hr
    have hS : (s.heap.push (setObj0 w)).get? s.heap.objs.size = some (setObj0 w) := Heap.get?_push_size _ rfl
    have hT : Shared.TypeIs { s with heap := s.heap.push (setObj0 w) } (.ref s.heap.objs.size) "set" := ⟨_, hS, rfl⟩
    have hli := F.called_set.init.lookup
    have hbi := F.called_set.init.bind (.ref s.heap.objs.size)
    repeat (any_goals (first | assumption | wp_step))
    refine codeAny_mono (codeAny_call_builtin (R := wants (fun r s₂ => r = .none ∧ ∃ h' tk c, s₂ = { s with heap := h', toks := tk } ∧ SetM P w h' s.heap.objs.size (memK ks) c ∧ c ≤ ks.length ∧
        (∀ b o, s.heap.get? b = some o → h'.get? b = some o)) E) F.called_set.init.plain F.entry_set_init (check_set_init_1 hT ?_)) fun r₂ s₂ hr₂ => ?_
    · obtain ⟨⟨ocls, odict, odata, oslots⟩, hol, hcl, nl, hdl⟩ := hl
      simp only at hcl hdl
      subst hcl; subst hdl
      have hol' : (s.heap.push (setObj0 w)).get? l = some { cls := .type "list", dict := odict, data := .seq items nl, slots := oslots } := Heap.get?_push_of_some _ hol
      have hsls := F.sub_list_set
      have hslf := F.sub_list_frozenset
      have hne : (Value.type "list" == Value.type "dict") = false := by decide
      have hl1 : (s.heap.push (setObj0 w)).IsList l items := ⟨_, hol', rfl, nl, rfl⟩
      have hlS : l < s.heap.objs.size := Heap.lt_size hol
      have hz1 : (s.heap.push (setObj0 w)).objs.size = s.heap.objs.size + 1 := Heap.size_push ..
      have hneI : l ≠ (s.heap.push (setObj0 w)).objs.size := by rw [hz1]; exact Nat.ne_of_lt (Nat.lt_succ_of_lt hlS)
      have hSf : s.heap.objs.size ∉ [(s.heap.push (setObj0 w)).objs.size, l] := by
        rw [hz1]; simp only [List.mem_cons, List.not_mem_nil, or_false, not_or]
        exact ⟨Nat.ne_of_lt (Nat.lt_succ_self _), Nat.ne_of_gt hlS⟩
      unfold Builtin.«set.__init__» noKeywords Builtin.Frozenset.updateFrom
      generalize hPI : pyIter = PI
      wp_walk
      subst hPI
      refine wpAny_pyIter_list hl1 (wpAny_bind (wpAny_runValue ?_))
      have hh3 : A.in1.in1.in1.handled = none := by simp [hh]
      have hval : ∀ (i : Nat) (v : Value), items[i]? = some v → ∃ k, ks[i]? = some k ∧ RelV (kV k) v := fun i v hv => by
        obtain ⟨x, hx, rx⟩ := prR hit (by rw [Array.getElem?_toList]; exact hv)
        rw [List.getElem?_map] at hx
        obtain ⟨k, hk, rfl⟩ := Option.map_eq_some_iff.mp hx
        exact ⟨k, hk, rx⟩
      refine setM_loop ((Walks.list hh3 _ l hneI items).toS) s.heap.objs.size hSf ks hisz hb hval (items.size - 0) 0 _ (by omega) (Nat.zero_le _)
        ⟨⟨_, Heap.get?_push_size _ rfl, rfl, rfl⟩, (hl1.push _)⟩ ⟨0, Nat.le_refl 0, setM_new (Heap.get?_push_of_some _ hS)⟩ fun s' c' hm hc' hS' => ?_
      obtain ⟨h', g2, d', tk', os'⟩ := s'
      have eg : g2 = s.gens := hm.gens
      have ed : d' = s.drawn := hm.drawn
      have eo : os' = s.os := hm.os
      subst eg; subst ed; subst eo
      refine wpAny_pure ?_
      show wpAny _ _ (ret Value.none) _ _ _
      refine wpAny_pure ⟨rfl, h', tk', c', rfl, hS', hisz ▸ hc', fun b o e => ?_⟩
      have hb0 : b < s.heap.objs.size := Heap.lt_size e
      refine hm.heap b o ?_ (Heap.get?_push_of_some _ (Heap.get?_push_of_some _ e))
      simp only [List.mem_cons, List.not_mem_nil, or_false, not_or]
      rw [hz1]
      exact ⟨Nat.ne_of_lt hb0, Nat.ne_of_lt (Nat.lt_succ_of_lt hb0)⟩
    · rcases r₂ with e | fl₂
      · exact hr₂
      cases fl₂ with
      | ret r =>
        obtain ⟨rfl, h', tk, c', rfl, hS', hc', hk'⟩ := hr₂
        repeat (any_goals (first | assumption | wp_step))
        exact h _ _ _ hS' hc' hk'
      | _ => exact hr₂.elim
  | _ => exact hr.elim
end
end PP

/-! PP33: sorted(set(xs)), the expression. -/
namespace PP
open PySem PySem.Spec PyProof.Rows L2 RZ
section
variable {X : Cx}
/-- sorted(x), x collected, its items in an order that is not known -/
theorem sortedCE (hu : X.A.units + 70 < cLine) {pins : List (Addr × Obj)} {σ : L2.St} {H : Hp} {s : Shared} {P : Addr → Prop} {Q : VK} {u : Value} {ds0 : List PyData} (w : WantP X.K P H Q (.list (sortD ds0)) .fr)
    (col : ∀ (E : Value → Shared → Prop) (Q' : List Value → Shared → Prop), (∀ its s1 xs ds, Inv X pins σ H s1 → Vals xs its → RpAll X.K H P xs ds → sortOk ds = true → sortD ds = sortD ds0 → Q' its s1) → wpAny (model X.prog X.w) X.A.in1 (collect u) Q' E s) :
    wpAny (model X.prog X.w) X.A (call (.builtin "sorted") [u]) (EP X pins σ Q) X.xe s := by
  have hd : mxD = 40 := rfl
  refine Calls.call_function_entry PyProof.Rows.kind_sorted PyProof.Rows.plain_sorted PyProof.Rows.entry_sorted (PyProof.Rows.args_sorted1 _) ?_
  unfold Builtin.«sorted»
  refine wpAny_bind (m := checkCount "sorted" 1 1 _) (wpAny_pure ?_)
  refine wpAny_bind (col _ _ fun its s1 xs ds I1 rv r ok es0 => ?_)
  rw [← es0] at w
  obtain ⟨h1, h2, h3, h4, h5⟩ := sortOk_ok ok
  have hl : its.length = ds.length := rv.length.symm.trans r.length
  refine wpAny_bind (wpAny_newList ?_ (by rw [hl]; exact h5))
  have hoL : (s1.heap.push (seqObj "list" its.toArray 0)).get? s1.heap.objs.size = some (seqObj "list" its.toArray 0) := Heap.get?_push_size _ rfl
  have old : ∀ b o, s1.heap.get? b = some o → (PySem.W.sortingHeap (s1.heap.push (seqObj "list" its.toArray 0)) s1.heap.objs.size its).get? b = some o := fun b o e => by
    have hb : b < s1.heap.objs.size := Heap.lt_size e
    have e2 : (s1.heap.push (seqObj "list" its.toArray 0)).get? b = some o := Heap.get?_push_of_some _ e
    exact PySem.W.sortingHeap_old (Nat.ne_of_lt hb) e2
  obtain ⟨as, rr⟩ := r.readsAll I1 h2 rv
  have es : PySem.W.EachIs (fun v d => ∃ as, Reads (PySem.W.sortingHeap (s1.heap.push (seqObj "list" its.toArray 0)) s1.heap.objs.size its) v d as) its ds :=
    (each_of rr).mono fun _ _ ⟨as, q⟩ => ⟨as, PyProof.Rows.Reads.keeps old q⟩
  have dep : ∀ d, d ∈ ds → X.A.in1.in1.units + d.depth < cLine := by
    intro d hd'
    have : d.depth ≤ PyData.depthAll ds := by
      clear rr es r h1 h4 ok w hl rv col es0
      induction ds with
      | nil => cases hd'
      | cons x xs ih =>
        show d.depth ≤ max x.depth (PyData.depthAll xs)
        rcases List.mem_cons.mp hd' with rfl | hb
        · exact Nat.le_max_left _ _
        · exact Nat.le_trans (ih (plainAll_cons h2).2 (Nat.le_trans (Nat.le_max_right _ _) h3) (Nat.le_of_succ_le h5) hb) (Nat.le_max_right _ _)
    show X.A.units + 1 + 1 + d.depth < cLine
    omega
  have S := PySem.W.SortsAt.data (prog := X.prog) (w := X.w) (A := X.A.in1.in1) (s := { s1 with heap := PySem.W.sortingHeap (s1.heap.push (seqObj "list" its.toArray 0)) s1.heap.objs.size its }) es h1 h4 dep
  have sd := PySem.W.sortVals_data (h' := PySem.W.sortingHeap (s1.heap.push (seqObj "list" its.toArray 0)) s1.heap.objs.size its) (R := Sd X.K H P) (enc := fun d : PyData => d) false (sd_of r rv) es (by simpa using h1)
  show wpAny _ _ _ _ _ { s1 with heap := s1.heap.push (seqObj "list" its.toArray 0) }
  refine wpAny_bind (wpAny_holding (wpAny_call_entry PyProof.Rows.slot_list_sort ⟨_, hoL, rfl⟩ PyProof.Rows.entry_list_sort
    (PySem.W.list_sort_vals (s := { s1 with heap := s1.heap.push (seqObj "list" its.toArray 0) }) hoL S (by rw [hl]; exact h5) ⟨_, rfl, ?_⟩)
    (PyProof.Rows.args_list_sort _)))
  obtain ⟨ws, rw1, rw2⟩ := of_sd sd
  obtain ⟨e', he'⟩ := PyProof.Rows.sortedHeap_at (vs := its) (out := (PySem.W.sortVals (PySem.W.dataKind (PySem.W.sortingHeap (s1.heap.push (seqObj "list" its.toArray 0)) s1.heap.objs.size its) ds) false its its).toArray) hoL
  have hlen : ws.length ≤ sizeLine := by rw [rw1.length, List.length_mergeSort]; exact h5
  refine wpAny_pure ⟨_, rfl, .ref s1.heap.objs.size, upd H s1.heap.objs.size (.lst ws), I1.laid (t' := s1.toks) (fun b u e => ?_) (Nat.le_refl _)
    (show ObjOk X.prog X.w _ _ _ (.lst ws) from ⟨hlen, _, e', by simpa using rw2, by simpa using he'⟩), rfl, w.lst ?_ _ (I1.hok.fresh (Nat.le_refl _))⟩
  · have hb : b < s1.heap.objs.size := Heap.lt_size e
    rw [PyProof.Rows.sortedHeap_old (Nat.ne_of_lt hb) (by rw [size_push']; exact Nat.lt_succ_of_lt hb)]
    exact Heap.get?_push_of_some _ e
  · exact rw1
end
theorem keysD_dat : ∀ {xs : List PyData} {ks : List (Sum Int Str)}, keysD xs = some ks → xs = ks.map keyDat
  | [], ks, h => by cases h; rfl
  | x :: xs, ks, h => by
    simp only [keysD] at h
    obtain ⟨k, h1, h⟩ := bind_some h
    obtain ⟨ks', h2, h⟩ := bind_some h
    cases h
    rw [List.map_cons, ← keysD_dat h2]
    congr 1
    cases x <;> simp [keyD] at h1 <;> subst h1 <;> rfl
theorem dedupK_mem : ∀ (ks : List (Sum Int Str)) (k : Sum Int Str), k ∈ dedupK ks ↔ k ∈ ks
  | [], k => by simp [dedupK]
  | x :: ks, k => by
    simp only [dedupK, List.mem_cons, List.mem_filter, dedupK_mem ks]
    by_cases h : k = x <;> simp [h]
theorem dedupK_nodup : ∀ ks : List (Sum Int Str), (dedupK ks).Nodup
  | [] => by simp [dedupK]
  | x :: ks => by
    simp only [dedupK, List.nodup_cons]
    exact ⟨by simp, (dedupK_nodup ks).filter _⟩
theorem dedupK_len : ∀ ks : List (Sum Int Str), (dedupK ks).length ≤ ks.length
  | [] => Nat.le_refl _
  | x :: ks => by
    have := dedupK_len ks
    have := List.length_filter_le (fun j => !decide (j = x)) (dedupK ks)
    simp only [dedupK, List.length_cons]
    omega
theorem sortOk_sub {xs ys : List PyData} (h : sortOk xs = true) (hs : ∀ y, y ∈ ys → y ∈ xs) (hl : ys.length ≤ xs.length) : sortOk ys = true := by
  rw [sortOk_eq] at h ⊢
  simp only [Bool.and_eq_true, Bool.or_eq_true, decide_eq_true_eq] at h ⊢
  obtain ⟨⟨⟨h1, h2⟩, h3⟩, h4⟩ := h
  refine ⟨⟨⟨alk_all.mpr ((alk_all.mp h1).sub hs), ?_⟩, ?_⟩, Nat.le_trans hl h4⟩
  · rw [okD_list] at h2 ⊢
    exact List.all_eq_true.mpr fun y hy => List.all_eq_true.mp h2 y (hs y hy)
  · exact h3.imp (fun z => List.all_eq_true.mpr fun y hy => List.all_eq_true.mp z y (hs y hy)) fun z => List.all_eq_true.mpr fun y hy => List.all_eq_true.mp z y (hs y hy)
theorem rp_keys {K : PySem.W.Frag} {H : Hp} {P : Addr → Prop} : ∀ ks : List L2.Key, RpAll K H P (ks.map kV) (ks.map keyDat)
  | [] => .nil
  | .inl i :: ks => .cons (.int i) (rp_keys ks)
  | .inr x :: ks => .cons (.str x) (rp_keys ks)
theorem keys_rpV {K : PySem.W.Frag} {H : Hp} {P : Addr → Prop} : ∀ {ks : List L2.Key} {vs : List V}, RpAll K H P vs (ks.map keyDat) → vs = ks.map kV
  | [], _, .nil => rfl
  | .inl i :: ks, _, .cons (.int _) rs => by rw [keys_rpV rs]; rfl
  | .inr x :: ks, _, .cons (.str _) rs => by rw [keys_rpV rs]; rfl
theorem vals_keys : ∀ {its : List Value}, (∀ v, v ∈ its → ∃ k : L2.Key, RelV (kV k) v) → Vals ((its.map kofV).map kV) its
  | [], _ => .nil
  | v :: its, h => by
    obtain ⟨k, r⟩ := h v (List.mem_cons_self ..)
    refine .cons ?_ (vals_keys fun u hu => h u (List.mem_cons_of_mem _ hu))
    rw [kof_rel r]; exact r
section
variable {X : Cx} {Φ : Nat → List PyData → Option (PyData × List PyData)} {gl : List PyData} {a : Expr} {ea : E} {pos p p2 q : Pos}
theorem e_sortedSet (hg : Gl X "sorted") (hm : X.mg "sorted" = none) (hg2 : Gl X "set") (hm2 : X.mg "set" = none) (ha : PEv X Φ gl a ea) (hc : X.calm = true) (hu : X.A.units + 70 < cLine)
    (na : starEach [a] X.env = (false, eval a X.env) :: starEach [] X.env := by rfl) : PEv X Φ gl (.Call (.Name "sorted" p) [.Call (.Name "set" p2) [a] [] q] [] pos) (.bi .sortedSet (.cons ea .nil)) := by
  refine ⟨fun pins s σ H Q I ⟨F, ρ, d, fl, ρ', en, sa, sm, h, w⟩ => ?_⟩
  simp only [ev, evs] at h
  obtain ⟨⟨ds, ρ1⟩, h1, h⟩ := bind_some h
  obtain ⟨⟨x, fx, ρ2⟩, h2, h1⟩ := bind_some h1
  cases h1
  obtain ⟨⟨d', f'⟩, h3, h⟩ := bind_some h
  cases h
  refine Call_ (ld_blt I hg hm (show bootBuiltins "sorted" = some (.builtin "sorted") from rfl) ?_)
  refine PyProof.Rows.callWith_builtin1 (PyProof.Rows.args_cons ?_ rfl) rfl rfl
  refine Call_ (ld_blt I hg2 hm2 boot_set ?_)
  refine PyProof.Rows.callWith_type1 (PyProof.Rows.args_cons (thn (ha.run pins s σ H _ I (one (Q := fun v H1 => ∃ l ks, v = .ref l ∧ SqL X.K H1 l (ks.map kV) ∧ sortOk (ks.map keyDat) = true ∧ ks.length < 4000 ∧ WantP X.K F.P H1 Q (.list (sortD ((dedupK ks).map keyDat))) .fr) en (by simpa [als, alss] using sa) (by simpa [mods, modss] using sm) h2 fun v H1 en1 k1 r1 => ?_)) fun v s1 ⟨x, H1, I1, r1, q1⟩ => PyProof.Rows.args_nil ?_) na) na rfl
  · replace h3 : v_sortedSet [x] = some (d', f') := h3
    simp only [v_sortedSet] at h3
    cases x with
    | list xs =>
      try dsimp only at h3
      obtain ⟨ks, h4, h5⟩ := bind_some h3
      clear h3
      split at h5
      · rename_i hz
        rw [Bool.and_eq_true, decide_eq_true_eq] at hz
        have ex := keysD_dat h4
        subst ex
        cases h5
        cases r1.rp with
        | lst n hh ra =>
          have := keys_rpV ra
          subst this
          exact ⟨_, ks, rfl, .inl (.inl hh), hz.1, by simpa using hz.2, fin en1 k1 w⟩
      · cases h5
    | _ => simp at h3
  · obtain ⟨l, ks, rfl, hq, ok, hl, w1⟩ := q1
    cases r1
    obtain ⟨its, r, pl, hz⟩ := I1.list hq
    refine setM_list ks (I1.ok.hd hc) pl.isList (by simpa using r) (by unfold scanBound; omega) fun h' tk c hS hcl hk => ?_
    refine PyProof.Rows.args_nil ?_
    have I2 : Inv X pins σ H1 { s1 with heap := h', toks := tk } := I1.kept hk
    refine sortedCE hu w1 fun E Q' hQ => ?_
    obtain ⟨o, es, ep, t, ho, hex, hd, g, nd, hm, hb, hf, hn, hr, hl2⟩ := hS
    refine collect_set (A := X.A.in1) (by simpa using I2.ok.hd hc) ⟨o, ho, hex.1, hd⟩ hf hb hr hl2 fun s' out k1 hz g1 o1 pm => ?_
    have I3 : Inv X pins σ H1 s' := I2.call' (ch := []) o1 (Un.kept k1) (I2.hok.kept k1) (by rw [g1]; exact I2.bare) (fun _ z => nomatch z)
    have hv : ∀ v, v ∈ out → ∃ k : L2.Key, RelV (kV k) v := fun v hv => by
      obtain ⟨e, he, rfl⟩ := List.mem_map.mp (pm.mem_iff.mp hv)
      obtain ⟨k, h1, _⟩ := g e he
      exact ⟨k, h1⟩
    have pk : (out.map kofV).Perm (es.toList.map keyM) := by
      have := pm.map kofV
      rwa [List.map_map] at this
    have mem : ∀ k, k ∈ out.map kofV ↔ k ∈ ks := fun k => by rw [pk.mem_iff, ← hm k, memK_iff]
    have pd : ((out.map kofV).map keyDat).Perm ((dedupK ks).map keyDat) := List.Perm.map _ ((List.perm_ext_iff_of_nodup (pk.nodup_iff.mpr nd) (dedupK_nodup ks)).mpr fun k => (mem k).trans (dedupK_mem ks k).symm)
    have hsub : ∀ y, y ∈ (out.map kofV).map keyDat → y ∈ ks.map keyDat := fun y hy => by
      obtain ⟨k, hk, rfl⟩ := List.mem_map.mp hy
      exact List.mem_map.mpr ⟨k, (mem k).mp hk, rfl⟩
    have hlen : ((out.map kofV).map keyDat).length ≤ (ks.map keyDat).length := by
      have := pd.length_eq
      have := dedupK_len ks
      simp at this ⊢
      simp at pd
      have q := pd.length_eq
      simp at q
      omega
    have ok2 := sortOk_sub ok hsub hlen
    refine hQ out s' _ _ I3 (vals_keys hv) (rp_keys _) ok2 (sortD_congr ?_ pd)
    rw [sortOk_eq] at ok2
    simp only [Bool.and_eq_true] at ok2
    exact alk_all.mp ok2.1.1.1
end
end PP

namespace PP
open PySem PySem.Spec PyProof.Rows L2
/-! PP34: sets of texts, sorted; dicts put together; comprehensions of two clauses. -/
open PySem.W
def unS : PyData → Str
  | .str s => s
  | _ => Str.ofString ""
def sortS (xs : List Str) : List Str := (sortD (xs.map .str)).map unS
theorem sortS_eq (xs : List Str) : sortD (xs.map .str) = (sortS xs).map .str := by
  unfold sortS
  rw [List.map_map]
  conv => lhs; rw [← List.map_id (sortD (xs.map .str))]
  apply List.map_congr_left
  intro d hd
  obtain ⟨s, _, rfl⟩ := List.mem_map.mp (mem_sortD.mp hd)
  rfl
theorem str_inj {xs ys : List Str} (h : xs.map PyData.str = ys.map PyData.str) : xs = ys := (List.map_inj_right fun x y e => PyData.str.inj e).mp h
theorem sortS_perm (xs : List Str) : (sortS xs).Perm xs := by
  have h := (sortD_perm (xs.map .str)).map unS
  rw [List.map_map] at h
  have e : xs.map (unS ∘ PyData.str) = xs := List.map_id xs
  rw [e] at h
  exact h
theorem sortS_mem {xs : List Str} {q : Str} : q ∈ sortS xs ↔ q ∈ xs := (sortS_perm xs).mem_iff
theorem sortS_len (xs : List Str) : (sortS xs).length = xs.length := (sortS_perm xs).length_eq
theorem sortS_congr {xs ys : List Str} (h : xs.Perm ys) : sortS xs = sortS ys := str_inj (by rw [← sortS_eq, ← sortS_eq]; exact sortD_congr (alk_strs xs) (h.map _))
theorem sortS_set {xs ys : List Str} (hx : xs.Nodup) (hy : ys.Nodup) (h : ∀ q, q ∈ xs ↔ q ∈ ys) : sortS xs = sortS ys := sortS_congr ((List.perm_ext_iff_of_nodup hx hy).mpr h)
def dedupS : List Str → List Str
  | [] => []
  | x :: xs => x :: (dedupS xs).filter fun y => !decide (y = x)
theorem dedupS_mem : ∀ (xs : List Str) (q : Str), q ∈ dedupS xs ↔ q ∈ xs
  | [], q => by simp [dedupS]
  | x :: xs, q => by
    simp only [dedupS, List.mem_cons, List.mem_filter, dedupS_mem xs]
    by_cases h : q = x <;> simp [h]
theorem dedupS_nodup : ∀ xs : List Str, (dedupS xs).Nodup
  | [] => by simp [dedupS]
  | x :: xs => by
    simp only [dedupS, List.nodup_cons]
    exact ⟨by simp, (dedupS_nodup xs).filter _⟩
theorem dedupS_len : ∀ xs : List Str, (dedupS xs).length ≤ xs.length
  | [] => Nat.le_refl _
  | x :: xs => by
    have := dedupS_len xs
    have := List.length_filter_le (fun j => !decide (j = x)) (dedupS xs)
    simp only [dedupS, List.length_cons]
    omega
theorem dedupK_strs : ∀ xs : List Str, (dedupK (xs.map .inr)).map keyDat = (dedupS xs).map .str
  | [] => rfl
  | x :: xs => by
    simp only [List.map_cons, dedupK, dedupS]
    have ih := dedupK_strs xs
    congr 1
    have hk : ∀ (ks : List (Sum Int Str)) (ys : List Str), ks.map keyDat = ys.map .str → (ks.filter fun j => !decide (j = .inr x)).map keyDat = (ys.filter fun y => !decide (y = x)).map .str := by
      intro ks
      induction ks with
      | nil => intro ys h; cases ys with
               | nil => rfl
               | cons _ _ => cases h
      | cons k ks ih =>
        intro ys h
        cases ys with
        | nil => cases h
        | cons y ys =>
          simp only [List.map_cons, List.cons.injEq] at h
          obtain ⟨h1, h2⟩ := h
          have := ih ys h2
          cases k with
          | inl i => cases h1
          | inr z =>
            obtain rfl : z = y := PyData.str.inj h1
            by_cases hz : z = x
            · subst hz; simpa using this
            · simp [hz, this, keyDat]
    exact hk _ _ ih
/-- the set of texts, ascending -/
def setS (xs : List Str) : List Str := sortS (dedupS xs)
theorem setS_mem {xs : List Str} {q : Str} : q ∈ setS xs ↔ q ∈ xs := sortS_mem.trans (dedupS_mem xs q)
theorem setS_nodup (xs : List Str) : (setS xs).Nodup := (sortS_perm _).nodup_iff.mpr (dedupS_nodup xs)
theorem setS_len (xs : List Str) : (setS xs).length ≤ xs.length := by unfold setS; rw [sortS_len]; exact dedupS_len xs
theorem setS_eq {xs ys : List Str} (h : ∀ q, q ∈ xs ↔ q ∈ ys) : setS xs = setS ys := sortS_set (dedupS_nodup xs) (dedupS_nodup ys) fun q => by rw [dedupS_mem, dedupS_mem]; exact h q
theorem sortS_setS {xs ys : List Str} (hx : xs.Nodup) (h : ∀ q, q ∈ xs ↔ q ∈ ys) : sortS xs = setS ys := sortS_set hx (dedupS_nodup ys) fun q => by rw [dedupS_mem]; exact h q
theorem keysD_strs (xs : List Str) : keysD (xs.map .str) = some (xs.map .inr) := by
  induction xs with
  | nil => rfl
  | cons x xs ih => simp [keysD, keyD, ih]
theorem v_sortedSet_strs (xs : List Str) (h : xs.length < 4000) : v_sortedSet [.list (xs.map .str)] = some (.list ((setS xs).map .str), .fr) := by
  have hz : (4000 : Nat) ≤ sizeLine := by decide
  simp only [v_sortedSet, keysD_strs, Option.bind_eq_bind, Option.bind_some, sortOk_strs (xs := xs) (by omega), dedupK_strs, sortS_eq]
  simp [h, setS]
theorem v_sorted_strs (xs : List Str) (h : xs.length < 4000) : v_sorted [.list (xs.map .str)] = some (.list ((sortS xs).map .str), .fr) := by
  have hz : (4000 : Nat) ≤ sizeLine := by decide
  simp only [v_sorted, sortOk_strs (xs := xs) (by omega), if_true, sortS_eq]
/-- sorted(d), the keys texts -/
theorem v_sorted_dS {β : Type} (f : β → PyData) (xs : List (Str × β)) (h : xs.length < 4000) : v_sorted [.dict (dA f xs)] = some (.list ((sortS (xs.map (·.1))).map .str), .fr) := by
  have hz : (4000 : Nat) ≤ sizeLine := by decide
  have hk : (dA f xs).map (·.1) = (xs.map (·.1)).map .str := dA_keys f xs
  simp only [v_sorted, hk, sortOk_strs (xs := xs.map (·.1)) (by rw [List.length_map]; omega), if_true, sortS_eq]
/-! dicts put together -/
def mrgA {κ β : Type} [DecidableEq κ] (xs ys : List (κ × β)) : List (κ × β) := ys.foldl (fun m p => putA m p.1 p.2) xs
theorem mrgA_len {κ β : Type} [DecidableEq κ] : ∀ (ys xs : List (κ × β)), (mrgA xs ys).length ≤ xs.length + ys.length
  | [], xs => by simp [mrgA]
  | y :: ys, xs => by
    have h1 := mrgA_len ys (putA xs y.1 y.2)
    have h2 := putA_len xs y.1 y.2
    have e : mrgA xs (y :: ys) = mrgA (putA xs y.1 y.2) ys := rfl
    rw [e, List.length_cons]; omega
theorem mkA_len {κ β : Type} [DecidableEq κ] (ps : List (κ × β)) : (mkA ps).length ≤ ps.length := by
  have := mrgA_len ps []
  simpa [mkA, mrgA] using this
section
variable {κ β : Type} [DecidableEq κ] [Key κ] (f : β → PyData)
theorem mergeD_A : ∀ (ys xs : List (κ × β)), mergeD (dA f xs) (dA f ys) = dA f (mrgA xs ys)
  | [], xs => rfl
  | y :: ys, xs => by
    have ih := mergeD_A ys (putA xs y.1 y.2)
    unfold mergeD at ih ⊢
    show List.foldl _ (match dkey (ek y.1) with | some k => dput (dA f xs) k (ek y.1) (f y.2) | none => dA f xs) (dA f ys) = _
    rw [show dkey (ek y.1) = some (Key.dk y.1) from Key.ok y.1]
    simp only [dA_put]
    exact ih
theorem plain_A (hs : ∀ k : κ, (Key.dk k).isLeft = true) (xs : List (κ × β)) : (dA f xs).all plainKey = true := by
  rw [List.all_eq_true]
  intro p hp
  obtain ⟨q, _, rfl⟩ := List.mem_map.mp hp
  obtain ⟨k, e⟩ := Sum.isLeft_iff.mp (hs q.1)
  unfold plainKey
  show (match dkey (ek q.1) with | some (.inl _) => true | _ => false) = true
  rw [show dkey (ek q.1) = some (Key.dk q.1) from Key.ok q.1, e]
theorem mut_update (hs : ∀ k : κ, (Key.dk k).isLeft = true) (xs ys : List (κ × β)) (h : xs.length + ys.length ≤ sizeLine) : mutV "update" (.dict (dA f xs)) (.dict (dA f ys)) = some (.dict (dA f (mrgA xs ys))) := by
  have e : mutV "update" (.dict (dA f xs)) (.dict (dA f ys)) = if (dA f xs).all plainKey && (dA f ys).all plainKey && decide ((dA f xs).length + (dA f ys).length ≤ sizeLine) then some (.dict (mergeD (dA f xs) (dA f ys))) else none := rfl
  rw [e, plain_A f hs, plain_A f hs, dA_len, dA_len, mergeD_A]
  simp [h]
end
@[simp] theorem mKind_update {xs : List (PyData × PyData)} : mKind "update" (.dict xs) = true := id rfl
/-! two clauses -/
section
variable {Φ : Nat → List PyData → Option (PyData × List PyData)} {gl : List PyData} {g : G} {c e : E} {vs : List Nat}
theorem compE2_pf {α β : Type} {ρ : PEnv} {vs1 : List Nat} {g1 : G} {it1 : I} {c1 : E} (it : α → PyData) (gi : α → List β) (iti : β → PyData) (p : α → β → Bool) (f : α → β → PyData) (m : Nat) (xs : List α) (acc : List PyData) (hl : acc.length + m * xs.length ≤ sizeLine)
    (h : ∀ x, x ∈ xs → (gi x).length ≤ m ∧ ∃ ρ1, asgG g (it x) ρ = some ρ1 ∧ evi Φ gl it1 ρ1 = some ((gi x).map iti, ρ1) ∧ wipeP ρ1 vs1 = ρ1 ∧ wipeP ρ1 vs = ρ ∧
      ∀ y, y ∈ gi x → ∃ ρ2 fl, asgG g1 (iti y) ρ1 = some ρ2 ∧ ev Φ gl c1 ρ2 = some (.bool (p x y), .sh, ρ2) ∧ (p x y = true → ev Φ gl e ρ2 = some (f x y, fl, ρ2)) ∧ wipeP ρ2 vs1 = ρ1) :
    compE2 Φ gl vs vs1 g (.bl true) g1 it1 c1 e (xs.map it) acc ρ = some (acc ++ xs.flatMap fun x => ((gi x).filter (p x)).map (f x), ρ) := by
  rw [compE2_f it (fun x => ((gi x).filter (p x)).map (f x)) m xs acc hl (fun x hx => by
    obtain ⟨h1, ρ1, h2, h3, h4, h5, h6⟩ := h x hx
    refine ⟨by rw [List.length_map]; exact Nat.le_trans (List.length_filter_le ..) h1, ρ1, _, ρ1, h2, h3, fun acc ha => ⟨ρ1, ?_, h5⟩⟩
    rw [h4]
    exact compE_pf iti (p x) (f x) (gi x) acc (by omega) h6), List.flatMap_def]
end
end PP

namespace PP
open PySem PySem.Spec PyProof.Rows L2
/-! PP35: each once, as first met. -/
def firstsQ (q : Str → Bool) (xs : List Str) : List Str := (xs.zipIdx.filter fun z => q z.1 && !decide (z.1 ∈ xs.take z.2)).map (·.1)
theorem firsts_fold (q : Str → Bool) : ∀ (xs pre s : List Str), (∀ y, y ∈ s ↔ y ∈ pre ∧ q y = true) → xs.foldl (fun s x => if q x = true ∧ x ∉ s then s ++ [x] else s) s = s ++ ((xs.zipIdx pre.length).filter fun z => q z.1 && !decide (z.1 ∈ (pre ++ xs).take z.2)).map (·.1)
  | [], pre, s, _ => by simp
  | x :: xs, pre, s, h => by
    have ht : (pre ++ x :: xs).take pre.length = pre := by simp
    rw [List.foldl_cons, List.zipIdx_cons, List.filter_cons]
    simp only [ht]
    have e : pre ++ x :: xs = (pre ++ [x]) ++ xs := by simp
    have hl : (pre ++ [x]).length = pre.length + 1 := by simp
    by_cases hq : q x = true
    · by_cases hx : x ∈ s
      · have hp : x ∈ pre := ((h x).mp hx).1
        have ih := firsts_fold q xs (pre ++ [x]) s fun y => by
          rw [h, List.mem_append, List.mem_singleton]
          constructor
          · rintro ⟨h1, h2⟩; exact ⟨.inl h1, h2⟩
          · rintro ⟨h1 | rfl, h2⟩
            · exact ⟨h1, h2⟩
            · exact ⟨hp, h2⟩
        rw [hl, ← e] at ih
        simp [hq, hx, hp, ih]
      · have hp : x ∉ pre := fun z => hx ((h x).mpr ⟨z, hq⟩)
        have ih := firsts_fold q xs (pre ++ [x]) (s ++ [x]) fun y => by
          rw [List.mem_append, List.mem_append, h, List.mem_singleton]
          constructor
          · rintro (⟨h1, h2⟩ | rfl)
            · exact ⟨.inl h1, h2⟩
            · exact ⟨.inr rfl, hq⟩
          · rintro ⟨h1 | rfl, h2⟩
            · exact .inl ⟨h1, h2⟩
            · exact .inr rfl
        rw [hl, ← e] at ih
        simp [hq, hx, hp, ih]
    · have ih := firsts_fold q xs (pre ++ [x]) s fun y => by
        rw [h, List.mem_append, List.mem_singleton]
        constructor
        · rintro ⟨h1, h2⟩; exact ⟨.inl h1, h2⟩
        · rintro ⟨h1 | rfl, h2⟩
          · exact ⟨h1, h2⟩
          · exact absurd h2 hq
      rw [hl, ← e] at ih
      simp [hq, ih]
theorem firstsQ_fold (q : Str → Bool) (xs : List Str) : xs.foldl (fun s x => if q x = true ∧ x ∉ s then s ++ [x] else s) [] = firstsQ q xs := by
  have := firsts_fold q xs [] [] (by simp)
  simpa [firstsQ] using this
theorem firstsQ_len (q : Str → Bool) (xs : List Str) : (firstsQ q xs).length ≤ xs.length := by
  unfold firstsQ
  rw [List.length_map]
  exact Nat.le_trans (List.length_filter_le ..) (by simp)
end PP

namespace PP
open PySem PySem.Spec PyProof.Rows L2
/-! a walk with a state that may end in a return -/
section
variable {Φ : Nat → List PyData → Option (PyData × List PyData)} {gl : List PyData} {ios : List Nat} {g : G} {b : Ss} {dead : List Nat}
theorem forE_stop {σ α : Type} (E : σ → PEnv) (enc : α → PyData) (q : α → Option PyData) (step : σ → α → σ) (I : σ → Nat → Prop) : ∀ (xs : List α) (s : σ) (ρ : PEnv), wipeP ρ dead = E s → I s xs.length → (∀ s x n, x ∈ xs → I s (n + 1) → (q x = none → turnE Φ gl ios g b dead (enc x) (E s) = some (.nx (E (step s x))) ∧ I (step s x) n) ∧ ∀ v, q x = some v → ∃ ρ', turnE Φ gl ios g b dead (enc x) (E s) = some (.rt v ρ')) →
    (match xs.findSome? q with | none => forE Φ gl ios g b dead (xs.map enc) ρ = some (.nx (E (xs.foldl step s))) | some v => ∃ ρ', forE Φ gl ios g b dead (xs.map enc) ρ = some (.rt v ρ'))
  | [], s, ρ, h, _, _ => by
    show forE Φ gl ios g b dead [] ρ = some (.nx (E s))
    rw [← h]; exact loop_nil
  | x :: xs, s, ρ, h, hi, hs => by
    obtain ⟨ha, hb⟩ := hs s x xs.length (List.mem_cons_self ..) hi
    cases e : q x with
    | none =>
      obtain ⟨h1, h2⟩ := ha e
      obtain ⟨ρ1, ρ2, e1, e2, e3⟩ := turn_nx h1
      have ih := forE_stop E enc q step I xs (step s x) ρ2 e3 h2 fun s y n hy => hs s y n (List.mem_cons_of_mem _ hy)
      rw [List.findSome?_cons, e]
      revert ih
      cases xs.findSome? q with
      | none => intro ih; exact loop_cons ρ1 ρ2 (by rw [h]; exact e1) e2 ih
      | some v =>
        rintro ⟨ρ', ih⟩
        exact ⟨ρ', loop_cons ρ1 ρ2 (by rw [h]; exact e1) e2 ih⟩
    | some v =>
      obtain ⟨ρ', h3⟩ := hb v e
      obtain ⟨ρ1, e1, e2⟩ := turn_rt h3
      rw [List.findSome?_cons, e]
      exact ⟨ρ', loop_ret ρ1 ρ' (by rw [h]; exact e1) e2⟩
end
/-- the first that is so, by a fold -/
theorem fold_first {α : Type} (p : α → Bool) : ∀ (xs : List α) (s : Option α), xs.foldl (fun s x => if s.isNone && p x then some x else s) s = s.or (xs.find? p)
  | [], s => by cases s <;> rfl
  | x :: xs, s => by
    rw [List.foldl_cons, fold_first p xs, List.find?_cons]
    cases s <;> cases h : p x <;> simp
theorem findSome_if {α β : Type} (p : α → Bool) (f : α → β) (xs : List α) : xs.findSome? (fun x => if p x = true then some (f x) else none) = (xs.find? p).map f := by
  induction xs with
  | nil => rfl
  | cons x xs ih => rw [List.findSome?_cons, List.find?_cons]; cases h : p x <;> simp [ih]
@[simp] theorem optI_n : optI none = some none := id rfl
@[simp] theorem optI_s (i : Int) : optI (some (.int i)) = some (some i) := id rfl
@[simp] theorem immAll_strs (xs : List Str) : immAll (xs.map PyData.str) = true := by induction xs <;> simp [*]
theorem mul_small (x : Int) {k : Int} (h0 : -1000 ≤ k) (h : k ≤ 1000) : mulOk x k = true := by simp [mulOk]; omega
end PP

namespace PP
open PySem PySem.Spec PyProof.Rows L2
section
variable {Φ : Nat → List PyData → Option (PyData × List PyData)} {gl : List PyData} {ios : List Nat} {c : E} {b : Ss} {dead : List Nat}
/-- a loop with a state and a word that stays -/
theorem whileE_iterI {σ : Type} (E : σ → PEnv) (step : σ → σ) (p : σ → Bool) (I : σ → Nat → Prop) (hs : ∀ s n, I s n → ∃ ρ1, evT Φ gl c (E s) = some (p s, ρ1) ∧ (p s = false → ρ1 = E s) ∧ (p s = true → ∀ n', n = n' + 1 → I (step s) n' ∧ ∃ ρ2, runs Φ gl ios b ρ1 = some (.nx ρ2) ∧ wipeP ρ2 dead = E (step s))) : ∀ (k m : Nat) (s : σ) (ρ : PEnv), wipeP ρ dead = E s → I s k → (∀ i, i < k → p (iter step i s) = true) → p (iter step k s) = false → k < m → whileE Φ gl ios c b dead m ρ = some (.nx (E (iter step k s)))
  | _, 0, _, _, _, _, _, _, hm => absurd hm (Nat.not_lt_zero _)
  | 0, m + 1, s, ρ, h, hi, _, hf, _ => by
    obtain ⟨ρ1, h1, h2, _⟩ := hs s 0 hi
    have hf : p s = false := hf
    unfold whileE
    simp only [whileL, h, h1, Option.bind_eq_bind, Option.bind_some, hf, h2 hf]
    rfl
  | k + 1, m + 1, s, ρ, h, hi, ht, hf, hm => by
    obtain ⟨ρ1, h1, _, h3⟩ := hs s (k + 1) hi
    have hp : p s = true := ht 0 (Nat.succ_pos _)
    obtain ⟨hi2, ρ2, h4, h5⟩ := h3 hp k rfl
    have ih := whileE_iterI E step p I hs k m (step s) ρ2 h5 hi2 (fun i hi => ht (i + 1) (Nat.succ_lt_succ hi)) hf (Nat.lt_of_succ_lt_succ hm)
    unfold whileE at ih ⊢
    simp only [whileL, h, h1, Option.bind_eq_bind, Option.bind_some, hp, h4]
    exact ih
end
theorem nodup_sub_len {α : Type} [DecidableEq α] : ∀ (xs U : List α), xs.Nodup → (∀ x, x ∈ xs → x ∈ U) → xs.length ≤ U.length
  | [], U, _, _ => Nat.zero_le _
  | x :: xs, U, hn, h => by
    rw [List.nodup_cons] at hn
    have hx := h x (List.mem_cons_self ..)
    have := nodup_sub_len xs (U.erase x) hn.2 fun y hy => by
      have : y ≠ x := fun e => hn.1 (e ▸ hy)
      exact (List.mem_erase_of_ne this).mpr (h y (List.mem_cons_of_mem _ hy))
    rw [List.length_erase_of_mem hx] at this
    have : 0 < U.length := List.length_pos_of_mem hx
    rw [List.length_cons]
    omega
/-! comprehensions whose test draws -/
section
variable {Φ : Nat → List PyData → Option (PyData × List PyData)} {gl : List PyData}
theorem compXc {vs : List Nat} {g : G} {c e : E} (I : PEnv → Prop) (P : PyData → Prop) : ∀ (ds acc : List PyData) (ρ : PEnv), I ρ → (∀ ρ d, I ρ → d ∈ ds → ∃ ρ1 b fl ρ2, asgG g d ρ = some ρ1 ∧ ev Φ gl c ρ1 = some (.bool b, fl, ρ2) ∧ (b = false → I (wipeP ρ2 vs)) ∧ (b = true → ∃ v fl3 ρ3, ev Φ gl e ρ2 = some (v, fl3, ρ3) ∧ P v ∧ I (wipeP ρ3 vs))) → acc.length + ds.length ≤ sizeLine →
    ∃ out ρ', compE Φ gl vs g c e ds acc ρ = some (acc ++ out, ρ') ∧ I ρ' ∧ out.length ≤ ds.length ∧ ∀ v, v ∈ out → P v
  | [], acc, ρ, h, _, _ => ⟨[], ρ, by simp [compE, compL, compL2], h, by simp, nofun⟩
  | d :: ds, acc, ρ, h, hs, hl => by
    obtain ⟨ρ1, b, fl, ρ2, h1, h2, h3, h4⟩ := hs ρ d h (List.mem_cons_self ..)
    cases b with
    | false =>
      obtain ⟨out, ρ', e1, e2, e3, e4⟩ := compXc (vs := vs) (g := g) (c := c) (e := e) I P ds acc (wipeP ρ2 vs) (h3 rfl) (fun ρ d hi hd => hs ρ d hi (List.mem_cons_of_mem _ hd)) (by simp at hl ⊢; omega)
      refine ⟨out, ρ', ?_, e2, by simp; omega, e4⟩
      unfold compE compL at e1 ⊢
      simp only [compL2, h1, h2, Option.bind_eq_bind, Option.bind_some]
      exact e1
    | true =>
      obtain ⟨v, fl3, ρ3, h5, h6, h7⟩ := h4 rfl
      obtain ⟨out, ρ', e1, e2, e3, e4⟩ := compXc (vs := vs) (g := g) (c := c) (e := e) I P ds (acc ++ [v]) (wipeP ρ3 vs) h7 (fun ρ d hi hd => hs ρ d hi (List.mem_cons_of_mem _ hd)) (by simp at hl ⊢; omega)
      refine ⟨v :: out, ρ', ?_, e2, by simp; omega, fun x hx => ?_⟩
      · have : acc.length < sizeLine := by simp at hl; omega
        unfold compE compL at e1 ⊢
        simp only [compL2, h1, h2, addV, h5, Option.bind_eq_bind, Option.bind_some, if_pos this]
        rw [e1, List.append_assoc]
        rfl
      · rcases List.mem_cons.mp hx with rfl | hx
        · exact h6
        · exact e4 x hx
end
end PP

namespace PP
open PySem PySem.Spec PyProof.Rows L2
/-! PP38: a comprehension whose items draw, item by item -/
section
variable {Φ : Nat → List PyData → Option (PyData × List PyData)} {gl : List PyData}
theorem compXr {α β : Type} {vs : List Nat} {g : G} {e : E} (enc : α → PyData) (dec : β → PyData) (I : PEnv → Prop) (R : α → β → Prop) : ∀ (xs : List α) (acc : List PyData) (ρ : PEnv), I ρ → (∀ ρ x, I ρ → x ∈ xs → ∃ ρ1 b fl ρ2, asgG g (enc x) ρ = some ρ1 ∧ ev Φ gl e ρ1 = some (dec b, fl, ρ2) ∧ R x b ∧ I (wipeP ρ2 vs)) → acc.length + xs.length ≤ sizeLine →
    ∃ (ys : List β) (ρ' : PEnv), compE Φ gl vs g (.bl true) e (xs.map enc) acc ρ = some (acc ++ ys.map dec, ρ') ∧ I ρ' ∧ ys.length = xs.length ∧ ∀ p, p ∈ xs.zip ys → R p.1 p.2
  | [], acc, ρ, h, _, _ => ⟨[], ρ, by simp [compE, compL, compL2], h, rfl, nofun⟩
  | x :: xs, acc, ρ, h, hs, hl => by
    obtain ⟨ρ1, b, fl, ρ2, h1, h2, h3, h4⟩ := hs ρ x h (List.mem_cons_self ..)
    obtain ⟨ys, ρ', e1, e2, e3, e4⟩ := compXr (vs := vs) (g := g) (e := e) enc dec I R xs (acc ++ [dec b]) (wipeP ρ2 vs) h4 (fun ρ d hi hd => hs ρ d hi (List.mem_cons_of_mem _ hd)) (by simp at hl ⊢; omega)
    refine ⟨b :: ys, ρ', ?_, e2, by simp [e3], fun p hp => ?_⟩
    · have : acc.length < sizeLine := by simp at hl; omega
      unfold compE compL at e1 ⊢
      simp only [ev_bl] at e1
      simp only [List.map_cons, compL2, h1, ev_bl, addV, h2, Option.bind_eq_bind, Option.bind_some, if_pos this]
      rw [e1, List.append_assoc]
      rfl
    · rw [List.zip_cons_cons] at hp
      rcases List.mem_cons.mp hp with rfl | hp
      · exact h3
      · exact e4 p hp
end
theorem zip_right {α β : Type} : ∀ {xs : List α} {ys : List β} {y : β}, ys.length = xs.length → y ∈ ys → ∃ x, x ∈ xs ∧ (x, y) ∈ xs.zip ys
  | [], [], _, _, h => nomatch h
  | x :: xs, z :: ys, y, hl, h => by
    rcases List.mem_cons.mp h with rfl | h
    · exact ⟨x, List.mem_cons_self .., by simp⟩
    · obtain ⟨x', h1, h2⟩ := zip_right (xs := xs) (ys := ys) (by simpa using hl) h
      exact ⟨x', List.mem_cons_of_mem _ h1, by rw [List.zip_cons_cons]; exact List.mem_cons_of_mem _ h2⟩
  | _ :: _, [], _, hl, _ => by simp at hl
  | [], _ :: _, _, hl, _ => by simp at hl
end PP

namespace PP
open PySem PySem.Spec PyProof.Rows L2
/-! PP39: dicts that are the same; a law's own look at two values, part by part -/
section
variable {κ β : Type} [DecidableEq κ] [Key κ] (f : β → PyData)
theorem dict_same (hs : ∀ k : κ, (Key.dk k).isLeft = true) (m : List (κ × β)) (hn : (m.map (·.1)).Nodup) (hf : ∀ p, p ∈ m → okD (f p.2) = true ∧ PyData.eqv (f p.2) (f p.2) = true) : dictEq (dA f m) (dA f m) = some true := by
  unfold dictEq
  rw [plain_A f hs m, if_pos]
  simp only [decide_true, Bool.true_and, List.all_eq_true]
  intro p hp
  obtain ⟨q, hq, rfl⟩ := List.mem_map.mp hp
  have hg : getA m q.1 = some q.2 := getA_of_mem hn hq
  have h1 : dkey (ek q.1) = some (Key.dk q.1) := Key.ok q.1
  obtain ⟨h2, h3⟩ := hf q hq
  simp only [h1, dA_look, hg, Option.map_some, h2, h3, Bool.and_self]
theorem dict_ne (hs : ∀ k : κ, (Key.dk k).isLeft = true) (m : List (κ × β)) (hn : (m.map (·.1)).Nodup) (hf : ∀ p, p ∈ m → okD (f p.2) = true ∧ PyData.eqv (f p.2) (f p.2) = true) : cmpV .NotEq (.dict (dA f m)) (.dict (dA f m)) = some false := by
  show (dictEq _ _).map (!·) = _
  rw [dict_same f hs m hn hf]; rfl
end
def cAlike (f : Nat) : E := .un .Not (.call f (.cons (.ix (.var 0) (.var 2)) (.cons (.ix (.var 1) (.var 2)) (.nil))))
@[simp] theorem als_cAlike (f : Nat) : als (cAlike f) = [0, 2, 1, 2] := id rfl
@[simp] theorem mods_cAlike (f : Nat) : mods (cAlike f) = [] := id rfl
def bAlike (f : Nat) : Ss :=
 .cons (.ifs (.bi (.isI "tuple") (.cons (.var 1) (.nil))) (.cons (.ifs (.bop .Or (.un .Not (.bi (.isI "tuple") (.cons (.var 0) (.nil)))) (.cmp .NotEq (.bi .len (.cons (.var 0) (.nil))) (.bi .len (.cons (.var 1) (.nil))))) (.cons (.ret (.bl false))
 (.nil)) (.nil))
 (.cons (.ret (.cmp .Eq (.comp [2] (.nm 2) (.rng (.cons (.bi .len (.cons (.var 1) (.nil))) (.nil))) (cAlike f) (.var 2)) (.lst (.nil))))
 (.nil))) (.nil))
 (.cons (.ifs (.cmp .Is (.var 1) (.non)) (.cons (.ret (.cmp .Is (.var 0) (.non)))
 (.nil)) (.nil))
 (.cons (.ifs (.bi (.isI "bool") (.cons (.var 1) (.nil))) (.cons (.ret (.bop .And (.bi (.isI "bool") (.cons (.var 0) (.nil))) (.cmp .Eq (.var 0) (.var 1))))
 (.nil)) (.nil))
 (.cons (.ifs (.bi (.isI "int") (.cons (.var 1) (.nil))) (.cons (.ret (.bop .And (.bi (.isI "int") (.cons (.var 0) (.nil))) (.bop .And (.un .Not (.bi (.isI "bool") (.cons (.var 0) (.nil)))) (.cmp .Eq (.var 0) (.var 1)))))
 (.nil)) (.nil))
 (.cons (.ret (.bop .And (.bi (.isI "str") (.cons (.var 0) (.nil))) (.cmp .Eq (.var 0) (.var 1))))
 (.nil)))))
/-- a value of tuples, not deeper than h -/
def aOk : Nat → PyData → Prop
  | _, .none => True
  | _, .bool _ => True
  | _, .int _ => True
  | _, .str _ => True
  | h + 1, .tuple xs => xs.length ≤ 5000 ∧ ∀ x, x ∈ xs → aOk h x
  | _, _ => False
@[simp] theorem aOk_n (h : Nat) : aOk h .none := by cases h <;> simp [aOk]
@[simp] theorem aOk_b (h : Nat) (b : Bool) : aOk h (.bool b) := by cases h <;> simp [aOk]
@[simp] theorem aOk_i (h : Nat) (b : Int) : aOk h (.int b) := by cases h <;> simp [aOk]
@[simp] theorem aOk_s (h : Nat) (b : Str) : aOk h (.str b) := by cases h <;> simp [aOk]
@[simp] theorem aOk_t (h : Nat) (xs : List PyData) : aOk (h + 1) (.tuple xs) ↔ xs.length ≤ 5000 ∧ ∀ x, x ∈ xs → aOk h x := by simp [aOk]
section
variable {Φ : Nat → List PyData → Option (PyData × List PyData)} {gl : List PyData}
theorem alikeR (f : Nat) (h : Nat) (d : PyData) (hd : aOk h d) (hx : ∀ x h', h = h' + 1 → aOk h' x → Φ f [x, x] = some (.bool true, [])) : (runs Φ gl [] (bAlike f) [.fz d, .fz d, .no]).bind (endOf []) = some (.bool true, []) := by
  have hz : (10000 : Nat) < sizeLine := by decide
  have s0 : (0 : Nat) ≤ sizeLine := by decide
  have hso := @outsOf
  cases d with
  | none => simp [bAlike, als, alsO, alsI, alss, mods, modsO, modsI, modss, isT, outsOf]
  | bool b => simp [bAlike, als, alsO, alsI, alss, mods, modsO, modsI, modss, isT, outsOf]
  | int b => simp [bAlike, als, alsO, alsI, alss, mods, modsO, modsI, modss, isT, outsOf]
  | str b => simp [bAlike, als, alsO, alsI, alss, mods, modsO, modsI, modss, isT, outsOf]
  | list xs => cases h <;> simp [aOk] at hd
  | dict xs => cases h <;> simp [aOk] at hd
  | tuple xs =>
    cases h with
    | zero => simp [aOk] at hd
    | succ h =>
      rw [aOk_t] at hd
      obtain ⟨h1, h2⟩ := hd
      have hc := compE_pf (Φ := Φ) (gl := gl) (vs := [2]) (g := .nm 2) (c := cAlike f) (e := .var 2) (ρ := [.fz (.tuple xs), .fz (.tuple xs), .no]) (fun k : Nat => .int (0 + (k : Nat))) (fun _ => false) (fun k => .int (k : Nat)) (List.range xs.length) [] (by simp; omega) (fun k hk => by
        have hk := List.mem_range.mp hk
        have hi : atI xs (k : Nat) = some xs[k] := atI_nat (by simp [hk])
        have := hx xs[k] h rfl (h2 _ (List.getElem_mem _))
        exact ⟨[.fz (.tuple xs), .fz (.tuple xs), .fz (.int (k : Nat))], .sh, by simp, by simp [cAlike, hi, this], fun _ => by simp, by simp⟩)
      change compE _ _ _ _ _ _ (iidx 0 xs.length) _ _ = _ at hc
      rw [show (List.range xs.length).filter (fun _ => false) = [] from List.filter_eq_nil_iff.mpr fun _ _ => by simp] at hc
      have hr := rngD_n (n := xs.length) (by omega)
      have q0 : cmpV .Eq (.list []) (.list []) = some true := rfl
      simp [bAlike, als, alsO, alsI, alss, mods, modsO, modsI, modss, isT, hr, hc, q0, s0, outsOf]
end
end PP

/-! PP40: [::-1], list(d.values()). -/
namespace L2
open PySem PySem.Spec PyProof.Rows HT
section
variable {prog : Program} {w : World} {A : Around} {E : Value → Shared → Prop} {s : Shared}
theorem sliceApplied_rev {sl : Addr} {vs : Value} {n : Nat} {Q : Int × Int × Nat → Shared → Prop} (hs : s.heap.IsSliceOf sl .none .none vs) (ps : IsPart vs (some (-1)))
    (h : Q ((n : Int) - 1, -1, n) s) : wpAny (model prog w) A (Builtin.Slice.sliceApplied (.ref sl) (pure (n : Int))) Q E s := by
  obtain ⟨os, hos, hcs, hds⟩ := id hs
  unfold Builtin.Slice.sliceApplied Builtin.Slice.sliceFields
  refine wpAny_bind (wpAny_bind (wpAny_field hos hds (x := .none) rfl (wpAny_bind (wpAny_field hos hds (x := .none) rfl (wpAny_bind (wpAny_field hos hds (x := vs) rfl (wpAny_pure ?_)))))))
  refine wpAny_bind (slicePart_ ps ?_)
  show wpAny _ _ (if ((-1 : Int) == 0) = true then _ else _) _ _ s
  rw [if_neg (by decide)]
  refine wpAny_bind (slicePart_none (wpAny_bind (slicePart_none (wpAny_bind (wpAny_pure ?_)))))
  have e : Builtin.Slice.slicePlaces ((n : Int) - 1) (-1) (-1) = n := by
    unfold Builtin.Slice.slicePlaces
    rw [if_neg (by decide)]
    split
    · rename_i h
      have : ((n : Int) - 1 - (-1) - 1) / (- (-1)) + 1 = n := by
        rw [show (- (-1) : Int) = 1 by decide, Int.ediv_one]; omega
      rw [this]; simp
    · omega
  show wpAny _ _ (pure ((n : Int) - 1, (-1 : Int), Builtin.Slice.slicePlaces ((n : Int) - 1) (-1) (-1))) _ _ s
  rw [e]
  exact wpAny_pure h
theorem filterMap_some {α β : Type} (f : α → Option β) (g : α → β) : ∀ l : List α, (∀ m, m ∈ l → f m = some (g m)) → l.filterMap f = l.map g
  | [], _ => rfl
  | x :: l, h => by
    rw [List.filterMap_cons, h x (List.mem_cons_self ..), List.map_cons, filterMap_some f g l fun m hm => h m (List.mem_cons_of_mem _ hm)]
theorem pick_rev (xs : Array Value) : ((List.range xs.size).filterMap fun (m : Nat) => xs[((xs.size : Int) - 1 + (m : Int) * (-1)).toNat]?).toArray = xs.toList.reverse.toArray := by
  congr 1
  have e : ∀ m, m ∈ List.range xs.size → (fun (m : Nat) => xs[((xs.size : Int) - 1 + (m : Int) * (-1)).toNat]?) m = some (xs.toList.reverse.getD m .none) := by
    intro m hm
    have hm := List.mem_range.mp hm
    have h1 : ((xs.size : Int) - 1 + (m : Int) * (-1)).toNat = xs.size - 1 - m := by omega
    show xs[((xs.size : Int) - 1 + (m : Int) * (-1)).toNat]? = _
    rw [h1, List.getD_eq_getElem?_getD, List.getElem?_reverse (by rw [Array.length_toList]; exact hm), Array.length_toList, Array.getElem?_toList]
    have : xs.size - 1 - m < xs.size := by omega
    simp [this]
  rw [filterMap_some _ (fun m => xs.toList.reverse.getD m .none) _ e]
  apply List.ext_getElem
  · simp
  · intro k h1 h2
    rw [List.getElem_map, List.getElem_range, List.getD_eq_getElem?_getD, List.getElem?_eq_getElem h2]
    rfl
theorem getItem_tuple_rev {t sl : Addr} {items : Array Value} {vs : Value} {Q : Value → Shared → Prop} (ht : IsTup s.heap t items) (hs : s.heap.IsSliceOf sl .none .none vs) (ps : IsPart vs (some (-1)))
    (h : Q (.ref s.heap.objs.size) { s with heap := s.heap.push { cls := .type "tuple", data := .seq items.toList.reverse.toArray } })
    (hsz : items.size ≤ sizeLine) : wpAny (model prog w) A (getItem (.ref t) (.ref sl)) Q E s := by
  have htake : sizeOk (.seq items.toList.reverse.toArray) := by
    show items.toList.reverse.toArray.size ≤ sizeLine
    rw [List.size_toArray, List.length_reverse, Array.length_toList]
    exact hsz
  obtain ⟨os, hos, hcs, hds⟩ := id hs
  have hTs : s.TypeIs (.ref sl) "slice" := ⟨os, hos, hcs⟩
  unfold getItem
  try with_reducible refine wpAny_holding ?_
  first | refine wpAny_bind (wpAny_pure ?_) | skip
  refine wpAny_bind (wpAny_sequenceKey ht.typeIs (by decide) ?_)
  refine wpAny_bind (wpAny_callSpecial?_slot (name := Str.ofString "__getitem__") ht.typeIs PyProof.Rows.slot_tuple_getitem
    (wpAny_call_entry PyProof.Rows.slot_tuple_getitem ht.typeIs entry_tuple_getitem ?_ (args_tuple_getitem _ _)))
  show wpAny _ _ (Builtin.Tuple.tupleItemsOf (.ref t) >>= _) _ _ s
  refine wpAny_bind (tupleItemsOf_ ht ?_)
  refine wpAny_bind (wpAny_typeOf hTs ?_)
  rw [if_pos (by decide)]
  refine wpAny_bind (sliceApplied_rev hs ps ?_)
  show wpAny _ _ (if (((items.size : Int) - 1) == 0 && (-1 : Int) == 1 && items.size == items.size) = true then _ else _) _ _ s
  rw [if_neg (by simp), pick_rev]
  first
    | exact wpAny_bind (m := Builtin.Tuple.tupleExact _) (wpAny_newObj_type (wpAny_pure ⟨_, rfl, wpAny_pure h⟩) htake)
    | exact wpAny_bind (m := Builtin.Tuple.tupleExact _) (wpAny_newObj_type (wpAny_bind (wpAny_pure (wpAny_pure ⟨_, rfl, wpAny_pure h⟩))) htake)
    | exact wpAny_bind (wpAny_bind (m := Builtin.Tuple.tupleExact _) (wpAny_newObj_type (wpAny_pure (wpAny_pure ⟨_, rfl, wpAny_pure h⟩)) htake))
    | exact wpAny_bind (wpAny_bind (m := Builtin.Tuple.tupleExact _) (wpAny_newObj_type (wpAny_pure ⟨_, rfl, wpAny_pure h⟩) htake))
end
section
variable {X : Cx}
/-- xs[::-1], a list or a tuple -/
def tRevA (K : PySem.W.Frag) (te : TE) : TE := fun σ H Q => te σ H fun x H1 => ∃ a xs, x = .ref a ∧ ((SqL K H1 a xs ∧ ∀ p, H1 p = none → Q (.ref p) (upd H1 p (.lst xs.reverse))) ∨ (SqT K H1 a xs ∧ ∀ p, H1 p = none → Q (.ref p) (upd H1 p (.tup xs.reverse))))
theorem pe_revA {e : Expr} {te : TE} {k : Nat} {p1 p2 p3 pos : Pos} (he : PE X e te) : PE X (.Subscript e (.Slice none none (some (.UnaryOp .USub (.Constant (.int 1) k p1) p2)) p3) pos) (tRevA X.K te) := by
  refine ⟨fun pins s σ H Q I h => ?_⟩
  refine Subscript_ (thn (he.run pins s σ H _ I h) fun v s1 ⟨x, H1, I1, r1, q1⟩ => ?_)
  obtain ⟨a, xs, ex, q⟩ := q1
  subst ex
  cases r1
  have hst : PO X (some (.UnaryOp .USub (.Constant (.int 1) k p1) p2)) (tPart (tUn (rU fun i => .int (-i)) (tC (.int 1)))) := po_some (pe_un un_neg pe_int)
  refine wpAny_Slice (thn (po_none.run pins s1 σ H1 (fun o H2 => o = none ∧ H2 = H1) I1 ⟨rfl, rfl⟩) fun vl s2 ⟨l, H2, I2, pl, el, e2⟩ => ?_)
  subst el e2
  refine thn (po_none.run pins s2 σ H2 (fun o H3 => o = none ∧ H3 = H2) I2 ⟨rfl, rfl⟩) fun vu s3 ⟨u, H3, I3, pu, eu, e3⟩ => ?_
  subst eu e3
  refine thn (hst.run pins s3 σ H3 (fun o H4 => o = some (-1) ∧ H4 = H3) I3 ⟨1, rfl, -1, rfl, rfl, rfl⟩) fun vs s4 ⟨o, H4, I4, ps, eo, e4⟩ => ?_
  subst eo e4
  have I5 : Inv X pins σ H4 { s4 with heap := s4.heap.push { cls := .type "slice", data := .fields #[vl, vu, vs] } } := I4.kept (t' := s4.toks) fun b ob q => Heap.get?_push_of_some _ q
  show wpAny (model X.prog X.w) X.A (subscriptTail e (.Slice none none (some (.UnaryOp .USub (.Constant (.int 1) k p1) p2)) p3) (.ref a) (.ref s4.heap.objs.size)) (EP X pins σ Q) X.xe { s4 with heap := s4.heap.push { cls := .type "slice", data := .fields #[vl, vu, vs] } }
  rcases q with ⟨hx, q⟩ | ⟨hx, q⟩
  · obtain ⟨its, r, ht, hz⟩ := I5.list hx
    have hlen := r.length
    refine tail_any (ops := [.ref a, .ref s4.heap.objs.size]) ht.isList.typeIs (PySem.slot_list_getitem.lookup) ?_ (by with_unfolding_all rfl)
    refine wpAny_getItem_list_slice ht.isList (Heap.IsSliceOf.new _ vl vu vs) pl pu ps (by decide) ?_ (by rw [List.size_toArray]; omega)
    rw [PySem.W.krv_pick]
    refine ⟨.ref _, _, I5.laid (t' := s4.toks) (o := .lst xs.reverse) (fun b ob q => Heap.get?_push_of_some _ q) (Nat.le_refl _) ?_, rfl, q _ (I5.hok.fresh (Nat.le_refl _))⟩
    exact ⟨by rw [List.length_reverse]; exact hz, _, 0, r.reverse, Heap.get?_push_size _ rfl⟩
  · obtain ⟨its, r, ht, hz⟩ := I5.tuple hx
    have hlen := r.length
    cases pl
    cases pu
    refine tail_any (ops := [.ref a, .ref s4.heap.objs.size]) ht.typeIs PyProof.Rows.slot_tuple_getitem.lookup ?_ (by with_unfolding_all rfl)
    refine getItem_tuple_rev ht (Heap.IsSliceOf.new _ .none .none vs) ps ?_ (by rw [List.size_toArray]; omega)
    refine ⟨.ref _, _, I5.laid (t' := s4.toks) (o := .tup xs.reverse) (fun b ob q => Heap.get?_push_of_some _ q) (Nat.le_refl _) ?_, rfl, q _ (I5.hok.fresh (Nat.le_refl _))⟩
    exact ⟨by rw [List.length_reverse]; exact hz, _, r.reverse, IsTup.new _ _⟩
/-- list(e.values()) -/
def tListVals (te : TE) : TE := fun σ H Q => te σ H fun x H1 => ∃ d kvs, x = .ref d ∧ (H1 d = some (.dK kvs) ∨ ∃ o, H1 d = some (.frz o (.dK kvs))) ∧ ∀ p, H1 p = none → Q (.ref p) (upd H1 p (.lst (kvs.map (·.2))))
theorem kv_vals : ∀ {kvs : List (Key × V)} {vs : List (Key × Value)}, KV kvs vs → Vals (kvs.map (·.2)) (vs.map (·.2))
  | _, _, .nil => .nil
  | _, _, .cons h t => .cons h.2 (kv_vals t)
theorem pe_listVals {e : Expr} {te : TE} {p apos cpos pos : Pos} (hc : X.calm = true) (he : PE X e te) (hg : Gl X "list") (hm : X.mg "list" = none) (hv : bootBuiltins "list" = some (.type "list")) (hbase : attributeBase e "values" X.env (eval e X.env) = eval e X.env := by rfl) (hline : (apos.endLine == cpos.line) = true := by rfl)
    (hs : starEach [.Call (.Attribute e "values" apos) [] [] cpos] X.env = (false, eval (.Call (.Attribute e "values" apos) [] [] cpos) X.env) :: starEach [] X.env := by rfl) :
    PE X (.Call (.Name "list" p) [.Call (.Attribute e "values" apos) [] [] cpos] [] pos) (tListVals te) := by
  refine ⟨fun pins s σ H Q I hq => ?_⟩
  refine wpAny_Call_Name_kw (ld_blt I hg hm hv ?_)
  refine PyProof.Rows.callWith_type1 ?_ hs rfl
  rw [hs]
  show wpAny _ _ (spliced ((false, eval (.Call (.Attribute e "values" apos) [] [] cpos) X.env) :: backTo pos (starEach [] X.env))) _ _ s
  refine Calls.spliced_cons ?_
  refine wpAny_Call_method (T := "dict") (id := "dict.values") hbase rfl hline F.plainAttrs_dict F.slot_dict_values F.type_dict_values (thn (he.run pins s σ H _ I hq) fun u s1 ⟨x, H1, I1, rx, d, kvs, ex, hd, q⟩ => ?_)
  subst ex
  obtain rfl : u = Value.ref d := rx
  have key : (d == sysModules) = false ∧ kvs.length ≤ sizeLine ∧ ∃ (vs : List (Key × Value)) (ep : Nat), KV kvs vs ∧ s1.heap.DictAt (mixKind X.prog X.w) d vs ep := by
    rcases hd with hd | ⟨o, hd⟩
    · obtain ⟨hz, hs0, vs, kv, hdo⟩ := I1.hok d _ hd
      obtain ⟨ep, hat⟩ := hdo.dictAt
      exact ⟨hs0, by omega, vs, ep, kv, hat⟩
    · obtain ⟨hd0, z, hs, vs, kv, o', es, ep, ho, hx, hdt, r⟩ := I1.hok d _ hd
      obtain ⟨hs0, hgd, hx, es, ep, vs, hdt, hsz, kv, hm⟩ := I1.frzK hd
      exact ⟨hs0, by omega, vs, ep, kv, hm⟩
  obtain ⟨hs0, hz, vs, ep, kv, hat⟩ := key
  have lk : kvs.length = vs.length := Paired.length kv
  have I2 : Inv X pins σ H1 { s1 with heap := s1.heap.push { cls := .type "dict_values", data := .fields #[.ref d] } } := I1.kept (t' := s1.toks) fun b ob q => Heap.get?_push_of_some _ q
  refine ⟨hat.dictOf.typeIs, hat.dictOf.mapOf.noDict, ?_⟩
  show wpAny _ _ (callWith cpos (.builtin "dict.values") [.ref d] [] []) _ X.xe s1
  refine method_meetsIn F.slot_dict_values F.entry_dict_values rfl (PySem.evalArgs_none ⟨rfl, hat.dictOf.typeIs, F.args_dict_values_1 _, _, meets_dict_values (mixKind X.prog X.w) d hs0, ⟨vs, hat.dictOf⟩, ?_⟩)
  refine Calls.spliced_nil ?_
  refine PySem.W.kdl_call (PySem.W.kdl_values (knd := mixKind X.prog X.w) (kvs := vs) (ep := ep)) (I1.ok.hd hc) ⟨⟨_, Heap.get?_push_size _ rfl, rfl, rfl⟩, hat.push _⟩ (by omega) fun h' tk acc c hk hS hacc => ?_
  have hev : acc.toList = vs.map (·.2) := PySem.W.kdl_vals_eq acc.toList (by rw [Array.length_toList]; exact hacc.1) fun j v e => hacc.2 j v (by rw [← Array.getElem?_toList]; exact e)
  refine ⟨.ref _, _, I2.laid (t' := tk) (o := .lst (kvs.map (·.2))) hk (Nat.le_refl _) ?_, rfl, q _ (I2.hok.fresh (Nat.le_refl _))⟩
  exact ⟨by rw [List.length_map]; omega, acc.toList, c, by rw [hev]; exact kv_vals kv, by rw [Array.toArray_toList]; exact hS⟩
end
end L2
namespace PP
open PySem PySem.Spec PyProof.Rows L2
section
variable {X : Cx} {Φ : Nat → List PyData → Option (PyData × List PyData)} {gl : List PyData} {pos : Pos} {a : Expr} {ea : E}
theorem e_rev {k : Nat} {p1 p2 p3 : Pos} (ha : PEv X Φ gl a ea) : PEv X Φ gl (.Subscript a (.Slice none none (some (.UnaryOp .USub (.Constant (.int 1) k p1) p2)) p3) pos) (.rev ea) :=
  (pe_revA ha).imp fun σ H Q ⟨F, ρ, d, fl, ρ', en, sa, sm, h, q⟩ => by
    simp only [ev] at h
    obtain ⟨⟨x, fx, ρ1⟩, h1, h⟩ := bind_some h
    obtain ⟨⟨d', fl'⟩, h2, h⟩ := bind_some h
    cases h
    refine one en (by simpa [als] using sa) (by simpa [mods] using sm) h1 fun v H1 en1 k1 r1 => ?_
    cases r1.rp with
    | lst n hh ra =>
      cases h2
      exact ⟨_, _, rfl, .inl ⟨.inl (.inl hh), (fin en1 k1 q).lst ra.reverse⟩⟩
    | tup hh ra =>
      cases h2
      exact ⟨_, _, rfl, .inr ⟨.inl (.inl hh), (fin en1 k1 q).tup ra.reverse⟩⟩
    | _ => simp [revV] at h2
theorem rpK_vals {K : PySem.W.Frag} {H : Hp} {P : Addr → Prop} : ∀ {kvs : List (L2.Key × V)} {ds : List (PyData × PyData)}, RpK K H P kvs ds → RpAll K H P (kvs.map (·.2)) (ds.map (·.2))
  | _, _, .nil => .nil
  | _, _, .cons r rs => .cons r (rpK_vals rs)
theorem e_listVals {p apos cpos : Pos} (hc : X.calm = true) (hg : Gl X "list") (hm : X.mg "list" = none) (ha : PEv X Φ gl a ea) (hbase : attributeBase a "values" X.env (eval a X.env) = eval a X.env := by rfl) (hline : (apos.endLine == cpos.line) = true := by rfl)
    (hs : starEach [.Call (.Attribute a "values" apos) [] [] cpos] X.env = (false, eval (.Call (.Attribute a "values" apos) [] [] cpos) X.env) :: starEach [] X.env := by rfl) :
    PEv X Φ gl (.Call (.Name "list" p) [.Call (.Attribute a "values" apos) [] [] cpos] [] pos) (.bi .listVals (.cons ea .nil)) :=
  (pe_listVals hc ha hg hm rfl hbase hline hs).imp fun σ H Q ⟨F, ρ, d, fl, ρ', en, sa, sm, h, q⟩ => by
    simp only [ev, evs] at h
    obtain ⟨⟨ds, ρ1⟩, h1, h⟩ := bind_some h
    obtain ⟨⟨x, fx, ρ2⟩, h2, h1⟩ := bind_some h1
    cases h1
    obtain ⟨⟨d', f'⟩, h3, h⟩ := bind_some h
    cases h
    refine one en (by simpa [als, alss] using sa) (by simpa [mods, modss] using sm) h2 fun v H1 en1 k1 r1 => ?_
    replace h3 : v_listVals [x] = some (d', f') := h3
    cases r1.rp with
    | dk n hh ra =>
      simp only [v_listVals] at h3
      split at h3
      · cases h3
        exact ⟨_, _, rfl, hh.rd, (fin en1 k1 q).lst (rpK_vals ra)⟩
      · cases h3
    | dt n hh ra =>
      simp only [v_listVals] at h3
      split at h3
      · rename_i hp
        exfalso
        cases ra with
        | nil => exact hh.1 rfl
        | cons r1 r2 =>
          rw [List.all_cons, Bool.and_eq_true] at hp
          have := hp.1
          simp [plainKey, dkey_t] at this
      · cases h3
    | _ => simp [v_listVals] at h3
/-- len(set(xs)) of ints or texts -/
theorem e_lenSetK {p p2 q : Pos} (hg : Gl X "len") (hm : X.mg "len" = none) (hg2 : Gl X "set") (hm2 : X.mg "set" = none) (ha : PEv X Φ gl a ea) (hc : X.calm = true)
    (na : starEach [a] X.env = (false, eval a X.env) :: starEach [] X.env := by rfl) : PEv X Φ gl (.Call (.Name "len" p) [.Call (.Name "set" p2) [a] [] q] [] pos) (.bi .lenSetK (.cons ea .nil)) := by
  refine ⟨fun pins s σ H Q I ⟨F, ρ, d, fl, ρ', en, sa, sm, h, w⟩ => ?_⟩
  simp only [ev, evs] at h
  obtain ⟨⟨ds, ρ1⟩, h1, h⟩ := bind_some h
  obtain ⟨⟨x, fx, ρ2⟩, h2, h1⟩ := bind_some h1
  cases h1
  obtain ⟨⟨d', f'⟩, h3, h⟩ := bind_some h
  cases h
  refine Call_ (ld_blt I hg hm boot_len ?_)
  refine PyProof.Rows.callWith_builtin1 (PyProof.Rows.args_cons ?_ rfl) rfl rfl
  refine Call_ (ld_blt I hg2 hm2 boot_set ?_)
  refine PyProof.Rows.callWith_type1 (PyProof.Rows.args_cons (thn (ha.run pins s σ H _ I (one (Q := fun v H1 => ∃ l ks, v = .ref l ∧ SqL X.K H1 l (ks.map kV) ∧ ks.length < 4000 ∧ Q (.int (dedupK ks).length) H1) en (by simpa [als, alss] using sa) (by simpa [mods, modss] using sm) h2 fun v H1 en1 k1 r1 => ?_)) fun v s1 ⟨x, H1, I1, r1, q1⟩ => PyProof.Rows.args_nil ?_) na) na rfl
  · replace h3 : v_lenSetK [x] = some (d', f') := h3
    simp only [v_lenSetK] at h3
    cases x with
    | list xs =>
      try dsimp only at h3
      obtain ⟨ks, h4, h5⟩ := bind_some h3
      clear h3
      split at h5
      · rename_i hz
        have ex := keysD_dat h4
        subst ex
        cases h5
        cases r1.rp with
        | lst n hh ra =>
          have := keys_rpV ra
          subst this
          exact ⟨_, ks, rfl, .inl (.inl hh), by simpa using hz, fin_sh en1 k1 w (.int _)⟩
      · cases h5
    | _ => simp at h3
  · obtain ⟨l, ks, rfl, hq, hl, q1⟩ := q1
    cases r1
    obtain ⟨its, r, pl, hz⟩ := I1.list hq
    refine setM_list ks (I1.ok.hd hc) pl.isList (by simpa using r) (by unfold scanBound; omega) fun h' tk c hS hcl hk => ?_
    refine PyProof.Rows.args_nil ?_
    have I2 : Inv X pins σ H1 { s1 with heap := h', toks := tk } := I1.kept hk
    obtain ⟨o, es, ep, t, ho, hex, hd, g, nd, hm, hb, hf, hn, hr, hl2⟩ := hS
    have hsz : es.size = (dedupK ks).length := by
      have pd := (List.perm_ext_iff_of_nodup nd (dedupK_nodup ks)).mpr fun k => by rw [← hm k, memK_iff, dedupK_mem]
      have := pd.length_eq
      rw [List.length_map, Array.length_toList] at this
      exact this
    have hd2 := dedupK_len ks
    exact call_len_set ho hex hd hf (by rw [hsz] <;> omega) ⟨.int (dedupK ks).length, H1, I2.tok _, ⟨_, by rw [hsz]⟩, q1⟩
theorem t_inG {p : Pos} {x : Str} {g : Nat} {ds : List PyData} (hu : X.A.units + 70 < cLine) (hg : Gl X x) (hm : ∃ t xs, X.mg x = some (.ref t) ∧ (∀ H, SqT X.K H t xs) ∧ ∀ H P, RpAll X.K H P xs ds) (he : gl[g]? = some (.tuple ds)) (ha : PEv X Φ gl a ea) (hb : behindInMarks .In (.Name x p) = false := by with_unfolding_all rfl) (hd : (x == ("__debug__" : Str)) = false := by decide) :
    PTv X Φ gl (.Compare a [.In] [.Name x p] pos) (.inG false ea g) := by
  obtain ⟨t, xs, hm, hq, hr⟩ := hm
  exact (pt_cmpR (in_const false (by omega) hq hr) ha (pe_glob hg hm (v := .ref t) rfl hd) hb).imp fun σ H Q ⟨F, ρ, d, fl, ρ', en, sa, sm, h, q⟩ => by
    simp only [ev, he] at h
    obtain ⟨⟨y, fy, ρ1⟩, h1, h⟩ := bind_some h
    obtain ⟨_, e, h⟩ := bind_some h
    cases e
    obtain ⟨b, h2, h⟩ := bind_some h
    cases h
    exact one en (by simpa [als] using sa) (by simpa [mods] using sm) h1 fun v H1 en1 k1 r1 => ⟨F.P, y, b, rfl, r1.rp, h2, ⟨_, rfl, q _ en1 k1⟩⟩
theorem t_ninG {p : Pos} {x : Str} {g : Nat} {ds : List PyData} (hu : X.A.units + 70 < cLine) (hg : Gl X x) (hm : ∃ t xs, X.mg x = some (.ref t) ∧ (∀ H, SqT X.K H t xs) ∧ ∀ H P, RpAll X.K H P xs ds) (he : gl[g]? = some (.tuple ds)) (ha : PEv X Φ gl a ea) (hb : behindInMarks .NotIn (.Name x p) = false := by with_unfolding_all rfl) (hd : (x == ("__debug__" : Str)) = false := by decide) :
    PTv X Φ gl (.Compare a [.NotIn] [.Name x p] pos) (.inG true ea g) := by
  obtain ⟨t, xs, hm, hq, hr⟩ := hm
  exact (pt_cmpR (in_const true (by omega) hq hr) ha (pe_glob hg hm (v := .ref t) rfl hd) hb).imp fun σ H Q ⟨F, ρ, d, fl, ρ', en, sa, sm, h, q⟩ => by
    simp only [ev, he] at h
    obtain ⟨⟨y, fy, ρ1⟩, h1, h⟩ := bind_some h
    obtain ⟨_, e, h⟩ := bind_some h
    cases e
    obtain ⟨b, h2, h⟩ := bind_some h
    cases h
    exact one en (by simpa [als] using sa) (by simpa [mods] using sm) h1 fun v H1 en1 k1 r1 => ⟨F.P, y, b, rfl, r1.rp, h2, ⟨_, rfl, q _ en1 k1⟩⟩
end
end PP

namespace LW
open PySem PySem.Spec PyProof.Rows L2 PP
/-- is_tuple_of: slots 0 thing 1 many -/
def b_is_tuple_of : Ss :=
 .cons (.ret (.bop .And (.bi (.isI "tuple") (.cons (.var 0) (.nil))) (.cmp .Eq (.bi .len (.cons (.var 0) (.nil))) (.var 1))))
 (.nil)
def D_is_tuple_of : Def := ⟨2, 2, [], b_is_tuple_of⟩
def N_is_tuple_of : List Str := [(Str.ofString "thing"), (Str.ofString "many")]
/-- is_name: slots 0 thing 1 sign -/
def e_is_name_0 : E :=
 .bop .Or (.cmp .In (.var 1) (.glob 0)) (.cmp .In (.var 1) (.glob 1))
@[simp] theorem als_e_is_name_0 : als e_is_name_0 = [1, 1] := id rfl
@[simp] theorem mods_e_is_name_0 : mods e_is_name_0 = [] := id rfl
def b_is_name : Ss :=
 .cons (.ifs (.bop .Or (.un .Not (.bi (.isI "str") (.cons (.var 0) (.nil)))) (.bop .Or (.cmp .Eq (.var 0) (.str (Str.ofString ""))) (.cmp .NotIn (.ix (.var 0) (.int 0)) (.glob 0)))) (.cons (.ret (.bl false))
 (.nil)) (.nil))
 (.cons (.ret (.bi .all (.cons (.comp [1] (.nm 1) (.seq (.var 0)) (.bl true) (e_is_name_0)) (.nil))))
 (.nil))
def D_is_name : Def := ⟨1, 2, [], b_is_name⟩
def N_is_name : List Str := [(Str.ofString "thing"), (Str.ofString "sign")]
/-- set_of: slots 0 things -/
def b_set_of : Ss :=
 .cons (.ret (.bi .tuple (.cons (.bi .sortedSet (.cons (.var 0) (.nil))) (.nil))))
 (.nil)
def D_set_of : Def := ⟨1, 1, [], b_set_of⟩
def N_set_of : List Str := [(Str.ofString "things")]
/-- are_groups: slots 0 thing 1 name 2 way 3 data 4 own 5 one -/
def b_are_groups_0 : Ss :=
 .cons (.ifs (.bop .Or (.un .Not (.call 1 (.cons (.var 1) (.nil)))) (.bop .Or (.un .Not (.bi (.isI "str") (.cons (.var 2) (.nil)))) (.bop .Or (.inG true (.var 2) 2) (.un .Not (.bi (.isI "str") (.cons (.var 3) (.nil))))))) (.cons (.ret (.bl false))
 (.nil)) (.nil))
 (.cons (.ifs (.un .Not (.call 1 (.cons (.var 4) (.nil)))) (.cons (.ret (.bl false))
 (.nil)) (.nil))
 (.nil))
def e_are_groups_1 : E :=
 .call 0 (.cons (.var 5) (.cons (.int 4) (.nil)))
@[simp] theorem als_e_are_groups_1 : als e_are_groups_1 = [5] := id rfl
@[simp] theorem mods_e_are_groups_1 : mods e_are_groups_1 = [] := id rfl
def b_are_groups : Ss :=
 .cons (.ifs (.bop .Or (.un .Not (.bi (.isI "tuple") (.cons (.var 0) (.nil)))) (.un .Not (.bi .all (.cons (.comp [5] (.nm 5) (.seq (.var 0)) (.bl true) (e_are_groups_1)) (.nil))))) (.cons (.ret (.bl false))
 (.nil)) (.nil))
 (.cons (.for_ (.tp [.nm 1, .nm 2, .nm 3, .nm 4]) (.seq (.var 0)) (b_are_groups_0) [1, 2, 3, 4])
 (.cons (.ret (.bl true))
 (.nil)))
def D_are_groups : Def := ⟨1, 6, [], b_are_groups⟩
def N_are_groups : List Str := [(Str.ofString "thing"), (Str.ofString "name"), (Str.ofString "way"), (Str.ofString "data"), (Str.ofString "own"), (Str.ofString "one")]
/-- lot_of: slots 0 groups 1 name 2 k -/
def c_lot_of_0 : E :=
 .cmp .Eq (.ix (.ix (.var 0) (.var 2)) (.int 0)) (.var 1)
@[simp] theorem als_c_lot_of_0 : als c_lot_of_0 = [0, 2, 1] := id rfl
@[simp] theorem mods_c_lot_of_0 : mods c_lot_of_0 = [] := id rfl
def b_lot_of : Ss :=
 .cons (.ret (.bi .tuple (.cons (.comp [2] (.nm 2) (.rng (.cons (.bi .len (.cons (.var 0) (.nil))) (.nil))) (c_lot_of_0) (.var 2)) (.nil))))
 (.nil)
def D_lot_of : Def := ⟨2, 3, [], b_lot_of⟩
def N_lot_of : List Str := [(Str.ofString "groups"), (Str.ofString "name"), (Str.ofString "k")]
/-- group_names: slots 0 groups 1 one -/
def e_group_names_0 : E :=
 .ix (.var 1) (.int 0)
@[simp] theorem als_e_group_names_0 : als e_group_names_0 = [1] := id rfl
@[simp] theorem mods_e_group_names_0 : mods e_group_names_0 = [] := id rfl
def b_group_names : Ss :=
 .cons (.ret (.call 2 (.cons (.comp [1] (.nm 1) (.seq (.var 0)) (.bl true) (e_group_names_0)) (.nil))))
 (.nil)
def D_group_names : Def := ⟨1, 2, [], b_group_names⟩
def N_group_names : List Str := [(Str.ofString "groups"), (Str.ofString "one")]
/-- kept_of: slots 0 groups 1 name 2 lot 3 k -/
def e_kept_of_0 : E :=
 .cmp .Eq (.ix (.ix (.var 0) (.var 3)) (.int 1)) (.str (Str.ofString "largest"))
@[simp] theorem als_e_kept_of_0 : als e_kept_of_0 = [0, 3] := id rfl
@[simp] theorem mods_e_kept_of_0 : mods e_kept_of_0 = [] := id rfl
def e_kept_of_1 : E :=
 .tup (.cons (.un .USub (.bi .len (.cons (.ix (.ix (.var 0) (.var 3)) (.int 2)) (.nil)))) (.cons (.var 3) (.nil)))
@[simp] theorem als_e_kept_of_1 : als e_kept_of_1 = [0, 3, 3] := id rfl
@[simp] theorem mods_e_kept_of_1 : mods e_kept_of_1 = [] := id rfl
def b_kept_of : Ss :=
 .cons (.asg 2 (.call 4 (.cons (.var 0) (.cons (.var 1) (.nil)))))
 (.cons (.ifs (.bi .any (.cons (.comp [3] (.nm 3) (.seq (.var 2)) (.bl true) (e_kept_of_0)) (.nil))) (.cons (.ret (.ix (.bi .min (.cons (.comp [3] (.nm 3) (.seq (.var 2)) (.bl true) (e_kept_of_1)) (.nil))) (.int 1)))
 (.nil)) (.nil))
 (.cons (.ret (.ix (.var 2) (.int 0)))
 (.nil)))
def D_kept_of : Def := ⟨2, 4, [], b_kept_of⟩
def N_kept_of : List Str := [(Str.ofString "groups"), (Str.ofString "name"), (Str.ofString "lot"), (Str.ofString "k")]
/-- wrong_in: slots 0 groups 1 name 2 lot 3 k 4 ways 5 one 6 other -/
def b_wrong_in_0 : Ss :=
 .cons (.asgD [4, 5, 6] (.cons (.tup (.cons (.ix (.ix (.var 0) (.ix (.var 2) (.int 0))) (.int 1)) (.cons (.ix (.ix (.var 0) (.var 3)) (.int 1)) (.nil)))) (.cons (.ix (.ix (.var 0) (.ix (.var 2) (.int 0))) (.int 2)) (.cons (.ix (.ix (.var 0) (.var 3)) (.int 2)) (.nil)))))
 (.cons (.ifs (.bop .Or (.cmp .In (.str (Str.ofString "none")) (.var 4)) (.bop .Or (.bop .And (.cmp .In (.str (Str.ofString "samesize")) (.var 4)) (.cmp .NotEq (.bi .len (.cons (.var 5) (.nil))) (.bi .len (.cons (.var 6) (.nil))))) (.bop .And (.cmp .In (.str (Str.ofString "same")) (.var 4)) (.cmp .NotEq (.var 5) (.var 6))))) (.cons (.ret (.var 3))
 (.nil)) (.nil))
 (.nil))
def b_wrong_in : Ss :=
 .cons (.asg 2 (.call 4 (.cons (.var 0) (.cons (.var 1) (.nil)))))
 (.cons (.for_ (.nm 3) (.seq (.sl (.var 2) (.so (.int 1)) .no)) (b_wrong_in_0) [3, 4, 5, 6])
 (.cons (.ret (.non))
 (.nil)))
def D_wrong_in : Def := ⟨2, 7, [], b_wrong_in⟩
def N_wrong_in : List Str := [(Str.ofString "groups"), (Str.ofString "name"), (Str.ofString "lot"), (Str.ofString "k"), (Str.ofString "ways"), (Str.ofString "one"), (Str.ofString "other")]
/-- choose_groups: slots 0 groups 1 name 2 wrong -/
def e_choose_groups_0 : E :=
 .call 6 (.cons (.var 0) (.cons (.var 1) (.nil)))
@[simp] theorem als_e_choose_groups_0 : als e_choose_groups_0 = [0, 1] := id rfl
@[simp] theorem mods_e_choose_groups_0 : mods e_choose_groups_0 = [] := id rfl
def b_choose_groups_1 : Ss :=
 .cons (.asg 2 (.call 7 (.cons (.var 0) (.cons (.var 1) (.nil)))))
 (.cons (.ifs (.cmp .IsNot (.var 2) (.non)) (.cons (.ret (.tup (.cons (.str (Str.ofString "no")) (.cons (.var 1) (.cons (.var 2) (.nil))))))
 (.nil)) (.nil))
 (.nil))
def b_choose_groups : Ss :=
 .cons (.for_ (.nm 1) (.seq (.call 5 (.cons (.var 0) (.nil)))) (b_choose_groups_1) [1, 2])
 (.cons (.ret (.tup (.cons (.str (Str.ofString "yes")) (.cons (.call 2 (.cons (.comp [1] (.nm 1) (.seq (.call 5 (.cons (.var 0) (.nil)))) (.bl true) (e_choose_groups_0)) (.nil))) (.nil)))))
 (.nil))
def D_choose_groups : Def := ⟨1, 3, [], b_choose_groups⟩
def N_choose_groups : List Str := [(Str.ofString "groups"), (Str.ofString "name"), (Str.ofString "wrong")]
/-- signs_dropped: slots 0 groups 1 kept 2 name 3 k -/
def c_signs_dropped_0 : E :=
 .cmp .NotIn (.var 3) (.var 1)
@[simp] theorem als_c_signs_dropped_0 : als c_signs_dropped_0 = [3, 1] := id rfl
@[simp] theorem mods_c_signs_dropped_0 : mods c_signs_dropped_0 = [] := id rfl
def e_signs_dropped_1 : E :=
 .bi .len (.cons (.ix (.ix (.var 0) (.var 3)) (.int 2)) (.nil))
@[simp] theorem als_e_signs_dropped_1 : als e_signs_dropped_1 = [0, 3] := id rfl
@[simp] theorem mods_e_signs_dropped_1 : mods e_signs_dropped_1 = [] := id rfl
def e_signs_dropped_2 : E :=
 .call 6 (.cons (.var 0) (.cons (.var 2) (.nil)))
@[simp] theorem als_e_signs_dropped_2 : als e_signs_dropped_2 = [0, 2] := id rfl
@[simp] theorem mods_e_signs_dropped_2 : mods e_signs_dropped_2 = [] := id rfl
def b_signs_dropped : Ss :=
 .cons (.asg 1 (.comp [2] (.nm 2) (.seq (.call 5 (.cons (.var 0) (.nil)))) (.bl true) (e_signs_dropped_2)))
 (.cons (.ret (.bi .sum (.cons (.comp [3] (.nm 3) (.rng (.cons (.bi .len (.cons (.var 0) (.nil))) (.nil))) (c_signs_dropped_0) (e_signs_dropped_1)) (.nil))))
 (.nil))
def D_signs_dropped : Def := ⟨1, 4, [], b_signs_dropped⟩
def N_signs_dropped : List Str := [(Str.ofString "groups"), (Str.ofString "kept"), (Str.ofString "name"), (Str.ofString "k")]
/-- unlike_twins: slots 0 groups 1 name 2 k -/
def e_unlike_twins_0 : E :=
 .ix (.ix (.var 0) (.var 2)) (.int 2)
@[simp] theorem als_e_unlike_twins_0 : als e_unlike_twins_0 = [0, 2] := id rfl
@[simp] theorem mods_e_unlike_twins_0 : mods e_unlike_twins_0 = [] := id rfl
def c_unlike_twins_1 : E :=
 .cmp .Gt (.bi .lenSetK (.cons (.comp [2] (.nm 2) (.seq (.call 4 (.cons (.var 0) (.cons (.var 1) (.nil))))) (.bl true) (e_unlike_twins_0)) (.nil))) (.int 1)
@[simp] theorem als_c_unlike_twins_1 : als c_unlike_twins_1 = [0, 1, 0, 2] := id rfl
@[simp] theorem mods_c_unlike_twins_1 : mods c_unlike_twins_1 = [] := id rfl
def b_unlike_twins : Ss :=
 .cons (.ret (.bi .tuple (.cons (.comp [1] (.nm 1) (.seq (.call 5 (.cons (.var 0) (.nil)))) (c_unlike_twins_1) (.var 1)) (.nil))))
 (.nil)
def D_unlike_twins : Def := ⟨1, 3, [], b_unlike_twins⟩
def N_unlike_twins : List Str := [(Str.ofString "groups"), (Str.ofString "name"), (Str.ofString "k")]
/-- groups_hang: slots 0 groups 1 turned 2 found 3 name -/
def b_groups_hang_0 : Ss :=
 .cons (.ifs (.cmp .NotEq (.ix (.ix (.var 0) (.call 6 (.cons (.var 0) (.cons (.var 3) (.nil))))) (.int 2)) (.ix (.ix (.var 1) (.call 6 (.cons (.var 1) (.cons (.var 3) (.nil))))) (.int 2))) (.cons (.mut "append" 2 (.var 3))
 (.nil)) (.nil))
 (.nil)
def b_groups_hang : Ss :=
 .cons (.asgD [1, 2] (.cons (.rev (.var 0)) (.cons (.lst (.nil)) (.nil))))
 (.cons (.for_ (.nm 3) (.seq (.call 5 (.cons (.var 0) (.nil)))) (b_groups_hang_0) [3])
 (.cons (.ret (.bi .tuple (.cons (.var 2) (.nil))))
 (.nil)))
def D_groups_hang : Def := ⟨1, 4, [], b_groups_hang⟩
def N_groups_hang : List Str := [(Str.ofString "groups"), (Str.ofString "turned"), (Str.ofString "found"), (Str.ofString "name")]
/-- seen_by: slots 0 groups 1 own 2 found 3 name 4 _ 5 data 6 other -/
def b_seen_by_0 : Ss :=
 .cons (.ifs (.cmp .Eq (.var 6) (.var 1)) (.cons (.setIx 2 (.var 3) (.bop .And (.bi .get (.cons (.var 2) (.cons (.var 3) (.cons (.bl true) (.nil))))) (.cmp .Eq (.ix (.ix (.var 0) (.call 6 (.cons (.var 0) (.cons (.var 3) (.nil))))) (.int 2)) (.var 5))))
 (.nil)) (.nil))
 (.nil)
def b_seen_by : Ss :=
 .cons (.asg 2 (.dic (.nil)))
 (.cons (.for_ (.tp [.nm 3, .nm 4, .nm 5, .nm 6]) (.seq (.var 0)) (b_seen_by_0) [3, 4, 5, 6])
 (.cons (.ret (.var 2))
 (.nil)))
def D_seen_by : Def := ⟨2, 7, [], b_seen_by⟩
def N_seen_by : List Str := [(Str.ofString "groups"), (Str.ofString "own"), (Str.ofString "found"), (Str.ofString "name"), (Str.ofString "_"), (Str.ofString "data"), (Str.ofString "other")]
/-- misled: slots 0 groups 1 _ 2 own -/
def c_misled_0 : E :=
 .cmp .In (.bl false) (.bi .listVals (.cons (.call 12 (.cons (.var 0) (.cons (.var 2) (.nil)))) (.nil)))
@[simp] theorem als_c_misled_0 : als c_misled_0 = [0, 2] := id rfl
@[simp] theorem mods_c_misled_0 : mods c_misled_0 = [] := id rfl
def b_misled : Ss :=
 .cons (.ret (.call 2 (.cons (.comp [1, 1, 1, 2] (.tp [.nm 1, .nm 1, .nm 1, .nm 2]) (.seq (.var 0)) (c_misled_0) (.var 2)) (.nil))))
 (.nil)
def D_misled : Def := ⟨1, 3, [], b_misled⟩
def N_misled : List Str := [(Str.ofString "groups"), (Str.ofString "_"), (Str.ofString "own")]
/-- fewest_rebuilt: slots 0 groups 1 objects 2 rows 3 own 4 _ 5 row 6 left 7 one -/
def e_fewest_rebuilt_0 : E :=
 .tup (.cons (.bi .len (.cons (.var 5) (.nil))) (.cons (.var 5) (.nil)))
@[simp] theorem als_e_fewest_rebuilt_0 : als e_fewest_rebuilt_0 = [5, 5] := id rfl
@[simp] theorem mods_e_fewest_rebuilt_0 : mods e_fewest_rebuilt_0 = [] := id rfl
def c_fewest_rebuilt_1 : E :=
 .cmp .NotIn (.ix (.var 7) (.int 3)) (.var 5)
@[simp] theorem als_c_fewest_rebuilt_1 : als c_fewest_rebuilt_1 = [7, 5] := id rfl
@[simp] theorem mods_c_fewest_rebuilt_1 : mods c_fewest_rebuilt_1 = [] := id rfl
def b_fewest_rebuilt_2 : Ss :=
 .cons (.asg 6 (.bi .tuple (.cons (.comp [7] (.nm 7) (.seq (.var 0)) (c_fewest_rebuilt_1) (.var 7)) (.nil))))
 (.cons (.ifs (.cmp .Eq (.call 10 (.cons (.var 6) (.nil))) (.tup (.nil))) (.cons (.ret (.var 5))
 (.nil)) (.nil))
 (.nil))
def e_fewest_rebuilt_3 : E :=
 .bin .Add (.var 5) (.tup (.cons (.var 3) (.nil)))
@[simp] theorem als_e_fewest_rebuilt_3 : als e_fewest_rebuilt_3 = [5, 3] := id rfl
@[simp] theorem mods_e_fewest_rebuilt_3 : mods e_fewest_rebuilt_3 = [] := id rfl
def b_fewest_rebuilt_4 : Ss :=
 .cons (.asg 2 (.bin .Add (.var 2) (.comp [5] (.nm 5) (.seq (.var 2)) (.bl true) (e_fewest_rebuilt_3))))
 (.nil)
def e_fewest_rebuilt_5 : E :=
 .ix (.var 7) (.int 3)
@[simp] theorem als_e_fewest_rebuilt_5 : als e_fewest_rebuilt_5 = [7] := id rfl
@[simp] theorem mods_e_fewest_rebuilt_5 : mods e_fewest_rebuilt_5 = [] := id rfl
def b_fewest_rebuilt : Ss :=
 .cons (.asg 1 (.call 2 (.cons (.comp [7] (.nm 7) (.seq (.var 0)) (.bl true) (e_fewest_rebuilt_5)) (.nil))))
 (.cons (.asg 2 (.lst (.cons (.tup (.nil)) (.nil))))
 (.cons (.for_ (.nm 3) (.seq (.var 1)) (b_fewest_rebuilt_4) [3])
 (.cons (.for_ (.tp [.nm 4, .nm 5]) (.seq (.bi .sorted (.cons (.comp [5] (.nm 5) (.seq (.var 2)) (.bl true) (e_fewest_rebuilt_0)) (.nil)))) (b_fewest_rebuilt_2) [4, 5, 6])
 (.cons (.ret (.var 1))
 (.nil)))))
def D_fewest_rebuilt : Def := ⟨1, 8, [], b_fewest_rebuilt⟩
def N_fewest_rebuilt : List Str := [(Str.ofString "groups"), (Str.ofString "objects"), (Str.ofString "rows"), (Str.ofString "own"), (Str.ofString "_"), (Str.ofString "row"), (Str.ofString "left"), (Str.ofString "one")]
/-- strictest: slots 0 groups 1 name 2 ways 3 k 4 way -/
def c_strictest_0 : E :=
 .cmp .In (.var 4) (.var 2)
@[simp] theorem als_c_strictest_0 : als c_strictest_0 = [4, 2] := id rfl
@[simp] theorem mods_c_strictest_0 : mods c_strictest_0 = [] := id rfl
def e_strictest_1 : E :=
 .ix (.ix (.var 0) (.var 3)) (.int 1)
@[simp] theorem als_e_strictest_1 : als e_strictest_1 = [0, 3] := id rfl
@[simp] theorem mods_e_strictest_1 : mods e_strictest_1 = [] := id rfl
def b_strictest : Ss :=
 .cons (.asg 2 (.comp [3] (.nm 3) (.seq (.call 4 (.cons (.var 0) (.cons (.var 1) (.nil))))) (.bl true) (e_strictest_1)))
 (.cons (.ret (.ix (.comp [4] (.nm 4) (.seq (.tup (.cons (.str (Str.ofString "none")) (.cons (.str (Str.ofString "same")) (.cons (.str (Str.ofString "samesize")) (.cons (.str (Str.ofString "largest")) (.cons (.str (Str.ofString "any")) (.nil)))))))) (c_strictest_0) (.var 4)) (.int 0)))
 (.nil))
def D_strictest : Def := ⟨2, 5, [], b_strictest⟩
def N_strictest : List Str := [(Str.ofString "groups"), (Str.ofString "name"), (Str.ofString "ways"), (Str.ofString "k"), (Str.ofString "way")]
/-- brought_by: slots 0 groups 1 objects 2 one 3 own -/
def c_brought_by_0 : E :=
 .cmp .Eq (.ix (.var 2) (.int 3)) (.var 3)
@[simp] theorem als_c_brought_by_0 : als c_brought_by_0 = [2, 3] := id rfl
@[simp] theorem mods_c_brought_by_0 : mods c_brought_by_0 = [] := id rfl
def e_brought_by_1 : E :=
 .ix (.var 2) (.int 0)
@[simp] theorem als_e_brought_by_1 : als e_brought_by_1 = [2] := id rfl
@[simp] theorem mods_e_brought_by_1 : mods e_brought_by_1 = [] := id rfl
def e_brought_by_2 : E :=
 .tup (.cons (.var 3) (.cons (.call 2 (.cons (.comp [2] (.nm 2) (.seq (.var 0)) (c_brought_by_0) (e_brought_by_1)) (.nil))) (.nil)))
@[simp] theorem als_e_brought_by_2 : als e_brought_by_2 = [3, 0, 2, 3, 2] := id rfl
@[simp] theorem mods_e_brought_by_2 : mods e_brought_by_2 = [] := id rfl
def e_brought_by_3 : E :=
 .ix (.var 2) (.int 3)
@[simp] theorem als_e_brought_by_3 : als e_brought_by_3 = [2] := id rfl
@[simp] theorem mods_e_brought_by_3 : mods e_brought_by_3 = [] := id rfl
def b_brought_by : Ss :=
 .cons (.asg 1 (.call 2 (.cons (.comp [2] (.nm 2) (.seq (.var 0)) (.bl true) (e_brought_by_3)) (.nil))))
 (.cons (.ret (.bi .dict (.cons (.comp [3] (.nm 3) (.seq (.var 1)) (.bl true) (e_brought_by_2)) (.nil))))
 (.nil))
def D_brought_by : Def := ⟨1, 4, [], b_brought_by⟩
def N_brought_by : List Str := [(Str.ofString "groups"), (Str.ofString "objects"), (Str.ofString "one"), (Str.ofString "own")]
/-- kept_by_objects: slots 0 groups 1 kept 2 objects 3 name 4 one 5 own 6 k -/
def c_kept_by_objects_0 : E :=
 .cmp .Eq (.ix (.ix (.var 0) (.var 6)) (.int 3)) (.var 5)
@[simp] theorem als_c_kept_by_objects_0 : als c_kept_by_objects_0 = [0, 6, 5] := id rfl
@[simp] theorem mods_c_kept_by_objects_0 : mods c_kept_by_objects_0 = [] := id rfl
def e_kept_by_objects_1 : E :=
 .tup (.cons (.var 5) (.cons (.bi .len (.cons (.comp [6] (.nm 6) (.seq (.var 1)) (c_kept_by_objects_0) (.var 6)) (.nil))) (.nil)))
@[simp] theorem als_e_kept_by_objects_1 : als e_kept_by_objects_1 = [5, 1, 0, 6, 5, 6] := id rfl
@[simp] theorem mods_e_kept_by_objects_1 : mods e_kept_by_objects_1 = [] := id rfl
def e_kept_by_objects_2 : E :=
 .ix (.var 4) (.int 3)
@[simp] theorem als_e_kept_by_objects_2 : als e_kept_by_objects_2 = [4] := id rfl
@[simp] theorem mods_e_kept_by_objects_2 : mods e_kept_by_objects_2 = [] := id rfl
def e_kept_by_objects_3 : E :=
 .call 6 (.cons (.var 0) (.cons (.var 3) (.nil)))
@[simp] theorem als_e_kept_by_objects_3 : als e_kept_by_objects_3 = [0, 3] := id rfl
@[simp] theorem mods_e_kept_by_objects_3 : mods e_kept_by_objects_3 = [] := id rfl
def b_kept_by_objects : Ss :=
 .cons (.asg 1 (.comp [3] (.nm 3) (.seq (.call 5 (.cons (.var 0) (.nil)))) (.bl true) (e_kept_by_objects_3)))
 (.cons (.asg 2 (.call 2 (.cons (.comp [4] (.nm 4) (.seq (.var 0)) (.bl true) (e_kept_by_objects_2)) (.nil))))
 (.cons (.ret (.bi .dict (.cons (.comp [5] (.nm 5) (.seq (.var 2)) (.bl true) (e_kept_by_objects_1)) (.nil))))
 (.nil)))
def D_kept_by_objects : Def := ⟨1, 7, [], b_kept_by_objects⟩
def N_kept_by_objects : List Str := [(Str.ofString "groups"), (Str.ofString "kept"), (Str.ofString "objects"), (Str.ofString "name"), (Str.ofString "one"), (Str.ofString "own"), (Str.ofString "k")]
def N__law_draws : List Str := [(Str.ofString "script"), (Str.ofString "many"), (Str.ofString "draws"), (Str.ofString "mixed"), (Str.ofString "k"), (Str.ofString "cell"), (Str.ofString "rest"), (Str.ofString "turn")]
/-- _law_next: slots 0 w 1 many -/
def b__law_next : Ss :=
 .cons (.augIx 0 (.str (Str.ofString "at")) .Add (.int 1))
 (.cons (.ifs (.cmp .Gt (.ix (.var 0) (.str (Str.ofString "at"))) (.bi .len (.cons (.ix (.var 0) (.str (Str.ofString "draws"))) (.nil)))) (.cons (.ret (.int 0))
 (.nil)) (.nil))
 (.cons (.ret (.bin .Mod (.bi .int (.cons (.ix (.ix (.var 0) (.str (Str.ofString "draws"))) (.bin .Sub (.ix (.var 0) (.str (Str.ofString "at"))) (.int 1))) (.nil))) (.var 1)))
 (.nil)))
def D__law_next : Def := ⟨2, 2, [0], b__law_next⟩
def N__law_next : List Str := [(Str.ofString "w"), (Str.ofString "many")]
/-- _law_pick: slots 0 w 1 rows -/
def b__law_pick : Ss :=
 .cons (.ret (.ix (.var 1) (.call 19 (.cons (.io 0) (.cons (.bi .len (.cons (.var 1) (.nil))) (.nil))))))
 (.nil)
def D__law_pick : Def := ⟨2, 2, [0], b__law_pick⟩
def N__law_pick : List Str := [(Str.ofString "w"), (Str.ofString "rows")]
/-- _law_alike: slots 0 given 1 due 2 k -/
def c__law_alike_0 : E :=
 .un .Not (.call 21 (.cons (.ix (.var 0) (.var 2)) (.cons (.ix (.var 1) (.var 2)) (.nil))))
@[simp] theorem als_c__law_alike_0 : als c__law_alike_0 = [0, 2, 1, 2] := id rfl
@[simp] theorem mods_c__law_alike_0 : mods c__law_alike_0 = [] := id rfl
def b__law_alike : Ss :=
 .cons (.ifs (.bi (.isI "tuple") (.cons (.var 1) (.nil))) (.cons (.ifs (.bop .Or (.un .Not (.bi (.isI "tuple") (.cons (.var 0) (.nil)))) (.cmp .NotEq (.bi .len (.cons (.var 0) (.nil))) (.bi .len (.cons (.var 1) (.nil))))) (.cons (.ret (.bl false))
 (.nil)) (.nil))
 (.cons (.ret (.cmp .Eq (.comp [2] (.nm 2) (.rng (.cons (.bi .len (.cons (.var 1) (.nil))) (.nil))) (c__law_alike_0) (.var 2)) (.lst (.nil))))
 (.nil))) (.nil))
 (.cons (.ifs (.cmp .Is (.var 1) (.non)) (.cons (.ret (.cmp .Is (.var 0) (.non)))
 (.nil)) (.nil))
 (.cons (.ifs (.bi (.isI "bool") (.cons (.var 1) (.nil))) (.cons (.ret (.bop .And (.bi (.isI "bool") (.cons (.var 0) (.nil))) (.cmp .Eq (.var 0) (.var 1))))
 (.nil)) (.nil))
 (.cons (.ifs (.bi (.isI "int") (.cons (.var 1) (.nil))) (.cons (.ret (.bop .And (.bi (.isI "int") (.cons (.var 0) (.nil))) (.bop .And (.un .Not (.bi (.isI "bool") (.cons (.var 0) (.nil)))) (.cmp .Eq (.var 0) (.var 1)))))
 (.nil)) (.nil))
 (.cons (.ret (.bop .And (.bi (.isI "str") (.cons (.var 0) (.nil))) (.cmp .Eq (.var 0) (.var 1))))
 (.nil)))))
def D__law_alike : Def := ⟨2, 3, [], b__law_alike⟩
def N__law_alike : List Str := [(Str.ofString "given"), (Str.ofString "due"), (Str.ofString "k")]
/-- _law_kept: slots 0 groups 1 name 2 lot 3 k -/
def e__law_kept_0 : E :=
 .ix (.ix (.var 0) (.var 3)) (.int 1)
@[simp] theorem als_e__law_kept_0 : als e__law_kept_0 = [0, 3] := id rfl
@[simp] theorem mods_e__law_kept_0 : mods e__law_kept_0 = [] := id rfl
def e__law_kept_1 : E :=
 .tup (.cons (.bin .Sub (.int 0) (.bi .len (.cons (.ix (.ix (.var 0) (.var 3)) (.int 2)) (.nil)))) (.cons (.var 3) (.nil)))
@[simp] theorem als_e__law_kept_1 : als e__law_kept_1 = [0, 3, 3] := id rfl
@[simp] theorem mods_e__law_kept_1 : mods e__law_kept_1 = [] := id rfl
def c__law_kept_2 : E :=
 .cmp .Eq (.ix (.ix (.var 0) (.var 3)) (.int 0)) (.var 1)
@[simp] theorem als_c__law_kept_2 : als c__law_kept_2 = [0, 3, 1] := id rfl
@[simp] theorem mods_c__law_kept_2 : mods c__law_kept_2 = [] := id rfl
def b__law_kept : Ss :=
 .cons (.asg 2 (.comp [3] (.nm 3) (.rng (.cons (.bi .len (.cons (.var 0) (.nil))) (.nil))) (c__law_kept_2) (.var 3)))
 (.cons (.ifs (.cmp .In (.str (Str.ofString "largest")) (.comp [3] (.nm 3) (.seq (.var 2)) (.bl true) (e__law_kept_0))) (.cons (.ret (.ix (.bi .min (.cons (.comp [3] (.nm 3) (.seq (.var 2)) (.bl true) (e__law_kept_1)) (.nil))) (.int 1)))
 (.nil)) (.nil))
 (.cons (.ret (.ix (.var 2) (.int 0)))
 (.nil)))
def D__law_kept : Def := ⟨2, 4, [], b__law_kept⟩
def N__law_kept : List Str := [(Str.ofString "groups"), (Str.ofString "name"), (Str.ofString "lot"), (Str.ofString "k")]
/-- _law_wrong: slots 0 groups 1 name 2 lot 3 k 4 ways 5 one 6 other -/
def b__law_wrong_0 : Ss :=
 .cons (.asgD [4, 5, 6] (.cons (.tup (.cons (.ix (.ix (.var 0) (.ix (.var 2) (.int 0))) (.int 1)) (.cons (.ix (.ix (.var 0) (.var 3)) (.int 1)) (.nil)))) (.cons (.ix (.ix (.var 0) (.ix (.var 2) (.int 0))) (.int 2)) (.cons (.ix (.ix (.var 0) (.var 3)) (.int 2)) (.nil)))))
 (.cons (.ifs (.bop .Or (.cmp .In (.str (Str.ofString "none")) (.var 4)) (.bop .Or (.bop .And (.cmp .In (.str (Str.ofString "samesize")) (.var 4)) (.cmp .NotEq (.bi .len (.cons (.var 5) (.nil))) (.bi .len (.cons (.var 6) (.nil))))) (.bop .And (.cmp .In (.str (Str.ofString "same")) (.var 4)) (.cmp .NotEq (.var 5) (.var 6))))) (.cons (.ret (.var 3))
 (.nil)) (.nil))
 (.nil))
def c__law_wrong_1 : E :=
 .cmp .Eq (.ix (.ix (.var 0) (.var 3)) (.int 0)) (.var 1)
@[simp] theorem als_c__law_wrong_1 : als c__law_wrong_1 = [0, 3, 1] := id rfl
@[simp] theorem mods_c__law_wrong_1 : mods c__law_wrong_1 = [] := id rfl
def b__law_wrong : Ss :=
 .cons (.asg 2 (.comp [3] (.nm 3) (.rng (.cons (.bi .len (.cons (.var 0) (.nil))) (.nil))) (c__law_wrong_1) (.var 3)))
 (.cons (.for_ (.nm 3) (.seq (.sl (.var 2) (.so (.int 1)) .no)) (b__law_wrong_0) [3, 4, 5, 6])
 (.cons (.ret (.non))
 (.nil)))
def D__law_wrong : Def := ⟨2, 7, [], b__law_wrong⟩
def N__law_wrong : List Str := [(Str.ofString "groups"), (Str.ofString "name"), (Str.ofString "lot"), (Str.ofString "k"), (Str.ofString "ways"), (Str.ofString "one"), (Str.ofString "other")]
/-- _law_twins: slots 0 groups 1 names 2 name 3 own -/
def c__law_twins_0 : E :=
 .cmp .Eq (.ix (.var 3) (.int 0)) (.var 2)
@[simp] theorem als_c__law_twins_0 : als c__law_twins_0 = [3, 2] := id rfl
@[simp] theorem mods_c__law_twins_0 : mods c__law_twins_0 = [] := id rfl
def e__law_twins_1 : E :=
 .tup (.cons (.ix (.var 3) (.int 2)) (.cons (.bl true) (.nil)))
@[simp] theorem als_e__law_twins_1 : als e__law_twins_1 = [3] := id rfl
@[simp] theorem mods_e__law_twins_1 : mods e__law_twins_1 = [] := id rfl
def c__law_twins_2 : E :=
 .cmp .Gt (.bi .len (.cons (.bi .dict (.cons (.comp [3] (.nm 3) (.seq (.var 0)) (c__law_twins_0) (e__law_twins_1)) (.nil))) (.nil))) (.int 1)
@[simp] theorem als_c__law_twins_2 : als c__law_twins_2 = [0, 3, 2, 3] := id rfl
@[simp] theorem mods_c__law_twins_2 : mods c__law_twins_2 = [] := id rfl
def e__law_twins_3 : E :=
 .tup (.cons (.ix (.var 3) (.int 0)) (.cons (.bl true) (.nil)))
@[simp] theorem als_e__law_twins_3 : als e__law_twins_3 = [3] := id rfl
@[simp] theorem mods_e__law_twins_3 : mods e__law_twins_3 = [] := id rfl
def b__law_twins : Ss :=
 .cons (.asg 1 (.bi .sorted (.cons (.bi .dict (.cons (.comp [3] (.nm 3) (.seq (.var 0)) (.bl true) (e__law_twins_3)) (.nil))) (.nil))))
 (.cons (.ret (.comp [2] (.nm 2) (.seq (.var 1)) (c__law_twins_2) (.var 2)))
 (.nil))
def D__law_twins : Def := ⟨1, 4, [], b__law_twins⟩
def N__law_twins : List Str := [(Str.ofString "groups"), (Str.ofString "names"), (Str.ofString "name"), (Str.ofString "own")]
/-- law: slots 0 script 1 w 2 turn 3 ways 4 groups 5 names 6 objects 7 kept 8 wrong 9 due 10 k 11 lot 12 strict 13 turned 14 hang 15 sees 16 bad 17 gone 18 own 19 seen 20 sets 21 able 22 name 23 one 24 j 25 way -/
def b_law_0 : Ss :=
 .cons (.ifs (.un .Not (.call 21 (.cons (.call 3 (.cons (.var 16) (.nil))) (.cons (.bl false) (.nil))))) (.cons (.ret (.bl false))
 (.nil)) (.nil))
 (.nil)
def c_law_1 : E :=
 .cmp .NotIn (.ix (.var 18) (.int 3)) (.var 23)
@[simp] theorem als_c_law_1 : als c_law_1 = [18, 23] := id rfl
@[simp] theorem mods_c_law_1 : mods c_law_1 = [] := id rfl
def c_law_2 : E :=
 .cmp .Eq (.call 24 (.cons (.comp [18] (.nm 18) (.seq (.var 4)) (c_law_1) (.var 18)) (.nil))) (.lst (.nil))
@[simp] theorem als_c_law_2 : als c_law_2 = [4, 18, 23, 18] := id rfl
@[simp] theorem mods_c_law_2 : mods c_law_2 = [] := id rfl
def e_law_3 : E :=
 .tup (.cons (.bi .len (.cons (.var 23) (.nil))) (.cons (.var 23) (.nil)))
@[simp] theorem als_e_law_3 : als e_law_3 = [23, 23] := id rfl
@[simp] theorem mods_e_law_3 : mods e_law_3 = [] := id rfl
def e_law_4 : E :=
 .bin .Add (.var 23) (.tup (.cons (.var 18) (.nil)))
@[simp] theorem als_e_law_4 : als e_law_4 = [23, 18] := id rfl
@[simp] theorem mods_e_law_4 : mods e_law_4 = [] := id rfl
def b_law_5 : Ss :=
 .cons (.asg 20 (.bin .Add (.var 20) (.comp [23] (.nm 23) (.seq (.var 20)) (.bl true) (e_law_4))))
 (.nil)
def c_law_6 : E :=
 .bop .And (.cmp .Eq (.ix (.var 23) (.int 0)) (.var 22)) (.cmp .Eq (.ix (.var 23) (.int 3)) (.var 18))
@[simp] theorem als_c_law_6 : als c_law_6 = [23, 22, 23, 18] := id rfl
@[simp] theorem mods_c_law_6 : mods c_law_6 = [] := id rfl
def c_law_7 : E :=
 .cmp .NotEq (.comp [23] (.nm 23) (.seq (.var 4)) (c_law_6) (.int 1)) (.lst (.nil))
@[simp] theorem als_c_law_7 : als c_law_7 = [4, 23, 22, 23, 18] := id rfl
@[simp] theorem mods_c_law_7 : mods c_law_7 = [] := id rfl
def e_law_8 : E :=
 .tup (.cons (.var 18) (.cons (.bi .tuple (.cons (.comp [22] (.nm 22) (.seq (.var 5)) (c_law_7) (.var 22)) (.nil))) (.nil)))
@[simp] theorem als_e_law_8 : als e_law_8 = [18, 5, 4, 23, 22, 23, 18, 22] := id rfl
@[simp] theorem mods_e_law_8 : mods e_law_8 = [] := id rfl
def c_law_9 : E :=
 .cmp .Eq (.ix (.ix (.var 4) (.var 10)) (.int 3)) (.var 18)
@[simp] theorem als_c_law_9 : als c_law_9 = [4, 10, 18] := id rfl
@[simp] theorem mods_c_law_9 : mods c_law_9 = [] := id rfl
def e_law_10 : E :=
 .tup (.cons (.var 18) (.cons (.bi .len (.cons (.comp [10] (.nm 10) (.seq (.var 7)) (c_law_9) (.var 10)) (.nil))) (.nil)))
@[simp] theorem als_e_law_10 : als e_law_10 = [18, 7, 4, 10, 18, 10] := id rfl
@[simp] theorem mods_e_law_10 : mods e_law_10 = [] := id rfl
def b_law_11 : Ss :=
 .cons (.ifs (.cmp .NotEq (.call 12 (.cons (.var 4) (.cons (.var 18) (.nil)))) (.var 19)) (.cons (.ret (.bl false))
 (.nil)) (.nil))
 (.nil)
def c_law_12 : E :=
 .cmp .NotIn (.var 10) (.var 7)
@[simp] theorem als_c_law_12 : als c_law_12 = [10, 7] := id rfl
@[simp] theorem mods_c_law_12 : mods c_law_12 = [] := id rfl
def e_law_13 : E :=
 .bi .len (.cons (.ix (.ix (.var 4) (.var 10)) (.int 2)) (.nil))
@[simp] theorem als_e_law_13 : als e_law_13 = [4, 10] := id rfl
@[simp] theorem mods_e_law_13 : mods e_law_13 = [] := id rfl
def c_law_14 : E :=
 .cmp .In (.bl false) (.bi .listVals (.cons (.var 19) (.nil)))
@[simp] theorem als_c_law_14 : als c_law_14 = [19] := id rfl
@[simp] theorem mods_c_law_14 : mods c_law_14 = [] := id rfl
def c_law_15 : E :=
 .bop .And (.cmp .Eq (.ix (.var 23) (.int 3)) (.var 18)) (.cmp .Eq (.ix (.var 23) (.int 0)) (.var 22))
@[simp] theorem als_c_law_15 : als c_law_15 = [23, 18, 23, 22] := id rfl
@[simp] theorem mods_c_law_15 : mods c_law_15 = [] := id rfl
def c_law_16 : E :=
 .bop .And (.cmp .Eq (.ix (.var 23) (.int 3)) (.var 18)) (.bop .And (.cmp .Eq (.ix (.var 23) (.int 0)) (.var 22)) (.cmp .NotEq (.ix (.var 23) (.int 2)) (.ix (.ix (.var 4) (.call 22 (.cons (.var 4) (.cons (.var 22) (.nil))))) (.int 2))))
@[simp] theorem als_c_law_16 : als c_law_16 = [23, 18, 23, 22, 23, 4, 4, 22] := id rfl
@[simp] theorem mods_c_law_16 : mods c_law_16 = [] := id rfl
def c_law_17 : E :=
 .cmp .NotEq (.comp [23] (.nm 23) (.seq (.var 4)) (c_law_15) (.int 1)) (.lst (.nil))
@[simp] theorem als_c_law_17 : als c_law_17 = [4, 23, 18, 23, 22] := id rfl
@[simp] theorem mods_c_law_17 : mods c_law_17 = [] := id rfl
def e_law_18 : E :=
 .tup (.cons (.var 22) (.cons (.cmp .Eq (.comp [23] (.nm 23) (.seq (.var 4)) (c_law_16) (.int 1)) (.lst (.nil))) (.nil)))
@[simp] theorem als_e_law_18 : als e_law_18 = [22, 4, 23, 18, 23, 22, 23, 4, 4, 22] := id rfl
@[simp] theorem mods_e_law_18 : mods e_law_18 = [] := id rfl
def e_law_19 : E :=
 .tup (.cons (.var 18) (.cons (.bi .dict (.cons (.comp [22] (.nm 22) (.seq (.var 5)) (c_law_17) (e_law_18)) (.nil))) (.nil)))
@[simp] theorem als_e_law_19 : als e_law_19 = [18, 5, 4, 23, 18, 23, 22, 22, 4, 23, 18, 23, 22, 23, 4, 4, 22] := id rfl
@[simp] theorem mods_e_law_19 : mods e_law_19 = [] := id rfl
def c_law_20 : E :=
 .cmp .NotEq (.ix (.ix (.var 4) (.ix (.var 7) (.var 10))) (.int 2)) (.ix (.ix (.var 13) (.call 22 (.cons (.var 13) (.cons (.ix (.var 5) (.var 10)) (.nil))))) (.int 2))
@[simp] theorem als_c_law_20 : als c_law_20 = [4, 7, 10, 13, 13, 5, 10] := id rfl
@[simp] theorem mods_c_law_20 : mods c_law_20 = [] := id rfl
def e_law_21 : E :=
 .ix (.var 5) (.var 10)
@[simp] theorem als_e_law_21 : als e_law_21 = [5, 10] := id rfl
@[simp] theorem mods_e_law_21 : mods e_law_21 = [] := id rfl
def e_law_22 : E :=
 .ix (.ix (.var 4) (.var 24)) (.int 1)
@[simp] theorem als_e_law_22 : als e_law_22 = [4, 24] := id rfl
@[simp] theorem mods_e_law_22 : mods e_law_22 = [] := id rfl
def c_law_23 : E :=
 .cmp .In (.var 25) (.comp [24] (.nm 24) (.seq (.var 11)) (.bl true) (e_law_22))
@[simp] theorem als_c_law_23 : als c_law_23 = [25, 11, 4, 24] := id rfl
@[simp] theorem mods_c_law_23 : mods c_law_23 = [] := id rfl
def c_law_24 : E :=
 .cmp .Eq (.ix (.ix (.var 4) (.var 24)) (.int 0)) (.ix (.var 5) (.var 10))
@[simp] theorem als_c_law_24 : als c_law_24 = [4, 24, 5, 10] := id rfl
@[simp] theorem mods_c_law_24 : mods c_law_24 = [] := id rfl
def b_law_25 : Ss :=
 .cons (.asg 11 (.bi .tuple (.cons (.comp [24] (.nm 24) (.rng (.cons (.bi .len (.cons (.var 4) (.nil))) (.nil))) (c_law_24) (.var 24)) (.nil))))
 (.cons (.asg 12 (.ix (.comp [25] (.nm 25) (.seq (.tup (.cons (.str (Str.ofString "none")) (.cons (.str (Str.ofString "same")) (.cons (.str (Str.ofString "samesize")) (.cons (.str (Str.ofString "largest")) (.cons (.str (Str.ofString "any")) (.nil)))))))) (c_law_23) (.var 25)) (.int 0)))
 (.cons (.ifs (.un .Not (.call 21 (.cons (.tup (.cons (.call 4 (.cons (.var 4) (.cons (.ix (.var 5) (.var 10)) (.nil)))) (.cons (.call 6 (.cons (.var 4) (.cons (.ix (.var 5) (.var 10)) (.nil)))) (.cons (.call 7 (.cons (.var 4) (.cons (.ix (.var 5) (.var 10)) (.nil)))) (.cons (.call 15 (.cons (.var 4) (.cons (.ix (.var 5) (.var 10)) (.nil)))) (.nil)))))) (.cons (.tup (.cons (.var 11) (.cons (.ix (.var 7) (.var 10)) (.cons (.call 23 (.cons (.var 4) (.cons (.ix (.var 5) (.var 10)) (.nil)))) (.cons (.var 12) (.nil)))))) (.nil))))) (.cons (.ret (.bl false))
 (.nil)) (.nil))
 (.nil)))
def c_law_26 : E :=
 .cmp .IsNot (.call 23 (.cons (.var 4) (.cons (.var 22) (.nil)))) (.non)
@[simp] theorem als_c_law_26 : als c_law_26 = [4, 22] := id rfl
@[simp] theorem mods_c_law_26 : mods c_law_26 = [] := id rfl
def e_law_27 : E :=
 .tup (.cons (.var 22) (.cons (.call 23 (.cons (.var 4) (.cons (.var 22) (.nil)))) (.nil)))
@[simp] theorem als_e_law_27 : als e_law_27 = [22, 4, 22] := id rfl
@[simp] theorem mods_e_law_27 : mods e_law_27 = [] := id rfl
def e_law_28 : E :=
 .call 22 (.cons (.var 4) (.cons (.var 22) (.nil)))
@[simp] theorem als_e_law_28 : als e_law_28 = [4, 22] := id rfl
@[simp] theorem mods_e_law_28 : mods e_law_28 = [] := id rfl
def e_law_29 : E :=
 .tup (.cons (.ix (.var 18) (.int 0)) (.cons (.bl true) (.nil)))
@[simp] theorem als_e_law_29 : als e_law_29 = [18] := id rfl
@[simp] theorem mods_e_law_29 : mods e_law_29 = [] := id rfl
def e_law_30 : E :=
 .tup (.cons (.ix (.var 18) (.int 3)) (.cons (.bl true) (.nil)))
@[simp] theorem als_e_law_30 : als e_law_30 = [18] := id rfl
@[simp] theorem mods_e_law_30 : mods e_law_30 = [] := id rfl
def e_law_31 : E :=
 .tup (.cons (.call 20 (.cons (.io 1) (.cons (.lst (.cons (.str (Str.ofString "f")) (.cons (.str (Str.ofString "g")) (.cons (.str (Str.ofString "h")) (.nil))))) (.nil)))) (.cons (.call 20 (.cons (.io 1) (.cons (.var 3) (.nil)))) (.cons (.call 20 (.cons (.io 1) (.cons (.lst (.cons (.str (Str.ofString "")) (.cons (.str (Str.ofString "x")) (.cons (.str (Str.ofString "x")) (.cons (.str (Str.ofString "y")) (.cons (.str (Str.ofString "xy")) (.cons (.str (Str.ofString "xyz")) (.nil)))))))) (.nil)))) (.cons (.call 20 (.cons (.io 1) (.cons (.lst (.cons (.str (Str.ofString "one")) (.cons (.str (Str.ofString "two")) (.cons (.str (Str.ofString "three")) (.nil))))) (.nil)))) (.nil)))))
@[simp] theorem als_e_law_31 : als e_law_31 = [3] := id rfl
@[simp] theorem mods_e_law_31 : mods e_law_31 = [1, 1, 1, 1] := id rfl
def b_law_32 : Ss :=
 .cons (.asg 3 (.call 20 (.cons (.io 1) (.cons (.lst (.cons (.lst (.cons (.str (Str.ofString "any")) (.cons (.str (Str.ofString "any")) (.cons (.str (Str.ofString "same")) (.nil))))) (.cons (.lst (.cons (.str (Str.ofString "any")) (.cons (.str (Str.ofString "samesize")) (.cons (.str (Str.ofString "same")) (.cons (.str (Str.ofString "largest")) (.cons (.str (Str.ofString "none")) (.nil))))))) (.cons (.lst (.cons (.str (Str.ofString "any")) (.cons (.str (Str.ofString "largest")) (.nil)))) (.nil))))) (.nil)))))
 (.cons (.asg 4 (.bi .tuple (.cons (.comp [10] (.nm 10) (.rng (.cons (.call 19 (.cons (.io 1) (.cons (.int 8) (.nil)))) (.nil))) (.bl true) (e_law_31)) (.nil))))
 (.cons (.asgD [5, 6] (.cons (.bi .sorted (.cons (.bi .dict (.cons (.comp [18] (.nm 18) (.seq (.var 4)) (.bl true) (e_law_29)) (.nil))) (.nil))) (.cons (.bi .sorted (.cons (.bi .dict (.cons (.comp [18] (.nm 18) (.seq (.var 4)) (.bl true) (e_law_30)) (.nil))) (.nil))) (.nil))))
 (.cons (.asg 7 (.comp [22] (.nm 22) (.seq (.var 5)) (.bl true) (e_law_28)))
 (.cons (.asg 8 (.comp [22] (.nm 22) (.seq (.var 5)) (c_law_26) (e_law_27)))
 (.cons (.asg 9 (.ite (.cmp .NotEq (.var 8) (.lst (.nil))) (.bin .Add (.tup (.cons (.str (Str.ofString "no")) (.nil))) (.ix (.var 8) (.int 0))) (.tup (.cons (.str (Str.ofString "yes")) (.cons (.bi .tuple (.cons (.bi .sorted (.cons (.var 7) (.nil))) (.nil))) (.nil))))))
 (.cons (.ifs (.un .Not (.call 21 (.cons (.tup (.cons (.call 5 (.cons (.var 4) (.nil))) (.cons (.call 8 (.cons (.var 4) (.nil))) (.cons (.call 3 (.cons (.var 4) (.nil))) (.nil))))) (.cons (.tup (.cons (.bi .tuple (.cons (.var 5) (.nil))) (.cons (.var 9) (.cons (.bl true) (.nil))))) (.nil))))) (.cons (.ret (.bl false))
 (.nil)) (.nil))
 (.cons (.for_ (.nm 10) (.rng (.cons (.bi .len (.cons (.var 5) (.nil))) (.nil))) (b_law_25) [10, 11, 12])
 (.cons (.asg 13 (.rev (.var 4)))
 (.cons (.asg 14 (.bi .tuple (.cons (.comp [10] (.nm 10) (.rng (.cons (.bi .len (.cons (.var 5) (.nil))) (.nil))) (c_law_20) (e_law_21)) (.nil))))
 (.cons (.asg 15 (.comp [18] (.nm 18) (.seq (.var 6)) (.bl true) (e_law_19)))
 (.cons (.asg 16 (.bi .tuple (.cons (.comp [18, 19] (.tp [.nm 18, .nm 19]) (.seq (.var 15)) (c_law_14) (.var 18)) (.nil))))
 (.cons (.asg 17 (.bi .sum (.cons (.comp [10] (.nm 10) (.rng (.cons (.bi .len (.cons (.var 4) (.nil))) (.nil))) (c_law_12) (e_law_13)) (.nil))))
 (.cons (.ifs (.un .Not (.call 21 (.cons (.tup (.cons (.call 11 (.cons (.var 4) (.nil))) (.cons (.call 13 (.cons (.var 4) (.nil))) (.cons (.call 10 (.cons (.var 4) (.nil))) (.cons (.call 9 (.cons (.var 4) (.nil))) (.nil)))))) (.cons (.tup (.cons (.var 14) (.cons (.var 16) (.cons (.bi .tuple (.cons (.call 24 (.cons (.var 4) (.nil))) (.nil))) (.cons (.var 17) (.nil)))))) (.nil))))) (.cons (.ret (.bl false))
 (.nil)) (.nil))
 (.cons (.for_ (.tp [.nm 18, .nm 19]) (.seq (.var 15)) (b_law_11) [18, 19])
 (.cons (.ifs (.cmp .NotEq (.call 17 (.cons (.var 4) (.nil))) (.bi .dict (.cons (.comp [18] (.nm 18) (.seq (.var 6)) (.bl true) (e_law_10)) (.nil)))) (.cons (.ret (.bl false))
 (.nil)) (.nil))
 (.cons (.ifs (.cmp .NotEq (.call 16 (.cons (.var 4) (.nil))) (.bi .dict (.cons (.comp [18] (.nm 18) (.seq (.var 6)) (.bl true) (e_law_8)) (.nil)))) (.cons (.ret (.bl false))
 (.nil)) (.nil))
 (.cons (.asg 20 (.lst (.cons (.tup (.nil)) (.nil))))
 (.cons (.for_ (.nm 18) (.seq (.var 6)) (b_law_5) [18])
 (.cons (.asg 21 (.bi .sorted (.cons (.comp [23] (.nm 23) (.seq (.var 20)) (c_law_2) (e_law_3)) (.nil))))
 (.cons (.ifs (.un .Not (.call 21 (.cons (.call 14 (.cons (.var 4) (.nil))) (.cons (.ix (.ix (.var 21) (.int 0)) (.int 1)) (.nil))))) (.cons (.ret (.bl false))
 (.nil)) (.nil))
 (.cons (.for_ (.nm 16) (.seq (.tup (.cons (.bi .list (.cons (.var 4) (.nil))) (.cons (.non) (.cons (.bin .Add (.var 4) (.tup (.cons (.tup (.cons (.str (Str.ofString "f")) (.cons (.str (Str.ofString "some")) (.cons (.str (Str.ofString "x")) (.cons (.str (Str.ofString "one")) (.nil)))))) (.nil)))) (.cons (.bin .Add (.var 4) (.tup (.cons (.tup (.cons (.str (Str.ofString "f")) (.cons (.str (Str.ofString "any")) (.cons (.int 1) (.cons (.str (Str.ofString "one")) (.nil)))))) (.nil)))) (.cons (.bin .Add (.var 4) (.tup (.cons (.tup (.cons (.str (Str.ofString "f")) (.cons (.str (Str.ofString "any")) (.cons (.str (Str.ofString "x")) (.nil))))) (.nil)))) (.cons (.bin .Add (.var 4) (.tup (.cons (.tup (.cons (.str (Str.ofString "")) (.cons (.str (Str.ofString "any")) (.cons (.str (Str.ofString "x")) (.cons (.str (Str.ofString "one")) (.nil)))))) (.nil)))) (.cons (.bin .Add (.var 4) (.tup (.cons (.tup (.cons (.str (Str.ofString "f")) (.cons (.str (Str.ofString "any")) (.cons (.str (Str.ofString "x")) (.cons (.non) (.nil)))))) (.nil)))) (.cons (.bin .Add (.var 4) (.tup (.cons (.tup (.cons (.int 1) (.cons (.str (Str.ofString "any")) (.cons (.str (Str.ofString "x")) (.cons (.str (Str.ofString "one")) (.nil)))))) (.nil)))) (.nil))))))))))) (b_law_0) [16])
 (.nil))))))))))))))))))))))
def b_law : Ss :=
 .cons (.for_ (.nm 2) (.rng (.cons (.int 8) (.nil))) (b_law_32) [2, 3, 4, 5, 6, 7, 8, 9, 10, 11, 12, 13, 14, 15, 16, 17, 18, 19, 20, 21])
 (.cons (.ret (.bl true))
 (.nil))
def D_law : Def := ⟨1, 26, [], b_law⟩
def N_law : List Str := [(Str.ofString "script"), (Str.ofString "w"), (Str.ofString "turn"), (Str.ofString "ways"), (Str.ofString "groups"), (Str.ofString "names"), (Str.ofString "objects"), (Str.ofString "kept"), (Str.ofString "wrong"), (Str.ofString "due"), (Str.ofString "k"), (Str.ofString "lot"), (Str.ofString "strict"), (Str.ofString "turned"), (Str.ofString "hang"), (Str.ofString "sees"), (Str.ofString "bad"), (Str.ofString "gone"), (Str.ofString "own"), (Str.ofString "seen"), (Str.ofString "sets"), (Str.ofString "able"), (Str.ofString "name"), (Str.ofString "one"), (Str.ofString "j"), (Str.ofString "way")]
def tbl : List Def := [D_is_tuple_of, D_is_name, D_set_of, D_are_groups, D_lot_of, D_group_names, D_kept_of, D_wrong_in, D_choose_groups, D_signs_dropped, D_unlike_twins, D_groups_hang, D_seen_by, D_misled, D_fewest_rebuilt, D_strictest, D_brought_by, D_kept_by_objects, D_is_tuple_of, D__law_next, D__law_pick, D__law_alike, D__law_kept, D__law_wrong, D__law_twins]
def gls : List PyData := [.str (Str.ofString "abcdefghijklmnopqrstuvwxyz"), .str (Str.ofString "0123456789"), .tuple [.str (Str.ofString "any"), .str (Str.ofString "samesize"), .str (Str.ofString "same"), .str (Str.ofString "largest"), .str (Str.ofString "none")]]
def gn : List Str := ["LETTERS", "DIGITS", "WAYS"]
def bn : List Str := ["abs", "all", "any", "bool", "dict", "int", "isinstance", "len", "list", "min", "range", "set", "sorted", "str", "sum", "tuple"]
def T : List (Str × List Bool) := [("is_tuple_of", [false, false]), ("is_name", [false]), ("set_of", [false]), ("are_groups", [false]), ("lot_of", [false, false]), ("group_names", [false]), ("kept_of", [false, false]), ("wrong_in", [false, false]), ("choose_groups", [false]), ("signs_dropped", [false]), ("unlike_twins", [false]), ("groups_hang", [false]), ("seen_by", [false, false]), ("misled", [false]), ("fewest_rebuilt", [false]), ("strictest", [false, false]), ("brought_by", [false]), ("kept_by_objects", [false]), ("is_tuple_of", [false, false]), ("_law_next", [true, false]), ("_law_pick", [true, false]), ("_law_alike", [false, false]), ("_law_kept", [false, false]), ("_law_wrong", [false, false]), ("_law_twins", [false])]
abbrev F_is_tuple_of : Nat := 0
abbrev F_is_name : Nat := 1
abbrev F_set_of : Nat := 2
abbrev F_are_groups : Nat := 3
abbrev F_lot_of : Nat := 4
abbrev F_group_names : Nat := 5
abbrev F_kept_of : Nat := 6
abbrev F_wrong_in : Nat := 7
abbrev F_choose_groups : Nat := 8
abbrev F_signs_dropped : Nat := 9
abbrev F_unlike_twins : Nat := 10
abbrev F_groups_hang : Nat := 11
abbrev F_seen_by : Nat := 12
abbrev F_misled : Nat := 13
abbrev F_fewest_rebuilt : Nat := 14
abbrev F_strictest : Nat := 15
abbrev F_brought_by : Nat := 16
abbrev F_kept_by_objects : Nat := 17
abbrev F__law_draws : Nat := 18
abbrev F__law_next : Nat := 19
abbrev F__law_pick : Nat := 20
abbrev F__law_alike : Nat := 21
abbrev F__law_kept : Nat := 22
abbrev F__law_wrong : Nat := 23
abbrev F__law_twins : Nat := 24
abbrev F_law : Nat := 25
end LW

namespace LW
open PySem PySem.Spec PyProof.Rows L2 PP
def top (i : Nat) : Stmt := PySem.Challenge.pw_linkwright_k25_groups_that_many_bring.main.body.getD i (.Pass ⟨0, 0, 0, 0⟩)
theorem w_is_tuple_of {n : Nat} {X : Cx} (C : Ctx tbl gls gn T bn n X) (hp : PassesOwn (model X.prog X.w) X.A X.env X.xe) (hN : X.N = N_is_tuple_of) (hs : X.env.scope = defScope (top 3)) (hfn : ∀ x, X.fn x = true) :
    PSsv X (phi tbl gls n) gls [] (defBody (top 3)) b_is_tuple_of := by
  have nd : X.N.Nodup := by rw [hN]; decide +kernel
  have n0 : X.N[0]? = some (Str.ofString "thing") := by rw [hN]; rfl
  have l0 : X.env.scope.names.lookup (Str.ofString "thing") = some .local := look_of hs (by kernel_rfl)
  have v0 : Vis X.env.scope "thing" := .inl l0
  have n1 : X.N[1]? = some (Str.ofString "many") := by rw [hN]; rfl
  have l1 : X.env.scope.names.lookup (Str.ofString "many") = some .local := look_of hs (by kernel_rfl)
  have v1 : Vis X.env.scope "many" := .inl l1
  have g_isinstance : Gl X "isinstance" := look_of hs (by kernel_rfl)
  have g_len : Gl X "len" := look_of hs (by kernel_rfl)
  have g_tuple : Gl X "tuple" := look_of hs (by kernel_rfl)
  exact (ss_cons (s_ret (e_and (e_isI g_isinstance (C.free "isinstance" (by decide)) g_tuple (C.free "tuple" (by decide)) rfl (e_var n0 v0)) (e_one (e_cmp C.units (e_callB crLen g_len (C.free "len" (by decide)) rfl (a_cons (e_var n0 v0) a_nil)) (e_var n1 v1) (nomark _)))))
 ss_nil)
theorem w_is_name {n : Nat} {X : Cx} (C : Ctx tbl gls gn T bn n X) (hp : PassesOwn (model X.prog X.w) X.A X.env X.xe) (hN : X.N = N_is_name) (hs : X.env.scope = defScope (top 4)) (hfn : ∀ x, X.fn x = true) :
    PSsv X (phi tbl gls n) gls [] (defBody (top 4)) b_is_name := by
  have nd : X.N.Nodup := by rw [hN]; decide +kernel
  have n0 : X.N[0]? = some (Str.ofString "thing") := by rw [hN]; rfl
  have l0 : X.env.scope.names.lookup (Str.ofString "thing") = some .local := look_of hs (by kernel_rfl)
  have v0 : Vis X.env.scope "thing" := .inl l0
  have n1 : X.N[1]? = some (Str.ofString "sign") := by rw [hN]; rfl
  have g_LETTERS : Gl X "LETTERS" := look_of hs (by kernel_rfl)
  have g_all : Gl X "all" := look_of hs (by kernel_rfl)
  have g_isinstance : Gl X "isinstance" := look_of hs (by kernel_rfl)
  have g_str : Gl X "str" := look_of hs (by kernel_rfl)
  exact (ss_cons (s_if (t_w (w_or (t_not (t_val (e_isI g_isinstance (C.free "isinstance" (by decide)) g_str (C.free "str" (by decide)) rfl (e_var n0 v0)))) (w_or (t_cmp C.units (e_var n0 v0) e_str (nomark _)) (w_or1 (t_cmp C.units (e_ix C.units (e_var n0 v0) e_int (fun _ _ => rfl)) (e_globS g_LETTERS (C.gstr 0 _ _ rfl rfl) rfl) (by with_unfolding_all rfl))))))
 (ss_cons (s_ret e_bl)
 ss_nil)
 ss_nil)
 (ss_cons (s_ret (e_callB (crAll C.calm) g_all (C.free "all" (by decide)) rfl (a_cons (e_comp C.calm nd (i_seq (e_var n0 v0)) (blk_of (own := [("sign", 1)]) hN hs (by kernel_rfl)) rfl (by decide) (fun _ _ _ _ _ => (g_nm nd n1 (locC (by kernel_rfl)) (hfC (by kernel_rfl)))) (fun _ _ _ _ _ => c_nil) (fun _ _ _ _ _ => (e_or (e_cmp C.units (e_var n1 (visC (by kernel_rfl))) (e_globS (glC (by kernel_rfl)) (C.gstr 0 _ _ rfl rfl) rfl) (by with_unfolding_all rfl)) (e_one (e_cmp C.units (e_var n1 (visC (by kernel_rfl))) (e_globS (glC (by kernel_rfl)) (C.gstr 1 _ _ rfl rfl) rfl) (by with_unfolding_all rfl)))))) a_nil)))
 ss_nil))
theorem w_set_of {n : Nat} {X : Cx} (C : Ctx tbl gls gn T bn n X) (hp : PassesOwn (model X.prog X.w) X.A X.env X.xe) (hN : X.N = N_set_of) (hs : X.env.scope = defScope (top 5)) (hfn : ∀ x, X.fn x = true) :
    PSsv X (phi tbl gls n) gls [] (defBody (top 5)) b_set_of := by
  have nd : X.N.Nodup := by rw [hN]; decide +kernel
  have n0 : X.N[0]? = some (Str.ofString "things") := by rw [hN]; rfl
  have l0 : X.env.scope.names.lookup (Str.ofString "things") = some .local := look_of hs (by kernel_rfl)
  have v0 : Vis X.env.scope "things" := .inl l0
  have g_set : Gl X "set" := look_of hs (by kernel_rfl)
  have g_sorted : Gl X "sorted" := look_of hs (by kernel_rfl)
  have g_tuple : Gl X "tuple" := look_of hs (by kernel_rfl)
  exact (ss_cons (s_ret (e_callT tyTuple (fun _ _ z => z) g_tuple (C.free "tuple" (by decide)) rfl (a_cons (e_sortedSet g_sorted (C.free "sorted" (by decide)) g_set (C.free "set" (by decide)) (e_var n0 v0) C.calm C.units) a_nil)))
 ss_nil)
theorem w_are_groups {n : Nat} {X : Cx} (C : Ctx tbl gls gn T bn n X) (hp : PassesOwn (model X.prog X.w) X.A X.env X.xe) (hN : X.N = N_are_groups) (hs : X.env.scope = defScope (top 8)) (hfn : ∀ x, X.fn x = true) :
    PSsv X (phi tbl gls n) gls [] (defBody (top 8)) b_are_groups := by
  have nd : X.N.Nodup := by rw [hN]; decide +kernel
  have n0 : X.N[0]? = some (Str.ofString "thing") := by rw [hN]; rfl
  have l0 : X.env.scope.names.lookup (Str.ofString "thing") = some .local := look_of hs (by kernel_rfl)
  have v0 : Vis X.env.scope "thing" := .inl l0
  have n1 : X.N[1]? = some (Str.ofString "name") := by rw [hN]; rfl
  have l1 : X.env.scope.names.lookup (Str.ofString "name") = some .local := look_of hs (by kernel_rfl)
  have v1 : Vis X.env.scope "name" := .inl l1
  have n2 : X.N[2]? = some (Str.ofString "way") := by rw [hN]; rfl
  have l2 : X.env.scope.names.lookup (Str.ofString "way") = some .local := look_of hs (by kernel_rfl)
  have v2 : Vis X.env.scope "way" := .inl l2
  have n3 : X.N[3]? = some (Str.ofString "data") := by rw [hN]; rfl
  have l3 : X.env.scope.names.lookup (Str.ofString "data") = some .local := look_of hs (by kernel_rfl)
  have v3 : Vis X.env.scope "data" := .inl l3
  have n4 : X.N[4]? = some (Str.ofString "own") := by rw [hN]; rfl
  have l4 : X.env.scope.names.lookup (Str.ofString "own") = some .local := look_of hs (by kernel_rfl)
  have v4 : Vis X.env.scope "own" := .inl l4
  have n5 : X.N[5]? = some (Str.ofString "one") := by rw [hN]; rfl
  have g_WAYS : Gl X "WAYS" := look_of hs (by kernel_rfl)
  have g_all : Gl X "all" := look_of hs (by kernel_rfl)
  have g_is_name : Gl X "is_name" := look_of hs (by kernel_rfl)
  have g_isinstance : Gl X "isinstance" := look_of hs (by kernel_rfl)
  have g_str : Gl X "str" := look_of hs (by kernel_rfl)
  have g_tuple : Gl X "tuple" := look_of hs (by kernel_rfl)
  exact (ss_cons (s_if (t_w (w_or (t_not (t_val (e_isI g_isinstance (C.free "isinstance" (by decide)) g_tuple (C.free "tuple" (by decide)) rfl (e_var n0 v0)))) (w_or1 (t_not (t_val (e_callB (crAll C.calm) g_all (C.free "all" (by decide)) rfl (a_cons (e_comp C.calm nd (i_seq (e_var n0 v0)) (blk_of (own := [("one", 5)]) hN hs (by kernel_rfl)) rfl (by decide) (fun _ _ _ _ _ => (g_nm nd n5 (locC (by kernel_rfl)) (hfC (by kernel_rfl)))) (fun _ _ _ _ _ => c_nil) (fun _ _ _ _ _ => (e_call (C.call 0 _ _ rfl) C.room (glC (by kernel_rfl)) (a_cons (e_var n5 (visC (by kernel_rfl))) (a_cons e_int a_nil))))) a_nil)))))))
 (ss_cons (s_ret e_bl)
 ss_nil)
 ss_nil)
 (ss_cons (s_for hp C.calm (i_seq (e_var n0 v0)) (g_tp C.calm (gs_cons (g_nm nd n1 (.inl l1) (.inr l1)) (gs_cons (g_nm nd n2 (.inl l2) (.inr l2)) (gs_cons (g_nm nd n3 (.inl l3) (.inr l3)) (gs_cons (g_nm nd n4 (.inl l4) (.inr l4)) gs_nil)))))
 (ss_cons (s_if (t_w (w_or (t_not (t_val (e_call (C.call 1 _ _ rfl) C.room g_is_name (a_cons (e_var n1 v1) a_nil)))) (w_or (t_not (t_val (e_isI g_isinstance (C.free "isinstance" (by decide)) g_str (C.free "str" (by decide)) rfl (e_var n2 v2)))) (w_or (t_ninG C.units g_WAYS (C.gtup 2 _ _ rfl rfl) rfl (e_var n2 v2)) (w_or1 (t_not (t_val (e_isI g_isinstance (C.free "isinstance" (by decide)) g_str (C.free "str" (by decide)) rfl (e_var n3 v3)))))))))
 (ss_cons (s_ret e_bl)
 ss_nil)
 ss_nil)
 (ss_cons (s_if (t_not (t_val (e_call (C.call 1 _ _ rfl) C.room g_is_name (a_cons (e_var n4 v4) a_nil))))
 (ss_cons (s_ret e_bl)
 ss_nil)
 ss_nil)
 ss_nil)))
 (ss_cons (s_ret e_bl)
 ss_nil)))
theorem w_lot_of {n : Nat} {X : Cx} (C : Ctx tbl gls gn T bn n X) (hp : PassesOwn (model X.prog X.w) X.A X.env X.xe) (hN : X.N = N_lot_of) (hs : X.env.scope = defScope (top 9)) (hfn : ∀ x, X.fn x = true) :
    PSsv X (phi tbl gls n) gls [] (defBody (top 9)) b_lot_of := by
  have nd : X.N.Nodup := by rw [hN]; decide +kernel
  have n0 : X.N[0]? = some (Str.ofString "groups") := by rw [hN]; rfl
  have l0 : X.env.scope.names.lookup (Str.ofString "groups") = some .cell := look_of hs (by kernel_rfl)
  have v0 : Vis X.env.scope "groups" := .inr (.inl l0)
  have n1 : X.N[1]? = some (Str.ofString "name") := by rw [hN]; rfl
  have l1 : X.env.scope.names.lookup (Str.ofString "name") = some .cell := look_of hs (by kernel_rfl)
  have v1 : Vis X.env.scope "name" := .inr (.inl l1)
  have n2 : X.N[2]? = some (Str.ofString "k") := by rw [hN]; rfl
  have g_len : Gl X "len" := look_of hs (by kernel_rfl)
  have g_range : Gl X "range" := look_of hs (by kernel_rfl)
  have g_tuple : Gl X "tuple" := look_of hs (by kernel_rfl)
  exact (ss_cons (s_ret (e_callT tyTuple (fun _ _ z => z) g_tuple (C.free "tuple" (by decide)) rfl (a_cons (e_comp C.calm nd (i_rng1 g_range (C.free "range" (by decide)) (e_callB crLen g_len (C.free "len" (by decide)) rfl (a_cons (e_var n0 v0) a_nil))) (blk_of (own := [("k", 2)]) hN hs (by kernel_rfl)) rfl (by decide) (fun _ _ _ _ _ => (g_nm nd n2 (locC (by kernel_rfl)) (hfC (by kernel_rfl)))) (fun _ _ _ _ _ => (c_one (t_cmp C.units (e_ix C.units (e_ix C.units (e_var n0 (visC (by kernel_rfl))) (e_var n2 (visC (by kernel_rfl))) (fun _ _ => rfl)) e_int (fun _ _ => rfl)) (e_var n1 (visC (by kernel_rfl))) (nomark _)))) (fun _ _ _ _ _ => (e_var n2 (visC (by kernel_rfl))))) a_nil)))
 ss_nil)
theorem w_group_names {n : Nat} {X : Cx} (C : Ctx tbl gls gn T bn n X) (hp : PassesOwn (model X.prog X.w) X.A X.env X.xe) (hN : X.N = N_group_names) (hs : X.env.scope = defScope (top 10)) (hfn : ∀ x, X.fn x = true) :
    PSsv X (phi tbl gls n) gls [] (defBody (top 10)) b_group_names := by
  have nd : X.N.Nodup := by rw [hN]; decide +kernel
  have n0 : X.N[0]? = some (Str.ofString "groups") := by rw [hN]; rfl
  have l0 : X.env.scope.names.lookup (Str.ofString "groups") = some .local := look_of hs (by kernel_rfl)
  have v0 : Vis X.env.scope "groups" := .inl l0
  have n1 : X.N[1]? = some (Str.ofString "one") := by rw [hN]; rfl
  have g_set_of : Gl X "set_of" := look_of hs (by kernel_rfl)
  exact (ss_cons (s_ret (e_call (C.call 2 _ _ rfl) C.room g_set_of (a_cons (e_comp C.calm nd (i_seq (e_var n0 v0)) (blk_of (own := [("one", 1)]) hN hs (by kernel_rfl)) rfl (by decide) (fun _ _ _ _ _ => (g_nm nd n1 (locC (by kernel_rfl)) (hfC (by kernel_rfl)))) (fun _ _ _ _ _ => c_nil) (fun _ _ _ _ _ => (e_ix C.units (e_var n1 (visC (by kernel_rfl))) e_int (fun _ _ => rfl)))) a_nil)))
 ss_nil)
theorem w_kept_of {n : Nat} {X : Cx} (C : Ctx tbl gls gn T bn n X) (hp : PassesOwn (model X.prog X.w) X.A X.env X.xe) (hN : X.N = N_kept_of) (hs : X.env.scope = defScope (top 11)) (hfn : ∀ x, X.fn x = true) :
    PSsv X (phi tbl gls n) gls [] (defBody (top 11)) b_kept_of := by
  have nd : X.N.Nodup := by rw [hN]; decide +kernel
  have n0 : X.N[0]? = some (Str.ofString "groups") := by rw [hN]; rfl
  have l0 : X.env.scope.names.lookup (Str.ofString "groups") = some .cell := look_of hs (by kernel_rfl)
  have v0 : Vis X.env.scope "groups" := .inr (.inl l0)
  have n1 : X.N[1]? = some (Str.ofString "name") := by rw [hN]; rfl
  have l1 : X.env.scope.names.lookup (Str.ofString "name") = some .local := look_of hs (by kernel_rfl)
  have v1 : Vis X.env.scope "name" := .inl l1
  have n2 : X.N[2]? = some (Str.ofString "lot") := by rw [hN]; rfl
  have l2 : X.env.scope.names.lookup (Str.ofString "lot") = some .local := look_of hs (by kernel_rfl)
  have v2 : Vis X.env.scope "lot" := .inl l2
  have n3 : X.N[3]? = some (Str.ofString "k") := by rw [hN]; rfl
  have g_any : Gl X "any" := look_of hs (by kernel_rfl)
  have g_lot_of : Gl X "lot_of" := look_of hs (by kernel_rfl)
  have g_min : Gl X "min" := look_of hs (by kernel_rfl)
  exact (ss_cons (s_asg nd n2 (.inl l2) (e_call (C.call 4 _ _ rfl) C.room g_lot_of (a_cons (e_var n0 v0) (a_cons (e_var n1 v1) a_nil))) rfl (.inr l2))
 (ss_cons (s_if (t_val (e_callB (crAny C.calm) g_any (C.free "any" (by decide)) rfl (a_cons (e_comp C.calm nd (i_seq (e_var n2 v2)) (blk_of (own := [("k", 3)]) hN hs (by kernel_rfl)) rfl (by decide) (fun _ _ _ _ _ => (g_nm nd n3 (locC (by kernel_rfl)) (hfC (by kernel_rfl)))) (fun _ _ _ _ _ => c_nil) (fun _ _ _ _ _ => (e_cmp C.units (e_ix C.units (e_ix C.units (e_var n0 (visC (by kernel_rfl))) (e_var n3 (visC (by kernel_rfl))) (fun _ _ => rfl)) e_int (fun _ _ => rfl)) e_str (nomark _)))) a_nil)))
 (ss_cons (s_ret (e_ix C.units (e_callB (crMin C.calm C.units) g_min (C.free "min" (by decide)) rfl (a_cons (e_comp C.calm nd (i_seq (e_var n2 v2)) (blk_of (own := [("k", 3)]) hN hs (by kernel_rfl)) rfl (by decide) (fun _ _ _ _ _ => (g_nm nd n3 (locC (by kernel_rfl)) (hfC (by kernel_rfl)))) (fun _ _ _ _ _ => c_nil) (fun _ _ _ _ _ => (e_tup (a_cons (e_neg (e_callB crLen (glC (by kernel_rfl)) (C.free "len" (by decide)) rfl (a_cons (e_ix C.units (e_ix C.units (e_var n0 (visC (by kernel_rfl))) (e_var n3 (visC (by kernel_rfl))) (fun _ _ => rfl)) e_int (fun _ _ => rfl)) a_nil))) (a_cons (e_var n3 (visC (by kernel_rfl))) a_nil))))) a_nil)) e_int (fun _ _ => rfl)))
 ss_nil)
 ss_nil)
 (ss_cons (s_ret (e_ix C.units (e_var n2 v2) e_int (fun _ _ => rfl)))
 ss_nil)))
theorem w_wrong_in {n : Nat} {X : Cx} (C : Ctx tbl gls gn T bn n X) (hp : PassesOwn (model X.prog X.w) X.A X.env X.xe) (hN : X.N = N_wrong_in) (hs : X.env.scope = defScope (top 12)) (hfn : ∀ x, X.fn x = true) :
    PSsv X (phi tbl gls n) gls [] (defBody (top 12)) b_wrong_in := by
  have nd : X.N.Nodup := by rw [hN]; decide +kernel
  have n0 : X.N[0]? = some (Str.ofString "groups") := by rw [hN]; rfl
  have l0 : X.env.scope.names.lookup (Str.ofString "groups") = some .local := look_of hs (by kernel_rfl)
  have v0 : Vis X.env.scope "groups" := .inl l0
  have n1 : X.N[1]? = some (Str.ofString "name") := by rw [hN]; rfl
  have l1 : X.env.scope.names.lookup (Str.ofString "name") = some .local := look_of hs (by kernel_rfl)
  have v1 : Vis X.env.scope "name" := .inl l1
  have n2 : X.N[2]? = some (Str.ofString "lot") := by rw [hN]; rfl
  have l2 : X.env.scope.names.lookup (Str.ofString "lot") = some .local := look_of hs (by kernel_rfl)
  have v2 : Vis X.env.scope "lot" := .inl l2
  have n3 : X.N[3]? = some (Str.ofString "k") := by rw [hN]; rfl
  have l3 : X.env.scope.names.lookup (Str.ofString "k") = some .local := look_of hs (by kernel_rfl)
  have v3 : Vis X.env.scope "k" := .inl l3
  have n4 : X.N[4]? = some (Str.ofString "ways") := by rw [hN]; rfl
  have l4 : X.env.scope.names.lookup (Str.ofString "ways") = some .local := look_of hs (by kernel_rfl)
  have v4 : Vis X.env.scope "ways" := .inl l4
  have n5 : X.N[5]? = some (Str.ofString "one") := by rw [hN]; rfl
  have l5 : X.env.scope.names.lookup (Str.ofString "one") = some .local := look_of hs (by kernel_rfl)
  have v5 : Vis X.env.scope "one" := .inl l5
  have n6 : X.N[6]? = some (Str.ofString "other") := by rw [hN]; rfl
  have l6 : X.env.scope.names.lookup (Str.ofString "other") = some .local := look_of hs (by kernel_rfl)
  have v6 : Vis X.env.scope "other" := .inl l6
  have g_len : Gl X "len" := look_of hs (by kernel_rfl)
  have g_lot_of : Gl X "lot_of" := look_of hs (by kernel_rfl)
  exact (ss_cons (s_asg nd n2 (.inl l2) (e_call (C.call 4 _ _ rfl) C.room g_lot_of (a_cons (e_var n0 v0) (a_cons (e_var n1 v1) a_nil))) rfl (.inr l2))
 (ss_cons (s_for hp C.calm (i_seq (e_sl (e_var n2 v2) (o_so e_int) o_no)) (g_nm nd n3 (.inl l3) (.inr l3))
 (ss_cons (s_par3 C.calm nd n4 n5 n6 (by decide) (by decide) (by decide) l4 l5 l6 (e_tup (a_cons (e_ix C.units (e_ix C.units (e_var n0 v0) (e_ix C.units (e_var n2 v2) e_int (fun _ _ => rfl)) (fun _ _ => rfl)) e_int (fun _ _ => rfl)) (a_cons (e_ix C.units (e_ix C.units (e_var n0 v0) (e_var n3 v3) (fun _ _ => rfl)) e_int (fun _ _ => rfl)) a_nil))) (e_ix C.units (e_ix C.units (e_var n0 v0) (e_ix C.units (e_var n2 v2) e_int (fun _ _ => rfl)) (fun _ _ => rfl)) e_int (fun _ _ => rfl)) (e_ix C.units (e_ix C.units (e_var n0 v0) (e_var n3 v3) (fun _ _ => rfl)) e_int (fun _ _ => rfl)) (sw_of hs (by kernel_rfl)))
 (ss_cons (s_if (t_w (w_or (t_cmp C.units e_str (e_var n4 v4) (by with_unfolding_all rfl)) (w_or (t_w (w_and (t_cmp C.units e_str (e_var n4 v4) (by with_unfolding_all rfl)) (w_and1 (t_cmp C.units (e_callB crLen g_len (C.free "len" (by decide)) rfl (a_cons (e_var n5 v5) a_nil)) (e_callB crLen g_len (C.free "len" (by decide)) rfl (a_cons (e_var n6 v6) a_nil)) (nomark _))))) (w_or1 (t_w (w_and (t_cmp C.units e_str (e_var n4 v4) (by with_unfolding_all rfl)) (w_and1 (t_cmp C.units (e_var n5 v5) (e_var n6 v6) (nomark _)))))))))
 (ss_cons (s_ret (e_var n3 v3))
 ss_nil)
 ss_nil)
 ss_nil)))
 (ss_cons (s_ret e_non)
 ss_nil)))
theorem w_choose_groups {n : Nat} {X : Cx} (C : Ctx tbl gls gn T bn n X) (hp : PassesOwn (model X.prog X.w) X.A X.env X.xe) (hN : X.N = N_choose_groups) (hs : X.env.scope = defScope (top 13)) (hfn : ∀ x, X.fn x = true) :
    PSsv X (phi tbl gls n) gls [] (defBody (top 13)) b_choose_groups := by
  have nd : X.N.Nodup := by rw [hN]; decide +kernel
  have n0 : X.N[0]? = some (Str.ofString "groups") := by rw [hN]; rfl
  have l0 : X.env.scope.names.lookup (Str.ofString "groups") = some .cell := look_of hs (by kernel_rfl)
  have v0 : Vis X.env.scope "groups" := .inr (.inl l0)
  have n1 : X.N[1]? = some (Str.ofString "name") := by rw [hN]; rfl
  have l1 : X.env.scope.names.lookup (Str.ofString "name") = some .local := look_of hs (by kernel_rfl)
  have v1 : Vis X.env.scope "name" := .inl l1
  have n2 : X.N[2]? = some (Str.ofString "wrong") := by rw [hN]; rfl
  have l2 : X.env.scope.names.lookup (Str.ofString "wrong") = some .local := look_of hs (by kernel_rfl)
  have v2 : Vis X.env.scope "wrong" := .inl l2
  have g_group_names : Gl X "group_names" := look_of hs (by kernel_rfl)
  have g_set_of : Gl X "set_of" := look_of hs (by kernel_rfl)
  have g_wrong_in : Gl X "wrong_in" := look_of hs (by kernel_rfl)
  exact (ss_cons (s_for hp C.calm (i_seq (e_call (C.call 5 _ _ rfl) C.room g_group_names (a_cons (e_var n0 v0) a_nil))) (g_nm nd n1 (.inl l1) (.inr l1))
 (ss_cons (s_asg nd n2 (.inl l2) (e_call (C.call 7 _ _ rfl) C.room g_wrong_in (a_cons (e_var n0 v0) (a_cons (e_var n1 v1) a_nil))) rfl (.inr l2))
 (ss_cons (s_if (t_cmp C.units (e_var n2 v2) e_non (nomark _))
 (ss_cons (s_ret (e_tup (a_cons e_str (a_cons (e_var n1 v1) (a_cons (e_var n2 v2) a_nil)))))
 ss_nil)
 ss_nil)
 ss_nil)))
 (ss_cons (s_ret (e_tup (a_cons e_str (a_cons (e_call (C.call 2 _ _ rfl) C.room g_set_of (a_cons (e_comp C.calm nd (i_seq (e_call (C.call 5 _ _ rfl) C.room g_group_names (a_cons (e_var n0 v0) a_nil))) (blk_of (own := [("name", 1)]) hN hs (by kernel_rfl)) rfl (by decide) (fun _ _ _ _ _ => (g_nm nd n1 (locC (by kernel_rfl)) (hfC (by kernel_rfl)))) (fun _ _ _ _ _ => c_nil) (fun _ _ _ _ _ => (e_call (C.call 6 _ _ rfl) C.room (glC (by kernel_rfl)) (a_cons (e_var n0 (visC (by kernel_rfl))) (a_cons (e_var n1 (visC (by kernel_rfl))) a_nil))))) a_nil)) a_nil))))
 ss_nil))
theorem w_signs_dropped {n : Nat} {X : Cx} (C : Ctx tbl gls gn T bn n X) (hp : PassesOwn (model X.prog X.w) X.A X.env X.xe) (hN : X.N = N_signs_dropped) (hs : X.env.scope = defScope (top 14)) (hfn : ∀ x, X.fn x = true) :
    PSsv X (phi tbl gls n) gls [] (defBody (top 14)) b_signs_dropped := by
  have nd : X.N.Nodup := by rw [hN]; decide +kernel
  have n0 : X.N[0]? = some (Str.ofString "groups") := by rw [hN]; rfl
  have l0 : X.env.scope.names.lookup (Str.ofString "groups") = some .cell := look_of hs (by kernel_rfl)
  have v0 : Vis X.env.scope "groups" := .inr (.inl l0)
  have n1 : X.N[1]? = some (Str.ofString "kept") := by rw [hN]; rfl
  have l1 : X.env.scope.names.lookup (Str.ofString "kept") = some .cell := look_of hs (by kernel_rfl)
  have v1 : Vis X.env.scope "kept" := .inr (.inl l1)
  have n2 : X.N[2]? = some (Str.ofString "name") := by rw [hN]; rfl
  have n3 : X.N[3]? = some (Str.ofString "k") := by rw [hN]; rfl
  have g_group_names : Gl X "group_names" := look_of hs (by kernel_rfl)
  have g_len : Gl X "len" := look_of hs (by kernel_rfl)
  have g_range : Gl X "range" := look_of hs (by kernel_rfl)
  have g_sum : Gl X "sum" := look_of hs (by kernel_rfl)
  exact (ss_cons (s_asg nd n1 (.inr l1) (e_comp C.calm nd (i_seq (e_call (C.call 5 _ _ rfl) C.room g_group_names (a_cons (e_var n0 v0) a_nil))) (blk_of (own := [("name", 2)]) hN hs (by kernel_rfl)) rfl (by decide) (fun _ _ _ _ _ => (g_nm nd n2 (locC (by kernel_rfl)) (hfC (by kernel_rfl)))) (fun _ _ _ _ _ => c_nil) (fun _ _ _ _ _ => (e_call (C.call 6 _ _ rfl) C.room (glC (by kernel_rfl)) (a_cons (e_var n0 (visC (by kernel_rfl))) (a_cons (e_var n2 (visC (by kernel_rfl))) a_nil))))) (sw_cell hs (by kernel_rfl)) (.inl (hfn _)))
 (ss_cons (s_ret (e_callB (crSum C.calm) g_sum (C.free "sum" (by decide)) rfl (a_cons (e_comp C.calm nd (i_rng1 g_range (C.free "range" (by decide)) (e_callB crLen g_len (C.free "len" (by decide)) rfl (a_cons (e_var n0 v0) a_nil))) (blk_of (own := [("k", 3)]) hN hs (by kernel_rfl)) rfl (by decide) (fun _ _ _ _ _ => (g_nm nd n3 (locC (by kernel_rfl)) (hfC (by kernel_rfl)))) (fun _ _ _ _ _ => (c_one (t_cmp C.units (e_var n3 (visC (by kernel_rfl))) (e_var n1 (visC (by kernel_rfl))) (by with_unfolding_all rfl)))) (fun _ _ _ _ _ => (e_callB crLen (glC (by kernel_rfl)) (C.free "len" (by decide)) rfl (a_cons (e_ix C.units (e_ix C.units (e_var n0 (visC (by kernel_rfl))) (e_var n3 (visC (by kernel_rfl))) (fun _ _ => rfl)) e_int (fun _ _ => rfl)) a_nil)))) a_nil)))
 ss_nil))
theorem w_unlike_twins {n : Nat} {X : Cx} (C : Ctx tbl gls gn T bn n X) (hp : PassesOwn (model X.prog X.w) X.A X.env X.xe) (hN : X.N = N_unlike_twins) (hs : X.env.scope = defScope (top 15)) (hfn : ∀ x, X.fn x = true) :
    PSsv X (phi tbl gls n) gls [] (defBody (top 15)) b_unlike_twins := by
  have nd : X.N.Nodup := by rw [hN]; decide +kernel
  have n0 : X.N[0]? = some (Str.ofString "groups") := by rw [hN]; rfl
  have l0 : X.env.scope.names.lookup (Str.ofString "groups") = some .cell := look_of hs (by kernel_rfl)
  have v0 : Vis X.env.scope "groups" := .inr (.inl l0)
  have n1 : X.N[1]? = some (Str.ofString "name") := by rw [hN]; rfl
  have n2 : X.N[2]? = some (Str.ofString "k") := by rw [hN]; rfl
  have g_group_names : Gl X "group_names" := look_of hs (by kernel_rfl)
  have g_tuple : Gl X "tuple" := look_of hs (by kernel_rfl)
  exact (ss_cons (s_ret (e_callT tyTuple (fun _ _ z => z) g_tuple (C.free "tuple" (by decide)) rfl (a_cons (e_comp C.calm nd (i_seq (e_call (C.call 5 _ _ rfl) C.room g_group_names (a_cons (e_var n0 v0) a_nil))) (blk_of (own := [("name", 1)]) hN hs (by kernel_rfl)) rfl (by decide) (fun _ _ _ _ _ => (g_nm nd n1 (locC (by kernel_rfl)) (hfC (by kernel_rfl)))) (fun _ _ _ _ _ => (c_one (t_cmp C.units (e_lenSetK (glC (by kernel_rfl)) (C.free "len" (by decide)) (glC (by kernel_rfl)) (C.free "set" (by decide)) (e_comp C.calm nd (i_seq (e_call (C.call 4 _ _ rfl) C.room (glC (by kernel_rfl)) (a_cons (e_var n0 (visC (by kernel_rfl))) (a_cons (e_var n1 (visC (by kernel_rfl))) a_nil)))) (blkIn (own := [("k", 2)]) hN (by kernel_rfl)) rfl (by decide) (fun _ _ _ _ _ => (g_nm nd n2 (locC (by kernel_rfl)) (hfC (by kernel_rfl)))) (fun _ _ _ _ _ => c_nil) (fun _ _ _ _ _ => (e_ix C.units (e_ix C.units (e_var n0 (visC (by kernel_rfl))) (e_var n2 (visC (by kernel_rfl))) (fun _ _ => rfl)) e_int (fun _ _ => rfl)))) C.calm) e_int (nomark _)))) (fun _ _ _ _ _ => (e_var n1 (visC (by kernel_rfl))))) a_nil)))
 ss_nil)
theorem w_groups_hang {n : Nat} {X : Cx} (C : Ctx tbl gls gn T bn n X) (hp : PassesOwn (model X.prog X.w) X.A X.env X.xe) (hN : X.N = N_groups_hang) (hs : X.env.scope = defScope (top 16)) (hfn : ∀ x, X.fn x = true) :
    PSsv X (phi tbl gls n) gls [] (defBody (top 16)) b_groups_hang := by
  have nd : X.N.Nodup := by rw [hN]; decide +kernel
  have n0 : X.N[0]? = some (Str.ofString "groups") := by rw [hN]; rfl
  have l0 : X.env.scope.names.lookup (Str.ofString "groups") = some .local := look_of hs (by kernel_rfl)
  have v0 : Vis X.env.scope "groups" := .inl l0
  have n1 : X.N[1]? = some (Str.ofString "turned") := by rw [hN]; rfl
  have l1 : X.env.scope.names.lookup (Str.ofString "turned") = some .local := look_of hs (by kernel_rfl)
  have v1 : Vis X.env.scope "turned" := .inl l1
  have n2 : X.N[2]? = some (Str.ofString "found") := by rw [hN]; rfl
  have l2 : X.env.scope.names.lookup (Str.ofString "found") = some .local := look_of hs (by kernel_rfl)
  have v2 : Vis X.env.scope "found" := .inl l2
  have n3 : X.N[3]? = some (Str.ofString "name") := by rw [hN]; rfl
  have l3 : X.env.scope.names.lookup (Str.ofString "name") = some .local := look_of hs (by kernel_rfl)
  have v3 : Vis X.env.scope "name" := .inl l3
  have g_group_names : Gl X "group_names" := look_of hs (by kernel_rfl)
  have g_kept_of : Gl X "kept_of" := look_of hs (by kernel_rfl)
  have g_tuple : Gl X "tuple" := look_of hs (by kernel_rfl)
  exact (ss_cons (s_par C.calm nd n1 n2 (by decide) l1 l2 (e_rev (e_var n0 v0)) (e_lst a_nil) (sw_of hs (by kernel_rfl)))
 (ss_cons (s_for hp C.calm (i_seq (e_call (C.call 5 _ _ rfl) C.room g_group_names (a_cons (e_var n0 v0) a_nil))) (g_nm nd n3 (.inl l3) (.inr l3))
 (ss_cons (s_if (t_cmp C.units (e_ix C.units (e_ix C.units (e_var n0 v0) (e_call (C.call 6 _ _ rfl) C.room g_kept_of (a_cons (e_var n0 v0) (a_cons (e_var n3 v3) a_nil))) (fun _ _ => rfl)) e_int (fun _ _ => rfl)) (e_ix C.units (e_ix C.units (e_var n1 v1) (e_call (C.call 6 _ _ rfl) C.room g_kept_of (a_cons (e_var n1 v1) (a_cons (e_var n3 v3) a_nil))) (fun _ _ => rfl)) e_int (fun _ _ => rfl)) (nomark _))
 (ss_cons (s_append n2 v2 (e_var n3 v3))
 ss_nil)
 ss_nil)
 ss_nil))
 (ss_cons (s_ret (e_callT tyTuple (fun _ _ z => z) g_tuple (C.free "tuple" (by decide)) rfl (a_cons (e_var n2 v2) a_nil)))
 ss_nil)))
theorem w_seen_by {n : Nat} {X : Cx} (C : Ctx tbl gls gn T bn n X) (hp : PassesOwn (model X.prog X.w) X.A X.env X.xe) (hN : X.N = N_seen_by) (hs : X.env.scope = defScope (top 17)) (hfn : ∀ x, X.fn x = true) :
    PSsv X (phi tbl gls n) gls [] (defBody (top 17)) b_seen_by := by
  have nd : X.N.Nodup := by rw [hN]; decide +kernel
  have n0 : X.N[0]? = some (Str.ofString "groups") := by rw [hN]; rfl
  have l0 : X.env.scope.names.lookup (Str.ofString "groups") = some .local := look_of hs (by kernel_rfl)
  have v0 : Vis X.env.scope "groups" := .inl l0
  have n1 : X.N[1]? = some (Str.ofString "own") := by rw [hN]; rfl
  have l1 : X.env.scope.names.lookup (Str.ofString "own") = some .local := look_of hs (by kernel_rfl)
  have v1 : Vis X.env.scope "own" := .inl l1
  have n2 : X.N[2]? = some (Str.ofString "found") := by rw [hN]; rfl
  have l2 : X.env.scope.names.lookup (Str.ofString "found") = some .local := look_of hs (by kernel_rfl)
  have v2 : Vis X.env.scope "found" := .inl l2
  have n3 : X.N[3]? = some (Str.ofString "name") := by rw [hN]; rfl
  have l3 : X.env.scope.names.lookup (Str.ofString "name") = some .local := look_of hs (by kernel_rfl)
  have v3 : Vis X.env.scope "name" := .inl l3
  have n4 : X.N[4]? = some (Str.ofString "_") := by rw [hN]; rfl
  have l4 : X.env.scope.names.lookup (Str.ofString "_") = some .local := look_of hs (by kernel_rfl)
  have v4 : Vis X.env.scope "_" := .inl l4
  have n5 : X.N[5]? = some (Str.ofString "data") := by rw [hN]; rfl
  have l5 : X.env.scope.names.lookup (Str.ofString "data") = some .local := look_of hs (by kernel_rfl)
  have v5 : Vis X.env.scope "data" := .inl l5
  have n6 : X.N[6]? = some (Str.ofString "other") := by rw [hN]; rfl
  have l6 : X.env.scope.names.lookup (Str.ofString "other") = some .local := look_of hs (by kernel_rfl)
  have v6 : Vis X.env.scope "other" := .inl l6
  have g_kept_of : Gl X "kept_of" := look_of hs (by kernel_rfl)
  exact (ss_cons (s_asg nd n2 (.inl l2) e_dic0 rfl (.inr l2))
 (ss_cons (s_for hp C.calm (i_seq (e_var n0 v0)) (g_tp C.calm (gs_cons (g_nm nd n3 (.inl l3) (.inr l3)) (gs_cons (g_nm nd n4 (.inl l4) (.inr l4)) (gs_cons (g_nm nd n5 (.inl l5) (.inr l5)) (gs_cons (g_nm nd n6 (.inl l6) (.inr l6)) gs_nil)))))
 (ss_cons (s_if (t_cmp C.units (e_var n6 v6) (e_var n1 v1) (nomark _))
 (ss_cons (s_setIx C.units n2 v2 (e_var n3 v3) (e_and (e_get2 C.units (e_var n2 v2) (e_var n3 v3) e_bl ⟨rfl, rfl, rfl, rfl⟩) (e_one (e_cmp C.units (e_ix C.units (e_ix C.units (e_var n0 v0) (e_call (C.call 6 _ _ rfl) C.room g_kept_of (a_cons (e_var n0 v0) (a_cons (e_var n3 v3) a_nil))) (fun _ _ => rfl)) e_int (fun _ _ => rfl)) (e_var n5 v5) (nomark _)))))
 ss_nil)
 ss_nil)
 ss_nil))
 (ss_cons (s_ret (e_var n2 v2))
 ss_nil)))
theorem w_misled {n : Nat} {X : Cx} (C : Ctx tbl gls gn T bn n X) (hp : PassesOwn (model X.prog X.w) X.A X.env X.xe) (hN : X.N = N_misled) (hs : X.env.scope = defScope (top 18)) (hfn : ∀ x, X.fn x = true) :
    PSsv X (phi tbl gls n) gls [] (defBody (top 18)) b_misled := by
  have nd : X.N.Nodup := by rw [hN]; decide +kernel
  have n0 : X.N[0]? = some (Str.ofString "groups") := by rw [hN]; rfl
  have l0 : X.env.scope.names.lookup (Str.ofString "groups") = some .cell := look_of hs (by kernel_rfl)
  have v0 : Vis X.env.scope "groups" := .inr (.inl l0)
  have n1 : X.N[1]? = some (Str.ofString "_") := by rw [hN]; rfl
  have n2 : X.N[2]? = some (Str.ofString "own") := by rw [hN]; rfl
  have g_set_of : Gl X "set_of" := look_of hs (by kernel_rfl)
  exact (ss_cons (s_ret (e_call (C.call 2 _ _ rfl) C.room g_set_of (a_cons (e_comp C.calm nd (i_seq (e_var n0 v0)) (blk_of (own := [("_", 1), ("_", 1), ("_", 1), ("own", 2)]) hN hs (by kernel_rfl)) rfl (by decide) (fun _ _ _ _ _ => (g_tp C.calm (gs_cons (g_nm nd n1 (locC (by kernel_rfl)) (hfC (by kernel_rfl))) (gs_cons (g_nm nd n1 (locC (by kernel_rfl)) (hfC (by kernel_rfl))) (gs_cons (g_nm nd n1 (locC (by kernel_rfl)) (hfC (by kernel_rfl))) (gs_cons (g_nm nd n2 (locC (by kernel_rfl)) (hfC (by kernel_rfl))) gs_nil)))))) (fun _ _ _ _ _ => (c_one (t_cmp C.units e_bl (e_listVals C.calm (glC (by kernel_rfl)) (C.free "list" (by decide)) (e_call (C.call 12 _ _ rfl) C.room (glC (by kernel_rfl)) (a_cons (e_var n0 (visC (by kernel_rfl))) (a_cons (e_var n2 (visC (by kernel_rfl))) a_nil)))) (by with_unfolding_all rfl)))) (fun _ _ _ _ _ => (e_var n2 (visC (by kernel_rfl))))) a_nil)))
 ss_nil)
theorem w_fewest_rebuilt {n : Nat} {X : Cx} (C : Ctx tbl gls gn T bn n X) (hp : PassesOwn (model X.prog X.w) X.A X.env X.xe) (hN : X.N = N_fewest_rebuilt) (hs : X.env.scope = defScope (top 19)) (hfn : ∀ x, X.fn x = true) :
    PSsv X (phi tbl gls n) gls [] (defBody (top 19)) b_fewest_rebuilt := by
  have nd : X.N.Nodup := by rw [hN]; decide +kernel
  have n0 : X.N[0]? = some (Str.ofString "groups") := by rw [hN]; rfl
  have l0 : X.env.scope.names.lookup (Str.ofString "groups") = some .local := look_of hs (by kernel_rfl)
  have v0 : Vis X.env.scope "groups" := .inl l0
  have n1 : X.N[1]? = some (Str.ofString "objects") := by rw [hN]; rfl
  have l1 : X.env.scope.names.lookup (Str.ofString "objects") = some .local := look_of hs (by kernel_rfl)
  have v1 : Vis X.env.scope "objects" := .inl l1
  have n2 : X.N[2]? = some (Str.ofString "rows") := by rw [hN]; rfl
  have l2 : X.env.scope.names.lookup (Str.ofString "rows") = some .local := look_of hs (by kernel_rfl)
  have v2 : Vis X.env.scope "rows" := .inl l2
  have n3 : X.N[3]? = some (Str.ofString "own") := by rw [hN]; rfl
  have l3 : X.env.scope.names.lookup (Str.ofString "own") = some .cell := look_of hs (by kernel_rfl)
  have v3 : Vis X.env.scope "own" := .inr (.inl l3)
  have n4 : X.N[4]? = some (Str.ofString "_") := by rw [hN]; rfl
  have l4 : X.env.scope.names.lookup (Str.ofString "_") = some .local := look_of hs (by kernel_rfl)
  have v4 : Vis X.env.scope "_" := .inl l4
  have n5 : X.N[5]? = some (Str.ofString "row") := by rw [hN]; rfl
  have l5 : X.env.scope.names.lookup (Str.ofString "row") = some .cell := look_of hs (by kernel_rfl)
  have v5 : Vis X.env.scope "row" := .inr (.inl l5)
  have n6 : X.N[6]? = some (Str.ofString "left") := by rw [hN]; rfl
  have l6 : X.env.scope.names.lookup (Str.ofString "left") = some .local := look_of hs (by kernel_rfl)
  have v6 : Vis X.env.scope "left" := .inl l6
  have n7 : X.N[7]? = some (Str.ofString "one") := by rw [hN]; rfl
  have g_set_of : Gl X "set_of" := look_of hs (by kernel_rfl)
  have g_sorted : Gl X "sorted" := look_of hs (by kernel_rfl)
  have g_tuple : Gl X "tuple" := look_of hs (by kernel_rfl)
  have g_unlike_twins : Gl X "unlike_twins" := look_of hs (by kernel_rfl)
  exact (ss_cons (s_asg nd n1 (.inl l1) (e_call (C.call 2 _ _ rfl) C.room g_set_of (a_cons (e_comp C.calm nd (i_seq (e_var n0 v0)) (blk_of (own := [("one", 7)]) hN hs (by kernel_rfl)) rfl (by decide) (fun _ _ _ _ _ => (g_nm nd n7 (locC (by kernel_rfl)) (hfC (by kernel_rfl)))) (fun _ _ _ _ _ => c_nil) (fun _ _ _ _ _ => (e_ix C.units (e_var n7 (visC (by kernel_rfl))) e_int (fun _ _ => rfl)))) a_nil)) rfl (.inr l1))
 (ss_cons (s_asg nd n2 (.inl l2) (e_lst (a_cons (e_tup a_nil) a_nil)) rfl (.inr l2))
 (ss_cons (s_for hp C.calm (i_seq (e_var n1 v1)) (g_nm nd n3 (.inr l3) (.inl (hfn _)))
 (ss_cons (s_asg nd n2 (.inl l2) (e_bin (e_var n2 v2) (e_comp C.calm nd (i_seq (e_var n2 v2)) (blk_of (own := [("row", 5)]) hN hs (by kernel_rfl)) rfl (by decide) (fun _ _ _ _ _ => (g_nm nd n5 (locC (by kernel_rfl)) (hfC (by kernel_rfl)))) (fun _ _ _ _ _ => c_nil) (fun _ _ _ _ _ => (e_bin (e_var n5 (visC (by kernel_rfl))) (e_tup (a_cons (e_var n3 (visC (by kernel_rfl))) a_nil)))))) rfl (.inr l2))
 ss_nil))
 (ss_cons (s_for hp C.calm (i_seq (e_callB (sortedP C.calm C.units) g_sorted (C.free "sorted" (by decide)) rfl (a_cons (e_comp C.calm nd (i_seq (e_var n2 v2)) (blk_of (own := [("row", 5)]) hN hs (by kernel_rfl)) rfl (by decide) (fun _ _ _ _ _ => (g_nm nd n5 (locC (by kernel_rfl)) (hfC (by kernel_rfl)))) (fun _ _ _ _ _ => c_nil) (fun _ _ _ _ _ => (e_tup (a_cons (e_callB crLen (glC (by kernel_rfl)) (C.free "len" (by decide)) rfl (a_cons (e_var n5 (visC (by kernel_rfl))) a_nil)) (a_cons (e_var n5 (visC (by kernel_rfl))) a_nil))))) a_nil))) (g_tp C.calm (gs_cons (g_nm nd n4 (.inl l4) (.inr l4)) (gs_cons (g_nm nd n5 (.inr l5) (.inl (hfn _))) gs_nil)))
 (ss_cons (s_asg nd n6 (.inl l6) (e_callT tyTuple (fun _ _ z => z) g_tuple (C.free "tuple" (by decide)) rfl (a_cons (e_comp C.calm nd (i_seq (e_var n0 v0)) (blk_of (own := [("one", 7)]) hN hs (by kernel_rfl)) rfl (by decide) (fun _ _ _ _ _ => (g_nm nd n7 (locC (by kernel_rfl)) (hfC (by kernel_rfl)))) (fun _ _ _ _ _ => (c_one (t_cmp C.units (e_ix C.units (e_var n7 (visC (by kernel_rfl))) e_int (fun _ _ => rfl)) (e_var n5 (visC (by kernel_rfl))) (by with_unfolding_all rfl)))) (fun _ _ _ _ _ => (e_var n7 (visC (by kernel_rfl))))) a_nil)) rfl (.inr l6))
 (ss_cons (s_if (t_cmp C.units (e_call (C.call 10 _ _ rfl) C.room g_unlike_twins (a_cons (e_var n6 v6) a_nil)) (e_tup a_nil) (nomark _))
 (ss_cons (s_ret (e_var n5 v5))
 ss_nil)
 ss_nil)
 ss_nil)))
 (ss_cons (s_ret (e_var n1 v1))
 ss_nil)))))
theorem w_strictest {n : Nat} {X : Cx} (C : Ctx tbl gls gn T bn n X) (hp : PassesOwn (model X.prog X.w) X.A X.env X.xe) (hN : X.N = N_strictest) (hs : X.env.scope = defScope (top 20)) (hfn : ∀ x, X.fn x = true) :
    PSsv X (phi tbl gls n) gls [] (defBody (top 20)) b_strictest := by
  have nd : X.N.Nodup := by rw [hN]; decide +kernel
  have n0 : X.N[0]? = some (Str.ofString "groups") := by rw [hN]; rfl
  have l0 : X.env.scope.names.lookup (Str.ofString "groups") = some .cell := look_of hs (by kernel_rfl)
  have v0 : Vis X.env.scope "groups" := .inr (.inl l0)
  have n1 : X.N[1]? = some (Str.ofString "name") := by rw [hN]; rfl
  have l1 : X.env.scope.names.lookup (Str.ofString "name") = some .local := look_of hs (by kernel_rfl)
  have v1 : Vis X.env.scope "name" := .inl l1
  have n2 : X.N[2]? = some (Str.ofString "ways") := by rw [hN]; rfl
  have l2 : X.env.scope.names.lookup (Str.ofString "ways") = some .cell := look_of hs (by kernel_rfl)
  have v2 : Vis X.env.scope "ways" := .inr (.inl l2)
  have n3 : X.N[3]? = some (Str.ofString "k") := by rw [hN]; rfl
  have n4 : X.N[4]? = some (Str.ofString "way") := by rw [hN]; rfl
  have g_lot_of : Gl X "lot_of" := look_of hs (by kernel_rfl)
  exact (ss_cons (s_asg nd n2 (.inr l2) (e_comp C.calm nd (i_seq (e_call (C.call 4 _ _ rfl) C.room g_lot_of (a_cons (e_var n0 v0) (a_cons (e_var n1 v1) a_nil)))) (blk_of (own := [("k", 3)]) hN hs (by kernel_rfl)) rfl (by decide) (fun _ _ _ _ _ => (g_nm nd n3 (locC (by kernel_rfl)) (hfC (by kernel_rfl)))) (fun _ _ _ _ _ => c_nil) (fun _ _ _ _ _ => (e_ix C.units (e_ix C.units (e_var n0 (visC (by kernel_rfl))) (e_var n3 (visC (by kernel_rfl))) (fun _ _ => rfl)) e_int (fun _ _ => rfl)))) (sw_cell hs (by kernel_rfl)) (.inl (hfn _)))
 (ss_cons (s_ret (e_ix C.units (e_comp C.calm nd (i_seq (e_tup (a_cons e_str (a_cons e_str (a_cons e_str (a_cons e_str (a_cons e_str a_nil))))))) (blk_of (own := [("way", 4)]) hN hs (by kernel_rfl)) rfl (by decide) (fun _ _ _ _ _ => (g_nm nd n4 (locC (by kernel_rfl)) (hfC (by kernel_rfl)))) (fun _ _ _ _ _ => (c_one (t_cmp C.units (e_var n4 (visC (by kernel_rfl))) (e_var n2 (visC (by kernel_rfl))) (by with_unfolding_all rfl)))) (fun _ _ _ _ _ => (e_var n4 (visC (by kernel_rfl))))) e_int (fun _ _ => rfl)))
 ss_nil))
theorem w_brought_by {n : Nat} {X : Cx} (C : Ctx tbl gls gn T bn n X) (hp : PassesOwn (model X.prog X.w) X.A X.env X.xe) (hN : X.N = N_brought_by) (hs : X.env.scope = defScope (top 21)) (hfn : ∀ x, X.fn x = true) :
    PSsv X (phi tbl gls n) gls [] (defBody (top 21)) b_brought_by := by
  have nd : X.N.Nodup := by rw [hN]; decide +kernel
  have n0 : X.N[0]? = some (Str.ofString "groups") := by rw [hN]; rfl
  have l0 : X.env.scope.names.lookup (Str.ofString "groups") = some .cell := look_of hs (by kernel_rfl)
  have v0 : Vis X.env.scope "groups" := .inr (.inl l0)
  have n1 : X.N[1]? = some (Str.ofString "objects") := by rw [hN]; rfl
  have l1 : X.env.scope.names.lookup (Str.ofString "objects") = some .local := look_of hs (by kernel_rfl)
  have v1 : Vis X.env.scope "objects" := .inl l1
  have n2 : X.N[2]? = some (Str.ofString "one") := by rw [hN]; rfl
  have n3 : X.N[3]? = some (Str.ofString "own") := by rw [hN]; rfl
  have g_dict : Gl X "dict" := look_of hs (by kernel_rfl)
  have g_set_of : Gl X "set_of" := look_of hs (by kernel_rfl)
  exact (ss_cons (s_asg nd n1 (.inl l1) (e_call (C.call 2 _ _ rfl) C.room g_set_of (a_cons (e_comp C.calm nd (i_seq (e_var n0 v0)) (blk_of (own := [("one", 2)]) hN hs (by kernel_rfl)) rfl (by decide) (fun _ _ _ _ _ => (g_nm nd n2 (locC (by kernel_rfl)) (hfC (by kernel_rfl)))) (fun _ _ _ _ _ => c_nil) (fun _ _ _ _ _ => (e_ix C.units (e_var n2 (visC (by kernel_rfl))) e_int (fun _ _ => rfl)))) a_nil)) rfl (.inr l1))
 (ss_cons (s_ret (e_callT (crDict C.calm) (fun _ _ z => z) g_dict (C.free "dict" (by decide)) rfl (a_cons (e_comp C.calm nd (i_seq (e_var n1 v1)) (blk_of (own := [("own", 3)]) hN hs (by kernel_rfl)) rfl (by decide) (fun _ _ _ _ _ => (g_nm nd n3 (locC (by kernel_rfl)) (hfC (by kernel_rfl)))) (fun _ _ _ _ _ => c_nil) (fun _ _ _ _ _ => (e_tup (a_cons (e_var n3 (visC (by kernel_rfl))) (a_cons (e_call (C.call 2 _ _ rfl) C.room (glC (by kernel_rfl)) (a_cons (e_comp C.calm nd (i_seq (e_var n0 (visC (by kernel_rfl)))) (blkIn (own := [("one", 2)]) hN (by kernel_rfl)) rfl (by decide) (fun _ _ _ _ _ => (g_nm nd n2 (locC (by kernel_rfl)) (hfC (by kernel_rfl)))) (fun _ _ _ _ _ => (c_one (t_cmp C.units (e_ix C.units (e_var n2 (visC (by kernel_rfl))) e_int (fun _ _ => rfl)) (e_var n3 (visC (by kernel_rfl))) (nomark _)))) (fun _ _ _ _ _ => (e_ix C.units (e_var n2 (visC (by kernel_rfl))) e_int (fun _ _ => rfl)))) a_nil)) a_nil))))) a_nil)))
 ss_nil))
theorem w_kept_by_objects {n : Nat} {X : Cx} (C : Ctx tbl gls gn T bn n X) (hp : PassesOwn (model X.prog X.w) X.A X.env X.xe) (hN : X.N = N_kept_by_objects) (hs : X.env.scope = defScope (top 22)) (hfn : ∀ x, X.fn x = true) :
    PSsv X (phi tbl gls n) gls [] (defBody (top 22)) b_kept_by_objects := by
  have nd : X.N.Nodup := by rw [hN]; decide +kernel
  have n0 : X.N[0]? = some (Str.ofString "groups") := by rw [hN]; rfl
  have l0 : X.env.scope.names.lookup (Str.ofString "groups") = some .cell := look_of hs (by kernel_rfl)
  have v0 : Vis X.env.scope "groups" := .inr (.inl l0)
  have n1 : X.N[1]? = some (Str.ofString "kept") := by rw [hN]; rfl
  have l1 : X.env.scope.names.lookup (Str.ofString "kept") = some .cell := look_of hs (by kernel_rfl)
  have v1 : Vis X.env.scope "kept" := .inr (.inl l1)
  have n2 : X.N[2]? = some (Str.ofString "objects") := by rw [hN]; rfl
  have l2 : X.env.scope.names.lookup (Str.ofString "objects") = some .local := look_of hs (by kernel_rfl)
  have v2 : Vis X.env.scope "objects" := .inl l2
  have n3 : X.N[3]? = some (Str.ofString "name") := by rw [hN]; rfl
  have n4 : X.N[4]? = some (Str.ofString "one") := by rw [hN]; rfl
  have n5 : X.N[5]? = some (Str.ofString "own") := by rw [hN]; rfl
  have n6 : X.N[6]? = some (Str.ofString "k") := by rw [hN]; rfl
  have g_dict : Gl X "dict" := look_of hs (by kernel_rfl)
  have g_group_names : Gl X "group_names" := look_of hs (by kernel_rfl)
  have g_set_of : Gl X "set_of" := look_of hs (by kernel_rfl)
  exact (ss_cons (s_asg nd n1 (.inr l1) (e_comp C.calm nd (i_seq (e_call (C.call 5 _ _ rfl) C.room g_group_names (a_cons (e_var n0 v0) a_nil))) (blk_of (own := [("name", 3)]) hN hs (by kernel_rfl)) rfl (by decide) (fun _ _ _ _ _ => (g_nm nd n3 (locC (by kernel_rfl)) (hfC (by kernel_rfl)))) (fun _ _ _ _ _ => c_nil) (fun _ _ _ _ _ => (e_call (C.call 6 _ _ rfl) C.room (glC (by kernel_rfl)) (a_cons (e_var n0 (visC (by kernel_rfl))) (a_cons (e_var n3 (visC (by kernel_rfl))) a_nil))))) (sw_cell hs (by kernel_rfl)) (.inl (hfn _)))
 (ss_cons (s_asg nd n2 (.inl l2) (e_call (C.call 2 _ _ rfl) C.room g_set_of (a_cons (e_comp C.calm nd (i_seq (e_var n0 v0)) (blk_of (own := [("one", 4)]) hN hs (by kernel_rfl)) rfl (by decide) (fun _ _ _ _ _ => (g_nm nd n4 (locC (by kernel_rfl)) (hfC (by kernel_rfl)))) (fun _ _ _ _ _ => c_nil) (fun _ _ _ _ _ => (e_ix C.units (e_var n4 (visC (by kernel_rfl))) e_int (fun _ _ => rfl)))) a_nil)) rfl (.inr l2))
 (ss_cons (s_ret (e_callT (crDict C.calm) (fun _ _ z => z) g_dict (C.free "dict" (by decide)) rfl (a_cons (e_comp C.calm nd (i_seq (e_var n2 v2)) (blk_of (own := [("own", 5)]) hN hs (by kernel_rfl)) rfl (by decide) (fun _ _ _ _ _ => (g_nm nd n5 (locC (by kernel_rfl)) (hfC (by kernel_rfl)))) (fun _ _ _ _ _ => c_nil) (fun _ _ _ _ _ => (e_tup (a_cons (e_var n5 (visC (by kernel_rfl))) (a_cons (e_callB crLen (glC (by kernel_rfl)) (C.free "len" (by decide)) rfl (a_cons (e_comp C.calm nd (i_seq (e_var n1 (visC (by kernel_rfl)))) (blkIn (own := [("k", 6)]) hN (by kernel_rfl)) rfl (by decide) (fun _ _ _ _ _ => (g_nm nd n6 (locC (by kernel_rfl)) (hfC (by kernel_rfl)))) (fun _ _ _ _ _ => (c_one (t_cmp C.units (e_ix C.units (e_ix C.units (e_var n0 (visC (by kernel_rfl))) (e_var n6 (visC (by kernel_rfl))) (fun _ _ => rfl)) e_int (fun _ _ => rfl)) (e_var n5 (visC (by kernel_rfl))) (nomark _)))) (fun _ _ _ _ _ => (e_var n6 (visC (by kernel_rfl))))) a_nil)) a_nil))))) a_nil)))
 ss_nil)))
theorem w__law_draws {n : Nat} {X : Cx} (C : Ctx tbl gls gn T bn n X) (hp : PassesOwn (model X.prog X.w) X.A X.env X.xe) (hN : X.N = N__law_draws) (hs : X.env.scope = defScope (top 24)) (hfn : ∀ x, X.fn x = true) :
    PSs X (defBody (top 24)) (t_draws X.K) := by
  have nd : X.N.Nodup := by rw [hN]; decide +kernel
  have n0 : X.N[0]? = some (Str.ofString "script") := by rw [hN]; rfl
  have l0 : X.env.scope.names.lookup (Str.ofString "script") = some .local := look_of hs (by kernel_rfl)
  have v0 : Vis X.env.scope "script" := .inl l0
  have n1 : X.N[1]? = some (Str.ofString "many") := by rw [hN]; rfl
  have l1 : X.env.scope.names.lookup (Str.ofString "many") = some .local := look_of hs (by kernel_rfl)
  have v1 : Vis X.env.scope "many" := .inl l1
  have n2 : X.N[2]? = some (Str.ofString "draws") := by rw [hN]; rfl
  have l2 : X.env.scope.names.lookup (Str.ofString "draws") = some .local := look_of hs (by kernel_rfl)
  have v2 : Vis X.env.scope "draws" := .inl l2
  have n3 : X.N[3]? = some (Str.ofString "mixed") := by rw [hN]; rfl
  have l3 : X.env.scope.names.lookup (Str.ofString "mixed") = some .local := look_of hs (by kernel_rfl)
  have v3 : Vis X.env.scope "mixed" := .inl l3
  have n4 : X.N[4]? = some (Str.ofString "k") := by rw [hN]; rfl
  have l4 : X.env.scope.names.lookup (Str.ofString "k") = some .local := look_of hs (by kernel_rfl)
  have v4 : Vis X.env.scope "k" := .inl l4
  have n5 : X.N[5]? = some (Str.ofString "cell") := by rw [hN]; rfl
  have l5 : X.env.scope.names.lookup (Str.ofString "cell") = some .local := look_of hs (by kernel_rfl)
  have v5 : Vis X.env.scope "cell" := .inl l5
  have n6 : X.N[6]? = some (Str.ofString "rest") := by rw [hN]; rfl
  have l6 : X.env.scope.names.lookup (Str.ofString "rest") = some .local := look_of hs (by kernel_rfl)
  have v6 : Vis X.env.scope "rest" := .inl l6
  have n7 : X.N[7]? = some (Str.ofString "turn") := by rw [hN]; rfl
  have l7 : X.env.scope.names.lookup (Str.ofString "turn") = some .local := look_of hs (by kernel_rfl)
  have v7 : Vis X.env.scope "turn" := .inl l7
  have g_abs : Gl X "abs" := look_of hs (by kernel_rfl)
  have g_int : Gl X "int" := look_of hs (by kernel_rfl)
  have g_len : Gl X "len" := look_of hs (by kernel_rfl)
  have g_range : Gl X "range" := look_of hs (by kernel_rfl)
  exact (pss_cons (ps_set nd n2 (.inl l2) (pe_lst pa_nil) rfl (.inr l2))
 (pss_cons (ps_set nd n3 (.inl l3) pe_int rfl (.inr l3))
 (pss_cons (ps_for hp C.calm (pi_range1 g_range (C.free "range" (by decide)) (pa_cons (pe_callB call_len g_len (C.free "len" (by decide)) rfl (pa_cons (pe_var n0 v0) pa_nil)) pa_nil)) (pg_name nd n4 (.inl l4) (.inr l4)) (pss_cons (ps_set nd n5 (.inl l5) (pe_callB call_abs g_abs (C.free "abs" (by decide)) rfl (pa_cons (pe_callTy call_int1 g_int (C.free "int" (by decide)) rfl (pa_cons (pe_ix ix_seq (pe_var n0 v0) (pe_var n4 v4) fun _ _ => rfl) pa_nil)) pa_nil)) rfl (.inr l5))
 (pss_cons (ps_set nd n3 (.inl l3) (pe_op op_mod (pe_callTy call_int1 g_int (C.free "int" (by decide)) rfl (pa_cons (pe_op op_add (pe_op op_add (pe_op op_mul (pe_var n3 v3) pe_int) (pe_op op_mod (pe_var n5 v5) pe_int)) (pe_var n4 v4)) pa_nil)) pe_int) rfl (.inr l3))
 (pss_cons (ps_set nd n6 (.inl l6) pe_int rfl (.inr l6))
 (pss_cons (ps_if (pt_cmpR op_ge (pe_var n5 v5) (pe_op op_pow pe_int pe_int) (nomark _)) (pss_cons (ps_set nd n6 (.inl l6) (pe_var n5 v5) rfl (.inr l6))
 pss_nil) (pss_cons (ps_expr (pe_bm (id := "list.append") PySem.F.plainAttrs_list PySem.F.slot_list_append PySem.F.type_list_append mt_append (pe_var n2 v2) (pa_cons (pe_op op_mod (pe_callTy call_int1 g_int (C.free "int" (by decide)) rfl (pa_cons (pe_var n5 v5) pa_nil)) pe_int) pa_nil)))
 (pss_cons (ps_expr (pe_bm (id := "list.append") PySem.F.plainAttrs_list PySem.F.slot_list_append PySem.F.type_list_append mt_append (pe_var n2 v2) (pa_cons (pe_op op_mod (pe_op op_mod (pe_callTy call_int1 g_int (C.free "int" (by decide)) rfl (pa_cons (pe_op op_add (pe_op op_mul (pe_var n3 v3) pe_int) pe_int) pa_nil)) pe_int) pe_int) pa_nil)))
 pss_nil)))
 (pss_cons (ps_for hp C.calm (pi_range1 g_range (C.free "range" (by decide)) (pa_cons pe_int pa_nil)) (pg_name nd n7 (.inl l7) (.inr l7)) (pss_cons (ps_if (pt_cmpR op_gt (pe_var n6 v6) pe_int (nomark _)) (pss_cons (ps_expr (pe_bm (id := "list.append") PySem.F.plainAttrs_list PySem.F.slot_list_append PySem.F.type_list_append mt_append (pe_var n2 v2) (pa_cons (pe_op op_mod (pe_callTy call_int1 g_int (C.free "int" (by decide)) rfl (pa_cons (pe_var n6 v6) pa_nil)) pe_int) pa_nil)))
 (pss_cons (ps_set nd n6 (.inl l6) (pe_op op_fdiv (pe_var n6 v6) pe_int) rfl (.inr l6))
 pss_nil)) pss_nil)
 pss_nil))
 pss_nil))))))
 (pss_cons (ps_for hp C.calm (pi_range1 g_range (C.free "range" (by decide)) (pa_cons (pe_var n1 v1) pa_nil)) (pg_name nd n4 (.inl l4) (.inr l4)) (pss_cons (ps_set nd n3 (.inl l3) (pe_op op_mod (pe_callTy call_int1 g_int (C.free "int" (by decide)) rfl (pa_cons (pe_op op_add (pe_op op_add (pe_op op_mul (pe_var n3 v3) pe_int) (pe_var n4 v4)) pe_int) pa_nil)) pe_int) rfl (.inr l3))
 (pss_cons (ps_expr (pe_bm (id := "list.append") PySem.F.plainAttrs_list PySem.F.slot_list_append PySem.F.type_list_append mt_append (pe_var n2 v2) (pa_cons (pe_op op_mod (pe_callTy call_int1 g_int (C.free "int" (by decide)) rfl (pa_cons (pe_var n3 v3) pa_nil)) pe_int) pa_nil)))
 pss_nil)))
 (pss_cons (ps_ret (pe_slice sl_list (pe_var n2 v2) po_none (po_some (pe_var n1 v1))))
 pss_nil)))))
theorem w__law_next {n : Nat} {X : Cx} (C : Ctx tbl gls gn T bn n X) (hp : PassesOwn (model X.prog X.w) X.A X.env X.xe) (hN : X.N = N__law_next) (hs : X.env.scope = defScope (top 25)) (hfn : ∀ x, X.fn x = true) :
    PSsv X (phi tbl gls n) gls [0] (defBody (top 25)) b__law_next := by
  have nd : X.N.Nodup := by rw [hN]; decide +kernel
  have n0 : X.N[0]? = some (Str.ofString "w") := by rw [hN]; rfl
  have l0 : X.env.scope.names.lookup (Str.ofString "w") = some .local := look_of hs (by kernel_rfl)
  have v0 : Vis X.env.scope "w" := .inl l0
  have n1 : X.N[1]? = some (Str.ofString "many") := by rw [hN]; rfl
  have l1 : X.env.scope.names.lookup (Str.ofString "many") = some .local := look_of hs (by kernel_rfl)
  have v1 : Vis X.env.scope "many" := .inl l1
  have g_int : Gl X "int" := look_of hs (by kernel_rfl)
  have g_len : Gl X "len" := look_of hs (by kernel_rfl)
  exact (ss_cons (s_augIx (.inl rfl) C.units n0 v0 e_str e_int)
 (ss_cons (s_if (t_cmp C.units (e_ix C.units (e_var n0 v0) e_str (fun _ _ => rfl)) (e_callB crLen g_len (C.free "len" (by decide)) rfl (a_cons (e_ix C.units (e_var n0 v0) e_str (fun _ _ => rfl)) a_nil)) (nomark _))
 (ss_cons (s_ret e_int)
 ss_nil)
 ss_nil)
 (ss_cons (s_ret (e_bin (e_callT crInt (fun _ _ z => z) g_int (C.free "int" (by decide)) rfl (a_cons (e_ix C.units (e_ix C.units (e_var n0 v0) e_str (fun _ _ => rfl)) (e_bin (e_ix C.units (e_var n0 v0) e_str (fun _ _ => rfl)) e_int) (fun _ _ => rfl)) a_nil)) (e_var n1 v1)))
 ss_nil)))
theorem w__law_pick {n : Nat} {X : Cx} (C : Ctx tbl gls gn T bn n X) (hp : PassesOwn (model X.prog X.w) X.A X.env X.xe) (hN : X.N = N__law_pick) (hs : X.env.scope = defScope (top 26)) (hfn : ∀ x, X.fn x = true) :
    PSsv X (phi tbl gls n) gls [0] (defBody (top 26)) b__law_pick := by
  have nd : X.N.Nodup := by rw [hN]; decide +kernel
  have n0 : X.N[0]? = some (Str.ofString "w") := by rw [hN]; rfl
  have l0 : X.env.scope.names.lookup (Str.ofString "w") = some .local := look_of hs (by kernel_rfl)
  have v0 : Vis X.env.scope "w" := .inl l0
  have n1 : X.N[1]? = some (Str.ofString "rows") := by rw [hN]; rfl
  have l1 : X.env.scope.names.lookup (Str.ofString "rows") = some .local := look_of hs (by kernel_rfl)
  have v1 : Vis X.env.scope "rows" := .inl l1
  have g__law_next : Gl X "_law_next" := look_of hs (by kernel_rfl)
  have g_len : Gl X "len" := look_of hs (by kernel_rfl)
  exact (ss_cons (s_ret (e_ix C.units (e_var n1 v1) (e_call (C.call 19 _ _ rfl) C.room g__law_next (a_io n0 v0 (a_cons (e_callB crLen g_len (C.free "len" (by decide)) rfl (a_cons (e_var n1 v1) a_nil)) a_nil))) (fun _ _ => rfl)))
 ss_nil)
theorem w__law_alike {n : Nat} {X : Cx} (C : Ctx tbl gls gn T bn n X) (hp : PassesOwn (model X.prog X.w) X.A X.env X.xe) (hN : X.N = N__law_alike) (hs : X.env.scope = defScope (top 27)) (hfn : ∀ x, X.fn x = true) :
    PSsv X (phi tbl gls n) gls [] (defBody (top 27)) b__law_alike := by
  have nd : X.N.Nodup := by rw [hN]; decide +kernel
  have n0 : X.N[0]? = some (Str.ofString "given") := by rw [hN]; rfl
  have l0 : X.env.scope.names.lookup (Str.ofString "given") = some .cell := look_of hs (by kernel_rfl)
  have v0 : Vis X.env.scope "given" := .inr (.inl l0)
  have n1 : X.N[1]? = some (Str.ofString "due") := by rw [hN]; rfl
  have l1 : X.env.scope.names.lookup (Str.ofString "due") = some .cell := look_of hs (by kernel_rfl)
  have v1 : Vis X.env.scope "due" := .inr (.inl l1)
  have n2 : X.N[2]? = some (Str.ofString "k") := by rw [hN]; rfl
  have g_bool : Gl X "bool" := look_of hs (by kernel_rfl)
  have g_int : Gl X "int" := look_of hs (by kernel_rfl)
  have g_isinstance : Gl X "isinstance" := look_of hs (by kernel_rfl)
  have g_len : Gl X "len" := look_of hs (by kernel_rfl)
  have g_range : Gl X "range" := look_of hs (by kernel_rfl)
  have g_str : Gl X "str" := look_of hs (by kernel_rfl)
  have g_tuple : Gl X "tuple" := look_of hs (by kernel_rfl)
  exact (ss_cons (s_if (t_val (e_isI g_isinstance (C.free "isinstance" (by decide)) g_tuple (C.free "tuple" (by decide)) rfl (e_var n1 v1)))
 (ss_cons (s_if (t_w (w_or (t_not (t_val (e_isI g_isinstance (C.free "isinstance" (by decide)) g_tuple (C.free "tuple" (by decide)) rfl (e_var n0 v0)))) (w_or1 (t_cmp C.units (e_callB crLen g_len (C.free "len" (by decide)) rfl (a_cons (e_var n0 v0) a_nil)) (e_callB crLen g_len (C.free "len" (by decide)) rfl (a_cons (e_var n1 v1) a_nil)) (nomark _)))))
 (ss_cons (s_ret e_bl)
 ss_nil)
 ss_nil)
 (ss_cons (s_ret (e_cmp C.units (e_comp C.calm nd (i_rng1 g_range (C.free "range" (by decide)) (e_callB crLen g_len (C.free "len" (by decide)) rfl (a_cons (e_var n1 v1) a_nil))) (blk_of (own := [("k", 2)]) hN hs (by kernel_rfl)) rfl (by decide) (fun _ _ _ _ _ => (g_nm nd n2 (locC (by kernel_rfl)) (hfC (by kernel_rfl)))) (fun _ _ _ _ _ => (c_one (t_not (t_val (e_call (C.call 21 _ _ rfl) C.room (glC (by kernel_rfl)) (a_cons (e_ix C.units (e_var n0 (visC (by kernel_rfl))) (e_var n2 (visC (by kernel_rfl))) (fun _ _ => rfl)) (a_cons (e_ix C.units (e_var n1 (visC (by kernel_rfl))) (e_var n2 (visC (by kernel_rfl))) (fun _ _ => rfl)) a_nil))))))) (fun _ _ _ _ _ => (e_var n2 (visC (by kernel_rfl))))) (e_lst a_nil) (nomark _)))
 ss_nil))
 ss_nil)
 (ss_cons (s_if (t_cmp C.units (e_var n1 v1) e_non (nomark _))
 (ss_cons (s_ret (e_cmp C.units (e_var n0 v0) e_non (nomark _)))
 ss_nil)
 ss_nil)
 (ss_cons (s_if (t_val (e_isI g_isinstance (C.free "isinstance" (by decide)) g_bool (C.free "bool" (by decide)) rfl (e_var n1 v1)))
 (ss_cons (s_ret (e_and (e_isI g_isinstance (C.free "isinstance" (by decide)) g_bool (C.free "bool" (by decide)) rfl (e_var n0 v0)) (e_one (e_cmp C.units (e_var n0 v0) (e_var n1 v1) (nomark _)))))
 ss_nil)
 ss_nil)
 (ss_cons (s_if (t_val (e_isI g_isinstance (C.free "isinstance" (by decide)) g_int (C.free "int" (by decide)) rfl (e_var n1 v1)))
 (ss_cons (s_ret (e_and (e_isI g_isinstance (C.free "isinstance" (by decide)) g_int (C.free "int" (by decide)) rfl (e_var n0 v0)) (e_and (e_not (e_isI g_isinstance (C.free "isinstance" (by decide)) g_bool (C.free "bool" (by decide)) rfl (e_var n0 v0))) (e_one (e_cmp C.units (e_var n0 v0) (e_var n1 v1) (nomark _))))))
 ss_nil)
 ss_nil)
 (ss_cons (s_ret (e_and (e_isI g_isinstance (C.free "isinstance" (by decide)) g_str (C.free "str" (by decide)) rfl (e_var n0 v0)) (e_one (e_cmp C.units (e_var n0 v0) (e_var n1 v1) (nomark _)))))
 ss_nil)))))
theorem w__law_kept {n : Nat} {X : Cx} (C : Ctx tbl gls gn T bn n X) (hp : PassesOwn (model X.prog X.w) X.A X.env X.xe) (hN : X.N = N__law_kept) (hs : X.env.scope = defScope (top 28)) (hfn : ∀ x, X.fn x = true) :
    PSsv X (phi tbl gls n) gls [] (defBody (top 28)) b__law_kept := by
  have nd : X.N.Nodup := by rw [hN]; decide +kernel
  have n0 : X.N[0]? = some (Str.ofString "groups") := by rw [hN]; rfl
  have l0 : X.env.scope.names.lookup (Str.ofString "groups") = some .cell := look_of hs (by kernel_rfl)
  have v0 : Vis X.env.scope "groups" := .inr (.inl l0)
  have n1 : X.N[1]? = some (Str.ofString "name") := by rw [hN]; rfl
  have l1 : X.env.scope.names.lookup (Str.ofString "name") = some .cell := look_of hs (by kernel_rfl)
  have v1 : Vis X.env.scope "name" := .inr (.inl l1)
  have n2 : X.N[2]? = some (Str.ofString "lot") := by rw [hN]; rfl
  have l2 : X.env.scope.names.lookup (Str.ofString "lot") = some .local := look_of hs (by kernel_rfl)
  have v2 : Vis X.env.scope "lot" := .inl l2
  have n3 : X.N[3]? = some (Str.ofString "k") := by rw [hN]; rfl
  have g_len : Gl X "len" := look_of hs (by kernel_rfl)
  have g_min : Gl X "min" := look_of hs (by kernel_rfl)
  have g_range : Gl X "range" := look_of hs (by kernel_rfl)
  exact (ss_cons (s_asgC (ps_comp C.calm nd n2 l2 (sw_loc hs (by kernel_rfl) (by kernel_rfl) (by kernel_rfl) (by kernel_rfl)) (i_rng1 g_range (C.free "range" (by decide)) (e_callB crLen g_len (C.free "len" (by decide)) rfl (a_cons (e_var n0 v0) a_nil))) (blk_of (own := [("k", 3)]) hN hs (by kernel_rfl)) rfl (by decide) (fun _ _ _ _ _ => (g_nm nd n3 (locC (by kernel_rfl)) (hfC (by kernel_rfl)))) (fun _ _ _ _ _ => (c_one (t_cmp C.units (e_ix C.units (e_ix C.units (e_var n0 (visC (by kernel_rfl))) (e_var n3 (visC (by kernel_rfl))) (fun _ _ => rfl)) e_int (fun _ _ => rfl)) (e_var n1 (visC (by kernel_rfl))) (nomark _)))) (fun _ _ _ _ _ => (e_var n3 (visC (by kernel_rfl))))))
 (ss_cons (s_if (t_cmp C.units e_str (e_comp C.calm nd (i_seq (e_var n2 v2)) (blk_of (own := [("k", 3)]) hN hs (by kernel_rfl)) rfl (by decide) (fun _ _ _ _ _ => (g_nm nd n3 (locC (by kernel_rfl)) (hfC (by kernel_rfl)))) (fun _ _ _ _ _ => c_nil) (fun _ _ _ _ _ => (e_ix C.units (e_ix C.units (e_var n0 (visC (by kernel_rfl))) (e_var n3 (visC (by kernel_rfl))) (fun _ _ => rfl)) e_int (fun _ _ => rfl)))) (by with_unfolding_all rfl))
 (ss_cons (s_ret (e_ix C.units (e_callB (crMin C.calm C.units) g_min (C.free "min" (by decide)) rfl (a_cons (e_comp C.calm nd (i_seq (e_var n2 v2)) (blk_of (own := [("k", 3)]) hN hs (by kernel_rfl)) rfl (by decide) (fun _ _ _ _ _ => (g_nm nd n3 (locC (by kernel_rfl)) (hfC (by kernel_rfl)))) (fun _ _ _ _ _ => c_nil) (fun _ _ _ _ _ => (e_tup (a_cons (e_bin e_int (e_callB crLen (glC (by kernel_rfl)) (C.free "len" (by decide)) rfl (a_cons (e_ix C.units (e_ix C.units (e_var n0 (visC (by kernel_rfl))) (e_var n3 (visC (by kernel_rfl))) (fun _ _ => rfl)) e_int (fun _ _ => rfl)) a_nil))) (a_cons (e_var n3 (visC (by kernel_rfl))) a_nil))))) a_nil)) e_int (fun _ _ => rfl)))
 ss_nil)
 ss_nil)
 (ss_cons (s_ret (e_ix C.units (e_var n2 v2) e_int (fun _ _ => rfl)))
 ss_nil)))
theorem w__law_wrong {n : Nat} {X : Cx} (C : Ctx tbl gls gn T bn n X) (hp : PassesOwn (model X.prog X.w) X.A X.env X.xe) (hN : X.N = N__law_wrong) (hs : X.env.scope = defScope (top 29)) (hfn : ∀ x, X.fn x = true) :
    PSsv X (phi tbl gls n) gls [] (defBody (top 29)) b__law_wrong := by
  have nd : X.N.Nodup := by rw [hN]; decide +kernel
  have n0 : X.N[0]? = some (Str.ofString "groups") := by rw [hN]; rfl
  have l0 : X.env.scope.names.lookup (Str.ofString "groups") = some .cell := look_of hs (by kernel_rfl)
  have v0 : Vis X.env.scope "groups" := .inr (.inl l0)
  have n1 : X.N[1]? = some (Str.ofString "name") := by rw [hN]; rfl
  have l1 : X.env.scope.names.lookup (Str.ofString "name") = some .cell := look_of hs (by kernel_rfl)
  have v1 : Vis X.env.scope "name" := .inr (.inl l1)
  have n2 : X.N[2]? = some (Str.ofString "lot") := by rw [hN]; rfl
  have l2 : X.env.scope.names.lookup (Str.ofString "lot") = some .local := look_of hs (by kernel_rfl)
  have v2 : Vis X.env.scope "lot" := .inl l2
  have n3 : X.N[3]? = some (Str.ofString "k") := by rw [hN]; rfl
  have l3 : X.env.scope.names.lookup (Str.ofString "k") = some .local := look_of hs (by kernel_rfl)
  have v3 : Vis X.env.scope "k" := .inl l3
  have n4 : X.N[4]? = some (Str.ofString "ways") := by rw [hN]; rfl
  have l4 : X.env.scope.names.lookup (Str.ofString "ways") = some .local := look_of hs (by kernel_rfl)
  have v4 : Vis X.env.scope "ways" := .inl l4
  have n5 : X.N[5]? = some (Str.ofString "one") := by rw [hN]; rfl
  have l5 : X.env.scope.names.lookup (Str.ofString "one") = some .local := look_of hs (by kernel_rfl)
  have v5 : Vis X.env.scope "one" := .inl l5
  have n6 : X.N[6]? = some (Str.ofString "other") := by rw [hN]; rfl
  have l6 : X.env.scope.names.lookup (Str.ofString "other") = some .local := look_of hs (by kernel_rfl)
  have v6 : Vis X.env.scope "other" := .inl l6
  have g_len : Gl X "len" := look_of hs (by kernel_rfl)
  have g_range : Gl X "range" := look_of hs (by kernel_rfl)
  exact (ss_cons (s_asgC (ps_comp C.calm nd n2 l2 (sw_loc hs (by kernel_rfl) (by kernel_rfl) (by kernel_rfl) (by kernel_rfl)) (i_rng1 g_range (C.free "range" (by decide)) (e_callB crLen g_len (C.free "len" (by decide)) rfl (a_cons (e_var n0 v0) a_nil))) (blk_of (own := [("k", 3)]) hN hs (by kernel_rfl)) rfl (by decide) (fun _ _ _ _ _ => (g_nm nd n3 (locC (by kernel_rfl)) (hfC (by kernel_rfl)))) (fun _ _ _ _ _ => (c_one (t_cmp C.units (e_ix C.units (e_ix C.units (e_var n0 (visC (by kernel_rfl))) (e_var n3 (visC (by kernel_rfl))) (fun _ _ => rfl)) e_int (fun _ _ => rfl)) (e_var n1 (visC (by kernel_rfl))) (nomark _)))) (fun _ _ _ _ _ => (e_var n3 (visC (by kernel_rfl))))))
 (ss_cons (s_for hp C.calm (i_seq (e_sl (e_var n2 v2) (o_so e_int) o_no)) (g_nm nd n3 (.inl l3) (.inr l3))
 (ss_cons (s_par3 C.calm nd n4 n5 n6 (by decide) (by decide) (by decide) l4 l5 l6 (e_tup (a_cons (e_ix C.units (e_ix C.units (e_var n0 v0) (e_ix C.units (e_var n2 v2) e_int (fun _ _ => rfl)) (fun _ _ => rfl)) e_int (fun _ _ => rfl)) (a_cons (e_ix C.units (e_ix C.units (e_var n0 v0) (e_var n3 v3) (fun _ _ => rfl)) e_int (fun _ _ => rfl)) a_nil))) (e_ix C.units (e_ix C.units (e_var n0 v0) (e_ix C.units (e_var n2 v2) e_int (fun _ _ => rfl)) (fun _ _ => rfl)) e_int (fun _ _ => rfl)) (e_ix C.units (e_ix C.units (e_var n0 v0) (e_var n3 v3) (fun _ _ => rfl)) e_int (fun _ _ => rfl)) (sw_of hs (by kernel_rfl)))
 (ss_cons (s_if (t_w (w_or (t_cmp C.units e_str (e_var n4 v4) (by with_unfolding_all rfl)) (w_or (t_w (w_and (t_cmp C.units e_str (e_var n4 v4) (by with_unfolding_all rfl)) (w_and1 (t_cmp C.units (e_callB crLen g_len (C.free "len" (by decide)) rfl (a_cons (e_var n5 v5) a_nil)) (e_callB crLen g_len (C.free "len" (by decide)) rfl (a_cons (e_var n6 v6) a_nil)) (nomark _))))) (w_or1 (t_w (w_and (t_cmp C.units e_str (e_var n4 v4) (by with_unfolding_all rfl)) (w_and1 (t_cmp C.units (e_var n5 v5) (e_var n6 v6) (nomark _)))))))))
 (ss_cons (s_ret (e_var n3 v3))
 ss_nil)
 ss_nil)
 ss_nil)))
 (ss_cons (s_ret e_non)
 ss_nil)))
theorem w__law_twins {n : Nat} {X : Cx} (C : Ctx tbl gls gn T bn n X) (hp : PassesOwn (model X.prog X.w) X.A X.env X.xe) (hN : X.N = N__law_twins) (hs : X.env.scope = defScope (top 30)) (hfn : ∀ x, X.fn x = true) :
    PSsv X (phi tbl gls n) gls [] (defBody (top 30)) b__law_twins := by
  have nd : X.N.Nodup := by rw [hN]; decide +kernel
  have n0 : X.N[0]? = some (Str.ofString "groups") := by rw [hN]; rfl
  have l0 : X.env.scope.names.lookup (Str.ofString "groups") = some .cell := look_of hs (by kernel_rfl)
  have v0 : Vis X.env.scope "groups" := .inr (.inl l0)
  have n1 : X.N[1]? = some (Str.ofString "names") := by rw [hN]; rfl
  have l1 : X.env.scope.names.lookup (Str.ofString "names") = some .local := look_of hs (by kernel_rfl)
  have v1 : Vis X.env.scope "names" := .inl l1
  have n2 : X.N[2]? = some (Str.ofString "name") := by rw [hN]; rfl
  have n3 : X.N[3]? = some (Str.ofString "own") := by rw [hN]; rfl
  have g_dict : Gl X "dict" := look_of hs (by kernel_rfl)
  have g_sorted : Gl X "sorted" := look_of hs (by kernel_rfl)
  exact (ss_cons (s_asg nd n1 (.inl l1) (e_callB (sortedP C.calm C.units) g_sorted (C.free "sorted" (by decide)) rfl (a_cons (e_callT (crDict C.calm) (fun _ _ z => z) g_dict (C.free "dict" (by decide)) rfl (a_cons (e_comp C.calm nd (i_seq (e_var n0 v0)) (blk_of (own := [("own", 3)]) hN hs (by kernel_rfl)) rfl (by decide) (fun _ _ _ _ _ => (g_nm nd n3 (locC (by kernel_rfl)) (hfC (by kernel_rfl)))) (fun _ _ _ _ _ => c_nil) (fun _ _ _ _ _ => (e_tup (a_cons (e_ix C.units (e_var n3 (visC (by kernel_rfl))) e_int (fun _ _ => rfl)) (a_cons e_bl a_nil))))) a_nil)) a_nil)) rfl (.inr l1))
 (ss_cons (s_ret (e_comp C.calm nd (i_seq (e_var n1 v1)) (blk_of (own := [("name", 2)]) hN hs (by kernel_rfl)) rfl (by decide) (fun _ _ _ _ _ => (g_nm nd n2 (locC (by kernel_rfl)) (hfC (by kernel_rfl)))) (fun _ _ _ _ _ => (c_one (t_cmp C.units (e_callB crLen (glC (by kernel_rfl)) (C.free "len" (by decide)) rfl (a_cons (e_callT (crDict C.calm) (fun _ _ z => z) (glC (by kernel_rfl)) (C.free "dict" (by decide)) rfl (a_cons (e_comp C.calm nd (i_seq (e_var n0 (visC (by kernel_rfl)))) (blkIn (own := [("own", 3)]) hN (by kernel_rfl)) rfl (by decide) (fun _ _ _ _ _ => (g_nm nd n3 (locC (by kernel_rfl)) (hfC (by kernel_rfl)))) (fun _ _ _ _ _ => (c_one (t_cmp C.units (e_ix C.units (e_var n3 (visC (by kernel_rfl))) e_int (fun _ _ => rfl)) (e_var n2 (visC (by kernel_rfl))) (nomark _)))) (fun _ _ _ _ _ => (e_tup (a_cons (e_ix C.units (e_var n3 (visC (by kernel_rfl))) e_int (fun _ _ => rfl)) (a_cons e_bl a_nil))))) a_nil)) a_nil)) e_int (nomark _)))) (fun _ _ _ _ _ => (e_var n2 (visC (by kernel_rfl))))))
 ss_nil))
theorem w_law {n : Nat} {X : Cx} (C : Ctx tbl gls gn T bn n X) (hp : PassesOwn (model X.prog X.w) X.A X.env X.xe) (hN : X.N = N_law) (hs : X.env.scope = defScope (top 31)) (hfn : ∀ x, X.fn x = true) :
    PSsv X (phi tbl gls n) gls [] (defBody (top 31)).tail b_law := by
  have nd : X.N.Nodup := by rw [hN]; decide +kernel
  have n0 : X.N[0]? = some (Str.ofString "script") := by rw [hN]; rfl
  have l0 : X.env.scope.names.lookup (Str.ofString "script") = some .local := look_of hs (by kernel_rfl)
  have v0 : Vis X.env.scope "script" := .inl l0
  have n1 : X.N[1]? = some (Str.ofString "w") := by rw [hN]; rfl
  have l1 : X.env.scope.names.lookup (Str.ofString "w") = some .cell := look_of hs (by kernel_rfl)
  have v1 : Vis X.env.scope "w" := .inr (.inl l1)
  have n2 : X.N[2]? = some (Str.ofString "turn") := by rw [hN]; rfl
  have l2 : X.env.scope.names.lookup (Str.ofString "turn") = some .local := look_of hs (by kernel_rfl)
  have v2 : Vis X.env.scope "turn" := .inl l2
  have n3 : X.N[3]? = some (Str.ofString "ways") := by rw [hN]; rfl
  have l3 : X.env.scope.names.lookup (Str.ofString "ways") = some .cell := look_of hs (by kernel_rfl)
  have v3 : Vis X.env.scope "ways" := .inr (.inl l3)
  have n4 : X.N[4]? = some (Str.ofString "groups") := by rw [hN]; rfl
  have l4 : X.env.scope.names.lookup (Str.ofString "groups") = some .cell := look_of hs (by kernel_rfl)
  have v4 : Vis X.env.scope "groups" := .inr (.inl l4)
  have n5 : X.N[5]? = some (Str.ofString "names") := by rw [hN]; rfl
  have l5 : X.env.scope.names.lookup (Str.ofString "names") = some .cell := look_of hs (by kernel_rfl)
  have v5 : Vis X.env.scope "names" := .inr (.inl l5)
  have n6 : X.N[6]? = some (Str.ofString "objects") := by rw [hN]; rfl
  have l6 : X.env.scope.names.lookup (Str.ofString "objects") = some .local := look_of hs (by kernel_rfl)
  have v6 : Vis X.env.scope "objects" := .inl l6
  have n7 : X.N[7]? = some (Str.ofString "kept") := by rw [hN]; rfl
  have l7 : X.env.scope.names.lookup (Str.ofString "kept") = some .cell := look_of hs (by kernel_rfl)
  have v7 : Vis X.env.scope "kept" := .inr (.inl l7)
  have n8 : X.N[8]? = some (Str.ofString "wrong") := by rw [hN]; rfl
  have l8 : X.env.scope.names.lookup (Str.ofString "wrong") = some .local := look_of hs (by kernel_rfl)
  have v8 : Vis X.env.scope "wrong" := .inl l8
  have n9 : X.N[9]? = some (Str.ofString "due") := by rw [hN]; rfl
  have l9 : X.env.scope.names.lookup (Str.ofString "due") = some .local := look_of hs (by kernel_rfl)
  have v9 : Vis X.env.scope "due" := .inl l9
  have n10 : X.N[10]? = some (Str.ofString "k") := by rw [hN]; rfl
  have l10 : X.env.scope.names.lookup (Str.ofString "k") = some .cell := look_of hs (by kernel_rfl)
  have v10 : Vis X.env.scope "k" := .inr (.inl l10)
  have n11 : X.N[11]? = some (Str.ofString "lot") := by rw [hN]; rfl
  have l11 : X.env.scope.names.lookup (Str.ofString "lot") = some .cell := look_of hs (by kernel_rfl)
  have v11 : Vis X.env.scope "lot" := .inr (.inl l11)
  have n12 : X.N[12]? = some (Str.ofString "strict") := by rw [hN]; rfl
  have l12 : X.env.scope.names.lookup (Str.ofString "strict") = some .local := look_of hs (by kernel_rfl)
  have v12 : Vis X.env.scope "strict" := .inl l12
  have n13 : X.N[13]? = some (Str.ofString "turned") := by rw [hN]; rfl
  have l13 : X.env.scope.names.lookup (Str.ofString "turned") = some .cell := look_of hs (by kernel_rfl)
  have v13 : Vis X.env.scope "turned" := .inr (.inl l13)
  have n14 : X.N[14]? = some (Str.ofString "hang") := by rw [hN]; rfl
  have l14 : X.env.scope.names.lookup (Str.ofString "hang") = some .local := look_of hs (by kernel_rfl)
  have v14 : Vis X.env.scope "hang" := .inl l14
  have n15 : X.N[15]? = some (Str.ofString "sees") := by rw [hN]; rfl
  have l15 : X.env.scope.names.lookup (Str.ofString "sees") = some .local := look_of hs (by kernel_rfl)
  have v15 : Vis X.env.scope "sees" := .inl l15
  have n16 : X.N[16]? = some (Str.ofString "bad") := by rw [hN]; rfl
  have l16 : X.env.scope.names.lookup (Str.ofString "bad") = some .local := look_of hs (by kernel_rfl)
  have v16 : Vis X.env.scope "bad" := .inl l16
  have n17 : X.N[17]? = some (Str.ofString "gone") := by rw [hN]; rfl
  have l17 : X.env.scope.names.lookup (Str.ofString "gone") = some .local := look_of hs (by kernel_rfl)
  have v17 : Vis X.env.scope "gone" := .inl l17
  have n18 : X.N[18]? = some (Str.ofString "own") := by rw [hN]; rfl
  have l18 : X.env.scope.names.lookup (Str.ofString "own") = some .cell := look_of hs (by kernel_rfl)
  have v18 : Vis X.env.scope "own" := .inr (.inl l18)
  have n19 : X.N[19]? = some (Str.ofString "seen") := by rw [hN]; rfl
  have l19 : X.env.scope.names.lookup (Str.ofString "seen") = some .local := look_of hs (by kernel_rfl)
  have v19 : Vis X.env.scope "seen" := .inl l19
  have n20 : X.N[20]? = some (Str.ofString "sets") := by rw [hN]; rfl
  have l20 : X.env.scope.names.lookup (Str.ofString "sets") = some .local := look_of hs (by kernel_rfl)
  have v20 : Vis X.env.scope "sets" := .inl l20
  have n21 : X.N[21]? = some (Str.ofString "able") := by rw [hN]; rfl
  have l21 : X.env.scope.names.lookup (Str.ofString "able") = some .local := look_of hs (by kernel_rfl)
  have v21 : Vis X.env.scope "able" := .inl l21
  have n22 : X.N[22]? = some (Str.ofString "name") := by rw [hN]; rfl
  have n23 : X.N[23]? = some (Str.ofString "one") := by rw [hN]; rfl
  have n24 : X.N[24]? = some (Str.ofString "j") := by rw [hN]; rfl
  have n25 : X.N[25]? = some (Str.ofString "way") := by rw [hN]; rfl
  have g__law_alike : Gl X "_law_alike" := look_of hs (by kernel_rfl)
  have g__law_next : Gl X "_law_next" := look_of hs (by kernel_rfl)
  have g__law_pick : Gl X "_law_pick" := look_of hs (by kernel_rfl)
  have g__law_twins : Gl X "_law_twins" := look_of hs (by kernel_rfl)
  have g__law_wrong : Gl X "_law_wrong" := look_of hs (by kernel_rfl)
  have g_are_groups : Gl X "are_groups" := look_of hs (by kernel_rfl)
  have g_brought_by : Gl X "brought_by" := look_of hs (by kernel_rfl)
  have g_choose_groups : Gl X "choose_groups" := look_of hs (by kernel_rfl)
  have g_dict : Gl X "dict" := look_of hs (by kernel_rfl)
  have g_fewest_rebuilt : Gl X "fewest_rebuilt" := look_of hs (by kernel_rfl)
  have g_group_names : Gl X "group_names" := look_of hs (by kernel_rfl)
  have g_groups_hang : Gl X "groups_hang" := look_of hs (by kernel_rfl)
  have g_kept_by_objects : Gl X "kept_by_objects" := look_of hs (by kernel_rfl)
  have g_kept_of : Gl X "kept_of" := look_of hs (by kernel_rfl)
  have g_len : Gl X "len" := look_of hs (by kernel_rfl)
  have g_list : Gl X "list" := look_of hs (by kernel_rfl)
  have g_lot_of : Gl X "lot_of" := look_of hs (by kernel_rfl)
  have g_misled : Gl X "misled" := look_of hs (by kernel_rfl)
  have g_range : Gl X "range" := look_of hs (by kernel_rfl)
  have g_seen_by : Gl X "seen_by" := look_of hs (by kernel_rfl)
  have g_signs_dropped : Gl X "signs_dropped" := look_of hs (by kernel_rfl)
  have g_sorted : Gl X "sorted" := look_of hs (by kernel_rfl)
  have g_strictest : Gl X "strictest" := look_of hs (by kernel_rfl)
  have g_sum : Gl X "sum" := look_of hs (by kernel_rfl)
  have g_tuple : Gl X "tuple" := look_of hs (by kernel_rfl)
  have g_unlike_twins : Gl X "unlike_twins" := look_of hs (by kernel_rfl)
  have g_wrong_in : Gl X "wrong_in" := look_of hs (by kernel_rfl)
  exact (ss_cons (s_for hp C.calm (i_rng1 g_range (C.free "range" (by decide)) e_int) (g_nm nd n2 (.inl l2) (.inr l2))
 (ss_cons (s_asg nd n3 (.inr l3) (e_call (C.call 20 _ _ rfl) C.room g__law_pick (a_io n1 v1 (a_cons (e_lst (a_cons (e_lst (a_cons e_str (a_cons e_str (a_cons e_str a_nil)))) (a_cons (e_lst (a_cons e_str (a_cons e_str (a_cons e_str (a_cons e_str (a_cons e_str a_nil)))))) (a_cons (e_lst (a_cons e_str (a_cons e_str a_nil))) a_nil)))) a_nil))) rfl (.inl (hfn _)))
 (ss_cons (s_asg nd n4 (.inr l4) (e_callT tyTuple (fun _ _ z => z) g_tuple (C.free "tuple" (by decide)) rfl (a_cons (e_comp C.calm nd (i_rng1 g_range (C.free "range" (by decide)) (e_call (C.call 19 _ _ rfl) C.room g__law_next (a_io n1 v1 (a_cons e_int a_nil)))) (blk_of (own := [("k", 10)]) hN hs (by kernel_rfl)) rfl (by decide) (fun _ _ _ _ _ => (g_nm nd n10 (locC (by kernel_rfl)) (hfC (by kernel_rfl)))) (fun _ _ _ _ _ => c_nil) (fun _ _ _ _ _ => (e_tup (a_cons (e_call (C.call 20 _ _ rfl) C.room (glC (by kernel_rfl)) (a_io n1 (visC (by kernel_rfl)) (a_cons (e_lst (a_cons e_str (a_cons e_str (a_cons e_str a_nil)))) a_nil))) (a_cons (e_call (C.call 20 _ _ rfl) C.room (glC (by kernel_rfl)) (a_io n1 (visC (by kernel_rfl)) (a_cons (e_var n3 (visC (by kernel_rfl))) a_nil))) (a_cons (e_call (C.call 20 _ _ rfl) C.room (glC (by kernel_rfl)) (a_io n1 (visC (by kernel_rfl)) (a_cons (e_lst (a_cons e_str (a_cons e_str (a_cons e_str (a_cons e_str (a_cons e_str (a_cons e_str a_nil))))))) a_nil))) (a_cons (e_call (C.call 20 _ _ rfl) C.room (glC (by kernel_rfl)) (a_io n1 (visC (by kernel_rfl)) (a_cons (e_lst (a_cons e_str (a_cons e_str (a_cons e_str a_nil)))) a_nil))) a_nil))))))) a_nil)) rfl (.inl (hfn _)))
 (ss_cons (s_parT C.calm (d_cons (e_callB (sortedP C.calm C.units) g_sorted (C.free "sorted" (by decide)) rfl (a_cons (e_callT (crDict C.calm) (fun _ _ z => z) g_dict (C.free "dict" (by decide)) rfl (a_cons (e_comp C.calm nd (i_seq (e_var n4 v4)) (blk_of (own := [("own", 18)]) hN hs (by kernel_rfl)) rfl (by decide) (fun _ _ _ _ _ => (g_nm nd n18 (locC (by kernel_rfl)) (hfC (by kernel_rfl)))) (fun _ _ _ _ _ => c_nil) (fun _ _ _ _ _ => (e_tup (a_cons (e_ix C.units (e_var n18 (visC (by kernel_rfl))) e_int (fun _ _ => rfl)) (a_cons e_bl a_nil))))) a_nil)) a_nil)) (d_cons (e_callB (sortedP C.calm C.units) g_sorted (C.free "sorted" (by decide)) rfl (a_cons (e_callT (crDict C.calm) (fun _ _ z => z) g_dict (C.free "dict" (by decide)) rfl (a_cons (e_comp C.calm nd (i_seq (e_var n4 v4)) (blk_of (own := [("own", 18)]) hN hs (by kernel_rfl)) rfl (by decide) (fun _ _ _ _ _ => (g_nm nd n18 (locC (by kernel_rfl)) (hfC (by kernel_rfl)))) (fun _ _ _ _ _ => c_nil) (fun _ _ _ _ _ => (e_tup (a_cons (e_ix C.units (e_var n18 (visC (by kernel_rfl))) e_int (fun _ _ => rfl)) (a_cons e_bl a_nil))))) a_nil)) a_nil)) d_nil)) (n_cons nd n5 (.inr l5) (n_cons nd n6 (.inl l6) n_nil (.inr l6)) (.inl (hfn _))) rfl rfl (by decide) rfl (sw_of hs (by kernel_rfl)))
 (ss_cons (s_asg nd n7 (.inr l7) (e_comp C.calm nd (i_seq (e_var n5 v5)) (blk_of (own := [("name", 22)]) hN hs (by kernel_rfl)) rfl (by decide) (fun _ _ _ _ _ => (g_nm nd n22 (locC (by kernel_rfl)) (hfC (by kernel_rfl)))) (fun _ _ _ _ _ => c_nil) (fun _ _ _ _ _ => (e_call (C.call 22 _ _ rfl) C.room (glC (by kernel_rfl)) (a_cons (e_var n4 (visC (by kernel_rfl))) (a_cons (e_var n22 (visC (by kernel_rfl))) a_nil))))) (sw_cell hs (by kernel_rfl)) (.inl (hfn _)))
 (ss_cons (s_asgC (ps_comp C.calm nd n8 l8 (sw_loc hs (by kernel_rfl) (by kernel_rfl) (by kernel_rfl) (by kernel_rfl)) (i_seq (e_var n5 v5)) (blk_of (own := [("name", 22)]) hN hs (by kernel_rfl)) rfl (by decide) (fun _ _ _ _ _ => (g_nm nd n22 (locC (by kernel_rfl)) (hfC (by kernel_rfl)))) (fun _ _ _ _ _ => (c_one (t_cmp C.units (e_call (C.call 23 _ _ rfl) C.room (glC (by kernel_rfl)) (a_cons (e_var n4 (visC (by kernel_rfl))) (a_cons (e_var n22 (visC (by kernel_rfl))) a_nil))) e_non (nomark _)))) (fun _ _ _ _ _ => (e_tup (a_cons (e_var n22 (visC (by kernel_rfl))) (a_cons (e_call (C.call 23 _ _ rfl) C.room (glC (by kernel_rfl)) (a_cons (e_var n4 (visC (by kernel_rfl))) (a_cons (e_var n22 (visC (by kernel_rfl))) a_nil))) a_nil))))))
 (ss_cons (s_asg nd n9 (.inl l9) (e_ite (t_cmp C.units (e_var n8 v8) (e_lst a_nil) (nomark _)) (e_bin (e_tup (a_cons e_str a_nil)) (e_ix C.units (e_var n8 v8) e_int (fun _ _ => rfl))) (e_tup (a_cons e_str (a_cons (e_callT tyTuple (fun _ _ z => z) g_tuple (C.free "tuple" (by decide)) rfl (a_cons (e_callB (sortedP C.calm C.units) g_sorted (C.free "sorted" (by decide)) rfl (a_cons (e_var n7 v7) a_nil)) a_nil)) a_nil)))) rfl (.inr l9))
 (ss_cons (s_if (t_not (t_val (e_call (C.call 21 _ _ rfl) C.room g__law_alike (a_cons (e_tup (a_cons (e_call (C.call 5 _ _ rfl) C.room g_group_names (a_cons (e_var n4 v4) a_nil)) (a_cons (e_call (C.call 8 _ _ rfl) C.room g_choose_groups (a_cons (e_var n4 v4) a_nil)) (a_cons (e_call (C.call 3 _ _ rfl) C.room g_are_groups (a_cons (e_var n4 v4) a_nil)) a_nil)))) (a_cons (e_tup (a_cons (e_callT tyTuple (fun _ _ z => z) g_tuple (C.free "tuple" (by decide)) rfl (a_cons (e_var n5 v5) a_nil)) (a_cons (e_var n9 v9) (a_cons e_bl a_nil)))) a_nil)))))
 (ss_cons (s_ret e_bl)
 ss_nil)
 ss_nil)
 (ss_cons (s_for hp C.calm (i_rng1 g_range (C.free "range" (by decide)) (e_callB crLen g_len (C.free "len" (by decide)) rfl (a_cons (e_var n5 v5) a_nil))) (g_nm nd n10 (.inr l10) (.inl (hfn _)))
 (ss_cons (s_asg nd n11 (.inr l11) (e_callT tyTuple (fun _ _ z => z) g_tuple (C.free "tuple" (by decide)) rfl (a_cons (e_comp C.calm nd (i_rng1 g_range (C.free "range" (by decide)) (e_callB crLen g_len (C.free "len" (by decide)) rfl (a_cons (e_var n4 v4) a_nil))) (blk_of (own := [("j", 24)]) hN hs (by kernel_rfl)) rfl (by decide) (fun _ _ _ _ _ => (g_nm nd n24 (locC (by kernel_rfl)) (hfC (by kernel_rfl)))) (fun _ _ _ _ _ => (c_one (t_cmp C.units (e_ix C.units (e_ix C.units (e_var n4 (visC (by kernel_rfl))) (e_var n24 (visC (by kernel_rfl))) (fun _ _ => rfl)) e_int (fun _ _ => rfl)) (e_ix C.units (e_var n5 (visC (by kernel_rfl))) (e_var n10 (visC (by kernel_rfl))) (fun _ _ => rfl)) (nomark _)))) (fun _ _ _ _ _ => (e_var n24 (visC (by kernel_rfl))))) a_nil)) rfl (.inl (hfn _)))
 (ss_cons (s_asg nd n12 (.inl l12) (e_ix C.units (e_comp C.calm nd (i_seq (e_tup (a_cons e_str (a_cons e_str (a_cons e_str (a_cons e_str (a_cons e_str a_nil))))))) (blk_of (own := [("way", 25)]) hN hs (by kernel_rfl)) rfl (by decide) (fun _ _ _ _ _ => (g_nm nd n25 (locC (by kernel_rfl)) (hfC (by kernel_rfl)))) (fun _ _ _ _ _ => (c_one (t_cmp C.units (e_var n25 (visC (by kernel_rfl))) (e_comp C.calm nd (i_seq (e_var n11 (visC (by kernel_rfl)))) (blkIn (own := [("j", 24)]) hN (by kernel_rfl)) rfl (by decide) (fun _ _ _ _ _ => (g_nm nd n24 (locC (by kernel_rfl)) (hfC (by kernel_rfl)))) (fun _ _ _ _ _ => c_nil) (fun _ _ _ _ _ => (e_ix C.units (e_ix C.units (e_var n4 (visC (by kernel_rfl))) (e_var n24 (visC (by kernel_rfl))) (fun _ _ => rfl)) e_int (fun _ _ => rfl)))) (by with_unfolding_all rfl)))) (fun _ _ _ _ _ => (e_var n25 (visC (by kernel_rfl))))) e_int (fun _ _ => rfl)) rfl (.inr l12))
 (ss_cons (s_if (t_not (t_val (e_call (C.call 21 _ _ rfl) C.room g__law_alike (a_cons (e_tup (a_cons (e_call (C.call 4 _ _ rfl) C.room g_lot_of (a_cons (e_var n4 v4) (a_cons (e_ix C.units (e_var n5 v5) (e_var n10 v10) (fun _ _ => rfl)) a_nil))) (a_cons (e_call (C.call 6 _ _ rfl) C.room g_kept_of (a_cons (e_var n4 v4) (a_cons (e_ix C.units (e_var n5 v5) (e_var n10 v10) (fun _ _ => rfl)) a_nil))) (a_cons (e_call (C.call 7 _ _ rfl) C.room g_wrong_in (a_cons (e_var n4 v4) (a_cons (e_ix C.units (e_var n5 v5) (e_var n10 v10) (fun _ _ => rfl)) a_nil))) (a_cons (e_call (C.call 15 _ _ rfl) C.room g_strictest (a_cons (e_var n4 v4) (a_cons (e_ix C.units (e_var n5 v5) (e_var n10 v10) (fun _ _ => rfl)) a_nil))) a_nil))))) (a_cons (e_tup (a_cons (e_var n11 v11) (a_cons (e_ix C.units (e_var n7 v7) (e_var n10 v10) (fun _ _ => rfl)) (a_cons (e_call (C.call 23 _ _ rfl) C.room g__law_wrong (a_cons (e_var n4 v4) (a_cons (e_ix C.units (e_var n5 v5) (e_var n10 v10) (fun _ _ => rfl)) a_nil))) (a_cons (e_var n12 v12) a_nil))))) a_nil)))))
 (ss_cons (s_ret e_bl)
 ss_nil)
 ss_nil)
 ss_nil))))
 (ss_cons (s_asg nd n13 (.inr l13) (e_rev (e_var n4 v4)) rfl (.inl (hfn _)))
 (ss_cons (s_asg nd n14 (.inl l14) (e_callT tyTuple (fun _ _ z => z) g_tuple (C.free "tuple" (by decide)) rfl (a_cons (e_comp C.calm nd (i_rng1 g_range (C.free "range" (by decide)) (e_callB crLen g_len (C.free "len" (by decide)) rfl (a_cons (e_var n5 v5) a_nil))) (blk_of (own := [("k", 10)]) hN hs (by kernel_rfl)) rfl (by decide) (fun _ _ _ _ _ => (g_nm nd n10 (locC (by kernel_rfl)) (hfC (by kernel_rfl)))) (fun _ _ _ _ _ => (c_one (t_cmp C.units (e_ix C.units (e_ix C.units (e_var n4 (visC (by kernel_rfl))) (e_ix C.units (e_var n7 (visC (by kernel_rfl))) (e_var n10 (visC (by kernel_rfl))) (fun _ _ => rfl)) (fun _ _ => rfl)) e_int (fun _ _ => rfl)) (e_ix C.units (e_ix C.units (e_var n13 (visC (by kernel_rfl))) (e_call (C.call 22 _ _ rfl) C.room (glC (by kernel_rfl)) (a_cons (e_var n13 (visC (by kernel_rfl))) (a_cons (e_ix C.units (e_var n5 (visC (by kernel_rfl))) (e_var n10 (visC (by kernel_rfl))) (fun _ _ => rfl)) a_nil))) (fun _ _ => rfl)) e_int (fun _ _ => rfl)) (nomark _)))) (fun _ _ _ _ _ => (e_ix C.units (e_var n5 (visC (by kernel_rfl))) (e_var n10 (visC (by kernel_rfl))) (fun _ _ => rfl)))) a_nil)) rfl (.inr l14))
 (ss_cons (s_asgC (ps_comp C.calm nd n15 l15 (sw_loc hs (by kernel_rfl) (by kernel_rfl) (by kernel_rfl) (by kernel_rfl)) (i_seq (e_var n6 v6)) (blk_of (own := [("own", 18)]) hN hs (by kernel_rfl)) rfl (by decide) (fun _ _ _ _ _ => (g_nm nd n18 (locC (by kernel_rfl)) (hfC (by kernel_rfl)))) (fun _ _ _ _ _ => c_nil) (fun _ _ _ _ _ => (e_tup (a_cons (e_var n18 (visC (by kernel_rfl))) (a_cons (e_callT (crDict C.calm) (fun _ _ z => z) (glC (by kernel_rfl)) (C.free "dict" (by decide)) rfl (a_cons (e_comp C.calm nd (i_seq (e_var n5 (visC (by kernel_rfl)))) (blkIn (own := [("name", 22)]) hN (by kernel_rfl)) rfl (by decide) (fun _ _ _ _ _ => (g_nm nd n22 (locC (by kernel_rfl)) (hfC (by kernel_rfl)))) (fun _ _ _ _ _ => (c_one (t_cmp C.units (e_comp C.calm nd (i_seq (e_var n4 (visC (by kernel_rfl)))) (blkIn (own := [("one", 23)]) hN (by kernel_rfl)) rfl (by decide) (fun _ _ _ _ _ => (g_nm nd n23 (locC (by kernel_rfl)) (hfC (by kernel_rfl)))) (fun _ _ _ _ _ => (c_one (t_w (w_and (t_cmp C.units (e_ix C.units (e_var n23 (visC (by kernel_rfl))) e_int (fun _ _ => rfl)) (e_var n18 (visC (by kernel_rfl))) (nomark _)) (w_and1 (t_cmp C.units (e_ix C.units (e_var n23 (visC (by kernel_rfl))) e_int (fun _ _ => rfl)) (e_var n22 (visC (by kernel_rfl))) (nomark _))))))) (fun _ _ _ _ _ => e_int)) (e_lst a_nil) (nomark _)))) (fun _ _ _ _ _ => (e_tup (a_cons (e_var n22 (visC (by kernel_rfl))) (a_cons (e_cmp C.units (e_comp C.calm nd (i_seq (e_var n4 (visC (by kernel_rfl)))) (blkIn (own := [("one", 23)]) hN (by kernel_rfl)) rfl (by decide) (fun _ _ _ _ _ => (g_nm nd n23 (locC (by kernel_rfl)) (hfC (by kernel_rfl)))) (fun _ _ _ _ _ => (c_one (t_w (w_and (t_cmp C.units (e_ix C.units (e_var n23 (visC (by kernel_rfl))) e_int (fun _ _ => rfl)) (e_var n18 (visC (by kernel_rfl))) (nomark _)) (w_and (t_cmp C.units (e_ix C.units (e_var n23 (visC (by kernel_rfl))) e_int (fun _ _ => rfl)) (e_var n22 (visC (by kernel_rfl))) (nomark _)) (w_and1 (t_cmp C.units (e_ix C.units (e_var n23 (visC (by kernel_rfl))) e_int (fun _ _ => rfl)) (e_ix C.units (e_ix C.units (e_var n4 (visC (by kernel_rfl))) (e_call (C.call 22 _ _ rfl) C.room (glC (by kernel_rfl)) (a_cons (e_var n4 (visC (by kernel_rfl))) (a_cons (e_var n22 (visC (by kernel_rfl))) a_nil))) (fun _ _ => rfl)) e_int (fun _ _ => rfl)) (nomark _)))))))) (fun _ _ _ _ _ => e_int)) (e_lst a_nil) (nomark _)) a_nil))))) a_nil)) a_nil))))))
 (ss_cons (s_asg nd n16 (.inl l16) (e_callT tyTuple (fun _ _ z => z) g_tuple (C.free "tuple" (by decide)) rfl (a_cons (e_comp C.calm nd (i_seq (e_var n15 v15)) (blk_of (own := [("own", 18), ("seen", 19)]) hN hs (by kernel_rfl)) rfl (by decide) (fun _ _ _ _ _ => (g_tp C.calm (gs_cons (g_nm nd n18 (locC (by kernel_rfl)) (hfC (by kernel_rfl))) (gs_cons (g_nm nd n19 (locC (by kernel_rfl)) (hfC (by kernel_rfl))) gs_nil)))) (fun _ _ _ _ _ => (c_one (t_cmp C.units e_bl (e_listVals C.calm (glC (by kernel_rfl)) (C.free "list" (by decide)) (e_var n19 (visC (by kernel_rfl)))) (by with_unfolding_all rfl)))) (fun _ _ _ _ _ => (e_var n18 (visC (by kernel_rfl))))) a_nil)) rfl (.inr l16))
 (ss_cons (s_asg nd n17 (.inl l17) (e_callB (crSum C.calm) g_sum (C.free "sum" (by decide)) rfl (a_cons (e_comp C.calm nd (i_rng1 g_range (C.free "range" (by decide)) (e_callB crLen g_len (C.free "len" (by decide)) rfl (a_cons (e_var n4 v4) a_nil))) (blk_of (own := [("k", 10)]) hN hs (by kernel_rfl)) rfl (by decide) (fun _ _ _ _ _ => (g_nm nd n10 (locC (by kernel_rfl)) (hfC (by kernel_rfl)))) (fun _ _ _ _ _ => (c_one (t_cmp C.units (e_var n10 (visC (by kernel_rfl))) (e_var n7 (visC (by kernel_rfl))) (by with_unfolding_all rfl)))) (fun _ _ _ _ _ => (e_callB crLen (glC (by kernel_rfl)) (C.free "len" (by decide)) rfl (a_cons (e_ix C.units (e_ix C.units (e_var n4 (visC (by kernel_rfl))) (e_var n10 (visC (by kernel_rfl))) (fun _ _ => rfl)) e_int (fun _ _ => rfl)) a_nil)))) a_nil)) rfl (.inr l17))
 (ss_cons (s_if (t_not (t_val (e_call (C.call 21 _ _ rfl) C.room g__law_alike (a_cons (e_tup (a_cons (e_call (C.call 11 _ _ rfl) C.room g_groups_hang (a_cons (e_var n4 v4) a_nil)) (a_cons (e_call (C.call 13 _ _ rfl) C.room g_misled (a_cons (e_var n4 v4) a_nil)) (a_cons (e_call (C.call 10 _ _ rfl) C.room g_unlike_twins (a_cons (e_var n4 v4) a_nil)) (a_cons (e_call (C.call 9 _ _ rfl) C.room g_signs_dropped (a_cons (e_var n4 v4) a_nil)) a_nil))))) (a_cons (e_tup (a_cons (e_var n14 v14) (a_cons (e_var n16 v16) (a_cons (e_callT tyTuple (fun _ _ z => z) g_tuple (C.free "tuple" (by decide)) rfl (a_cons (e_call (C.call 24 _ _ rfl) C.room g__law_twins (a_cons (e_var n4 v4) a_nil)) a_nil)) (a_cons (e_var n17 v17) a_nil))))) a_nil)))))
 (ss_cons (s_ret e_bl)
 ss_nil)
 ss_nil)
 (ss_cons (s_for hp C.calm (i_seq (e_var n15 v15)) (g_tp C.calm (gs_cons (g_nm nd n18 (.inr l18) (.inl (hfn _))) (gs_cons (g_nm nd n19 (.inl l19) (.inr l19)) gs_nil)))
 (ss_cons (s_if (t_cmp C.units (e_call (C.call 12 _ _ rfl) C.room g_seen_by (a_cons (e_var n4 v4) (a_cons (e_var n18 v18) a_nil))) (e_var n19 v19) (nomark _))
 (ss_cons (s_ret e_bl)
 ss_nil)
 ss_nil)
 ss_nil))
 (ss_cons (s_if (t_cmp C.units (e_call (C.call 17 _ _ rfl) C.room g_kept_by_objects (a_cons (e_var n4 v4) a_nil)) (e_callT (crDict C.calm) (fun _ _ z => z) g_dict (C.free "dict" (by decide)) rfl (a_cons (e_comp C.calm nd (i_seq (e_var n6 v6)) (blk_of (own := [("own", 18)]) hN hs (by kernel_rfl)) rfl (by decide) (fun _ _ _ _ _ => (g_nm nd n18 (locC (by kernel_rfl)) (hfC (by kernel_rfl)))) (fun _ _ _ _ _ => c_nil) (fun _ _ _ _ _ => (e_tup (a_cons (e_var n18 (visC (by kernel_rfl))) (a_cons (e_callB crLen (glC (by kernel_rfl)) (C.free "len" (by decide)) rfl (a_cons (e_comp C.calm nd (i_seq (e_var n7 (visC (by kernel_rfl)))) (blkIn (own := [("k", 10)]) hN (by kernel_rfl)) rfl (by decide) (fun _ _ _ _ _ => (g_nm nd n10 (locC (by kernel_rfl)) (hfC (by kernel_rfl)))) (fun _ _ _ _ _ => (c_one (t_cmp C.units (e_ix C.units (e_ix C.units (e_var n4 (visC (by kernel_rfl))) (e_var n10 (visC (by kernel_rfl))) (fun _ _ => rfl)) e_int (fun _ _ => rfl)) (e_var n18 (visC (by kernel_rfl))) (nomark _)))) (fun _ _ _ _ _ => (e_var n10 (visC (by kernel_rfl))))) a_nil)) a_nil))))) a_nil)) (nomark _))
 (ss_cons (s_ret e_bl)
 ss_nil)
 ss_nil)
 (ss_cons (s_if (t_cmp C.units (e_call (C.call 16 _ _ rfl) C.room g_brought_by (a_cons (e_var n4 v4) a_nil)) (e_callT (crDict C.calm) (fun _ _ z => z) g_dict (C.free "dict" (by decide)) rfl (a_cons (e_comp C.calm nd (i_seq (e_var n6 v6)) (blk_of (own := [("own", 18)]) hN hs (by kernel_rfl)) rfl (by decide) (fun _ _ _ _ _ => (g_nm nd n18 (locC (by kernel_rfl)) (hfC (by kernel_rfl)))) (fun _ _ _ _ _ => c_nil) (fun _ _ _ _ _ => (e_tup (a_cons (e_var n18 (visC (by kernel_rfl))) (a_cons (e_callT tyTuple (fun _ _ z => z) (glC (by kernel_rfl)) (C.free "tuple" (by decide)) rfl (a_cons (e_comp C.calm nd (i_seq (e_var n5 (visC (by kernel_rfl)))) (blkIn (own := [("name", 22)]) hN (by kernel_rfl)) rfl (by decide) (fun _ _ _ _ _ => (g_nm nd n22 (locC (by kernel_rfl)) (hfC (by kernel_rfl)))) (fun _ _ _ _ _ => (c_one (t_cmp C.units (e_comp C.calm nd (i_seq (e_var n4 (visC (by kernel_rfl)))) (blkIn (own := [("one", 23)]) hN (by kernel_rfl)) rfl (by decide) (fun _ _ _ _ _ => (g_nm nd n23 (locC (by kernel_rfl)) (hfC (by kernel_rfl)))) (fun _ _ _ _ _ => (c_one (t_w (w_and (t_cmp C.units (e_ix C.units (e_var n23 (visC (by kernel_rfl))) e_int (fun _ _ => rfl)) (e_var n22 (visC (by kernel_rfl))) (nomark _)) (w_and1 (t_cmp C.units (e_ix C.units (e_var n23 (visC (by kernel_rfl))) e_int (fun _ _ => rfl)) (e_var n18 (visC (by kernel_rfl))) (nomark _))))))) (fun _ _ _ _ _ => e_int)) (e_lst a_nil) (nomark _)))) (fun _ _ _ _ _ => (e_var n22 (visC (by kernel_rfl))))) a_nil)) a_nil))))) a_nil)) (nomark _))
 (ss_cons (s_ret e_bl)
 ss_nil)
 ss_nil)
 (ss_cons (s_asg nd n20 (.inl l20) (e_lst (a_cons (e_tup a_nil) a_nil)) rfl (.inr l20))
 (ss_cons (s_for hp C.calm (i_seq (e_var n6 v6)) (g_nm nd n18 (.inr l18) (.inl (hfn _)))
 (ss_cons (s_asg nd n20 (.inl l20) (e_bin (e_var n20 v20) (e_comp C.calm nd (i_seq (e_var n20 v20)) (blk_of (own := [("one", 23)]) hN hs (by kernel_rfl)) rfl (by decide) (fun _ _ _ _ _ => (g_nm nd n23 (locC (by kernel_rfl)) (hfC (by kernel_rfl)))) (fun _ _ _ _ _ => c_nil) (fun _ _ _ _ _ => (e_bin (e_var n23 (visC (by kernel_rfl))) (e_tup (a_cons (e_var n18 (visC (by kernel_rfl))) a_nil)))))) rfl (.inr l20))
 ss_nil))
 (ss_cons (s_asg nd n21 (.inl l21) (e_callB (sortedP C.calm C.units) g_sorted (C.free "sorted" (by decide)) rfl (a_cons (e_comp C.calm nd (i_seq (e_var n20 v20)) (blk_of (own := [("one", 23)]) hN hs (by kernel_rfl)) rfl (by decide) (fun _ _ _ _ _ => (g_nm nd n23 (locC (by kernel_rfl)) (hfC (by kernel_rfl)))) (fun _ _ _ _ _ => (c_one (t_cmp C.units (e_call (C.call 24 _ _ rfl) C.room (glC (by kernel_rfl)) (a_cons (e_comp C.calm nd (i_seq (e_var n4 (visC (by kernel_rfl)))) (blkIn (own := [("own", 18)]) hN (by kernel_rfl)) rfl (by decide) (fun _ _ _ _ _ => (g_nm nd n18 (locC (by kernel_rfl)) (hfC (by kernel_rfl)))) (fun _ _ _ _ _ => (c_one (t_cmp C.units (e_ix C.units (e_var n18 (visC (by kernel_rfl))) e_int (fun _ _ => rfl)) (e_var n23 (visC (by kernel_rfl))) (by with_unfolding_all rfl)))) (fun _ _ _ _ _ => (e_var n18 (visC (by kernel_rfl))))) a_nil)) (e_lst a_nil) (nomark _)))) (fun _ _ _ _ _ => (e_tup (a_cons (e_callB crLen (glC (by kernel_rfl)) (C.free "len" (by decide)) rfl (a_cons (e_var n23 (visC (by kernel_rfl))) a_nil)) (a_cons (e_var n23 (visC (by kernel_rfl))) a_nil))))) a_nil)) rfl (.inr l21))
 (ss_cons (s_if (t_not (t_val (e_call (C.call 21 _ _ rfl) C.room g__law_alike (a_cons (e_call (C.call 14 _ _ rfl) C.room g_fewest_rebuilt (a_cons (e_var n4 v4) a_nil)) (a_cons (e_ix C.units (e_ix C.units (e_var n21 v21) e_int (fun _ _ => rfl)) e_int (fun _ _ => rfl)) a_nil)))))
 (ss_cons (s_ret e_bl)
 ss_nil)
 ss_nil)
 (ss_cons (s_for hp C.calm (i_seq (e_tup (a_cons (e_callT (tyList C.calm) (fun _ _ z => z) g_list (C.free "list" (by decide)) rfl (a_cons (e_var n4 v4) a_nil)) (a_cons e_non (a_cons (e_bin (e_var n4 v4) (e_tup (a_cons (e_tup (a_cons e_str (a_cons e_str (a_cons e_str (a_cons e_str a_nil))))) a_nil))) (a_cons (e_bin (e_var n4 v4) (e_tup (a_cons (e_tup (a_cons e_str (a_cons e_str (a_cons e_int (a_cons e_str a_nil))))) a_nil))) (a_cons (e_bin (e_var n4 v4) (e_tup (a_cons (e_tup (a_cons e_str (a_cons e_str (a_cons e_str a_nil)))) a_nil))) (a_cons (e_bin (e_var n4 v4) (e_tup (a_cons (e_tup (a_cons e_str (a_cons e_str (a_cons e_str (a_cons e_str a_nil))))) a_nil))) (a_cons (e_bin (e_var n4 v4) (e_tup (a_cons (e_tup (a_cons e_str (a_cons e_str (a_cons e_str (a_cons e_non a_nil))))) a_nil))) (a_cons (e_bin (e_var n4 v4) (e_tup (a_cons (e_tup (a_cons e_int (a_cons e_str (a_cons e_str (a_cons e_str a_nil))))) a_nil))) a_nil)))))))))) (g_nm nd n16 (.inl l16) (.inr l16))
 (ss_cons (s_if (t_not (t_val (e_call (C.call 21 _ _ rfl) C.room g__law_alike (a_cons (e_call (C.call 3 _ _ rfl) C.room g_are_groups (a_cons (e_var n16 v16) a_nil)) (a_cons e_bl a_nil)))))
 (ss_cons (s_ret e_bl)
 ss_nil)
 ss_nil)
 ss_nil))
 ss_nil)))))))))))))))))))))))
 (ss_cons (s_ret e_bl)
 ss_nil))
end LW

namespace LW
open PySem PySem.Spec PyProof.Rows L2 PP
def d_is_tuple_of : He.DefD := ⟨("is_tuple_of", none), "is_tuple_of", "is_tuple_of", defArgs (top 3), defBody (top 3), defScope (top 3), [], []⟩
def d_is_name : He.DefD := ⟨("is_name", none), "is_name", "is_name", defArgs (top 4), defBody (top 4), defScope (top 4), [], []⟩
def d_set_of : He.DefD := ⟨("set_of", none), "set_of", "set_of", defArgs (top 5), defBody (top 5), defScope (top 5), [], []⟩
def d_are_groups : He.DefD := ⟨("are_groups", none), "are_groups", "are_groups", defArgs (top 8), defBody (top 8), defScope (top 8), [], []⟩
def d_lot_of : He.DefD := ⟨("lot_of", none), "lot_of", "lot_of", defArgs (top 9), defBody (top 9), defScope (top 9), [], []⟩
def d_group_names : He.DefD := ⟨("group_names", none), "group_names", "group_names", defArgs (top 10), defBody (top 10), defScope (top 10), [], []⟩
def d_kept_of : He.DefD := ⟨("kept_of", none), "kept_of", "kept_of", defArgs (top 11), defBody (top 11), defScope (top 11), [], []⟩
def d_wrong_in : He.DefD := ⟨("wrong_in", none), "wrong_in", "wrong_in", defArgs (top 12), defBody (top 12), defScope (top 12), [], []⟩
def d_choose_groups : He.DefD := ⟨("choose_groups", none), "choose_groups", "choose_groups", defArgs (top 13), defBody (top 13), defScope (top 13), [], []⟩
def d_signs_dropped : He.DefD := ⟨("signs_dropped", none), "signs_dropped", "signs_dropped", defArgs (top 14), defBody (top 14), defScope (top 14), [], []⟩
def d_unlike_twins : He.DefD := ⟨("unlike_twins", none), "unlike_twins", "unlike_twins", defArgs (top 15), defBody (top 15), defScope (top 15), [], []⟩
def d_groups_hang : He.DefD := ⟨("groups_hang", none), "groups_hang", "groups_hang", defArgs (top 16), defBody (top 16), defScope (top 16), [], []⟩
def d_seen_by : He.DefD := ⟨("seen_by", none), "seen_by", "seen_by", defArgs (top 17), defBody (top 17), defScope (top 17), [], []⟩
def d_misled : He.DefD := ⟨("misled", none), "misled", "misled", defArgs (top 18), defBody (top 18), defScope (top 18), [], []⟩
def d_fewest_rebuilt : He.DefD := ⟨("fewest_rebuilt", none), "fewest_rebuilt", "fewest_rebuilt", defArgs (top 19), defBody (top 19), defScope (top 19), [], []⟩
def d_strictest : He.DefD := ⟨("strictest", none), "strictest", "strictest", defArgs (top 20), defBody (top 20), defScope (top 20), [], []⟩
def d_brought_by : He.DefD := ⟨("brought_by", none), "brought_by", "brought_by", defArgs (top 21), defBody (top 21), defScope (top 21), [], []⟩
def d_kept_by_objects : He.DefD := ⟨("kept_by_objects", none), "kept_by_objects", "kept_by_objects", defArgs (top 22), defBody (top 22), defScope (top 22), [], []⟩
def d__law_draws : He.DefD := ⟨("_law_draws", none), "_law_draws", "_law_draws", defArgs (top 24), defBody (top 24), defScope (top 24), [], []⟩
def d__law_next : He.DefD := ⟨("_law_next", none), "_law_next", "_law_next", defArgs (top 25), defBody (top 25), defScope (top 25), [], []⟩
def d__law_pick : He.DefD := ⟨("_law_pick", none), "_law_pick", "_law_pick", defArgs (top 26), defBody (top 26), defScope (top 26), [], []⟩
def d__law_alike : He.DefD := ⟨("_law_alike", none), "_law_alike", "_law_alike", defArgs (top 27), defBody (top 27), defScope (top 27), [], []⟩
def d__law_kept : He.DefD := ⟨("_law_kept", none), "_law_kept", "_law_kept", defArgs (top 28), defBody (top 28), defScope (top 28), [], []⟩
def d__law_wrong : He.DefD := ⟨("_law_wrong", none), "_law_wrong", "_law_wrong", defArgs (top 29), defBody (top 29), defScope (top 29), [], []⟩
def d__law_twins : He.DefD := ⟨("_law_twins", none), "_law_twins", "_law_twins", defArgs (top 30), defBody (top 30), defScope (top 30), [], []⟩
def d_law : He.DefD := ⟨("law", none), "law", "law", defArgs (top 31), defBody (top 31), defScope (top 31), [], []⟩
def fn : List He.DefD := [d_is_tuple_of, d_is_name, d_set_of, d_are_groups, d_lot_of, d_group_names, d_kept_of, d_wrong_in, d_choose_groups, d_signs_dropped, d_unlike_twins, d_groups_hang, d_seen_by, d_misled, d_fewest_rebuilt, d_strictest, d_brought_by, d_kept_by_objects, d__law_draws, d__law_next, d__law_pick, d__law_alike, d__law_kept, d__law_wrong, d__law_twins, d_law]
def fa : List He.Fa := [.glo "is_tuple_of", .glo "is_name", .glo "set_of", .glo "are_groups", .glo "lot_of", .glo "group_names", .glo "kept_of", .glo "wrong_in", .glo "choose_groups", .glo "signs_dropped", .glo "unlike_twins", .glo "groups_hang", .glo "seen_by", .glo "misled", .glo "fewest_rebuilt", .glo "strictest", .glo "brought_by", .glo "kept_by_objects", .glo "_law_draws", .glo "_law_next", .glo "_law_pick", .glo "_law_alike", .glo "_law_kept", .glo "_law_wrong", .glo "_law_twins", .glo "law", .free "abs", .free "all", .free "any", .free "bool", .free "dict", .free "int", .free "isinstance", .free "len", .free "list", .free "min", .free "range", .free "set", .free "sorted", .free "str", .free "sum", .free "tuple", .str "LETTERS" "abcdefghijklmnopqrstuvwxyz", .str "DIGITS" "0123456789", .glo "WAYS"]
def tl : List (Str × List He.Dv) := [("WAYS", [.str "any", .str "samesize", .str "same", .str "largest", .str "none"])]
abbrev R : PySem.W.OpenRow := PySem.W.OpenLaw.row PySem.Challenge.rw_linkwright_k25_groups_that_many_bring
abbrev hk : PySem.W.Hook := hookP 4 tl fa fn
def ob (s : PySem.W.SharedT) : Bool × He.AlD := obsP 4 tl fa fn (HandSHeadRun.getT s)
theorem ob_eq (s : PySem.W.SharedT) : ob s = hk.obs s.abs := obsP_eq (HandSHeadRun.getT_eq s)
def loose1 : List PySem.Str := ["is_tuple_of", "is_name", "set_of", "are_groups", "lot_of", "group_names", "kept_of", "wrong_in", "choose_groups", "signs_dropped", "unlike_twins", "groups_hang", "seen_by", "misled", "fewest_rebuilt", "strictest", "brought_by", "kept_by_objects", "_law_draws", "_law_next", "_law_pick", "_law_alike", "_law_kept", "_law_wrong", "_law_twins", "LETTERS", "DIGITS", "WAYS"]
theorem run (w : World) : HandSHeadRun.RunEq R (PySem.W.view R.prog [31]) hk ob 4000 loose1 w := by
  intro os
  kernel_rfl
structure Facts (K : PySem.W.Frag) (mg : Str → Option Value) : Prop where
  f_is_tuple_of : ∃ fa fd, FunD K "is_tuple_of" "is_tuple_of" (defArgs (top 3)) (defBody (top 3)) (defScope (top 3)) [] [] fa fd ∧ mg "is_tuple_of" = some (.ref fa)
  f_is_name : ∃ fa fd, FunD K "is_name" "is_name" (defArgs (top 4)) (defBody (top 4)) (defScope (top 4)) [] [] fa fd ∧ mg "is_name" = some (.ref fa)
  f_set_of : ∃ fa fd, FunD K "set_of" "set_of" (defArgs (top 5)) (defBody (top 5)) (defScope (top 5)) [] [] fa fd ∧ mg "set_of" = some (.ref fa)
  f_are_groups : ∃ fa fd, FunD K "are_groups" "are_groups" (defArgs (top 8)) (defBody (top 8)) (defScope (top 8)) [] [] fa fd ∧ mg "are_groups" = some (.ref fa)
  f_lot_of : ∃ fa fd, FunD K "lot_of" "lot_of" (defArgs (top 9)) (defBody (top 9)) (defScope (top 9)) [] [] fa fd ∧ mg "lot_of" = some (.ref fa)
  f_group_names : ∃ fa fd, FunD K "group_names" "group_names" (defArgs (top 10)) (defBody (top 10)) (defScope (top 10)) [] [] fa fd ∧ mg "group_names" = some (.ref fa)
  f_kept_of : ∃ fa fd, FunD K "kept_of" "kept_of" (defArgs (top 11)) (defBody (top 11)) (defScope (top 11)) [] [] fa fd ∧ mg "kept_of" = some (.ref fa)
  f_wrong_in : ∃ fa fd, FunD K "wrong_in" "wrong_in" (defArgs (top 12)) (defBody (top 12)) (defScope (top 12)) [] [] fa fd ∧ mg "wrong_in" = some (.ref fa)
  f_choose_groups : ∃ fa fd, FunD K "choose_groups" "choose_groups" (defArgs (top 13)) (defBody (top 13)) (defScope (top 13)) [] [] fa fd ∧ mg "choose_groups" = some (.ref fa)
  f_signs_dropped : ∃ fa fd, FunD K "signs_dropped" "signs_dropped" (defArgs (top 14)) (defBody (top 14)) (defScope (top 14)) [] [] fa fd ∧ mg "signs_dropped" = some (.ref fa)
  f_unlike_twins : ∃ fa fd, FunD K "unlike_twins" "unlike_twins" (defArgs (top 15)) (defBody (top 15)) (defScope (top 15)) [] [] fa fd ∧ mg "unlike_twins" = some (.ref fa)
  f_groups_hang : ∃ fa fd, FunD K "groups_hang" "groups_hang" (defArgs (top 16)) (defBody (top 16)) (defScope (top 16)) [] [] fa fd ∧ mg "groups_hang" = some (.ref fa)
  f_seen_by : ∃ fa fd, FunD K "seen_by" "seen_by" (defArgs (top 17)) (defBody (top 17)) (defScope (top 17)) [] [] fa fd ∧ mg "seen_by" = some (.ref fa)
  f_misled : ∃ fa fd, FunD K "misled" "misled" (defArgs (top 18)) (defBody (top 18)) (defScope (top 18)) [] [] fa fd ∧ mg "misled" = some (.ref fa)
  f_fewest_rebuilt : ∃ fa fd, FunD K "fewest_rebuilt" "fewest_rebuilt" (defArgs (top 19)) (defBody (top 19)) (defScope (top 19)) [] [] fa fd ∧ mg "fewest_rebuilt" = some (.ref fa)
  f_strictest : ∃ fa fd, FunD K "strictest" "strictest" (defArgs (top 20)) (defBody (top 20)) (defScope (top 20)) [] [] fa fd ∧ mg "strictest" = some (.ref fa)
  f_brought_by : ∃ fa fd, FunD K "brought_by" "brought_by" (defArgs (top 21)) (defBody (top 21)) (defScope (top 21)) [] [] fa fd ∧ mg "brought_by" = some (.ref fa)
  f_kept_by_objects : ∃ fa fd, FunD K "kept_by_objects" "kept_by_objects" (defArgs (top 22)) (defBody (top 22)) (defScope (top 22)) [] [] fa fd ∧ mg "kept_by_objects" = some (.ref fa)
  f__law_draws : ∃ fa fd, FunD K "_law_draws" "_law_draws" (defArgs (top 24)) (defBody (top 24)) (defScope (top 24)) [] [] fa fd ∧ mg "_law_draws" = some (.ref fa)
  f__law_next : ∃ fa fd, FunD K "_law_next" "_law_next" (defArgs (top 25)) (defBody (top 25)) (defScope (top 25)) [] [] fa fd ∧ mg "_law_next" = some (.ref fa)
  f__law_pick : ∃ fa fd, FunD K "_law_pick" "_law_pick" (defArgs (top 26)) (defBody (top 26)) (defScope (top 26)) [] [] fa fd ∧ mg "_law_pick" = some (.ref fa)
  f__law_alike : ∃ fa fd, FunD K "_law_alike" "_law_alike" (defArgs (top 27)) (defBody (top 27)) (defScope (top 27)) [] [] fa fd ∧ mg "_law_alike" = some (.ref fa)
  f__law_kept : ∃ fa fd, FunD K "_law_kept" "_law_kept" (defArgs (top 28)) (defBody (top 28)) (defScope (top 28)) [] [] fa fd ∧ mg "_law_kept" = some (.ref fa)
  f__law_wrong : ∃ fa fd, FunD K "_law_wrong" "_law_wrong" (defArgs (top 29)) (defBody (top 29)) (defScope (top 29)) [] [] fa fd ∧ mg "_law_wrong" = some (.ref fa)
  f__law_twins : ∃ fa fd, FunD K "_law_twins" "_law_twins" (defArgs (top 30)) (defBody (top 30)) (defScope (top 30)) [] [] fa fd ∧ mg "_law_twins" = some (.ref fa)
  f_law : ∃ fa fd, FunD K "law" "law" (defArgs (top 31)) (defBody (top 31)) (defScope (top 31)) [] [] fa fd ∧ mg "law" = some (.ref fa)
  free : ∀ x, x ∈ bn → mg x = none
  gstr : ∀ (g : Nat) (x z : Str), gn[g]? = some x → gls[g]? = some (.str z) → ∃ t, mg x = some (.str z t)
  gtup : ∀ (g : Nat) (x : Str) (ds : List PyData), gn[g]? = some x → gls[g]? = some (.tuple ds) → ∃ a xs, mg x = some (.ref a) ∧ (∀ H, SqT K H a xs) ∧ ∀ H P, RpAll K H P xs ds
theorem facts {K : PySem.W.Frag} {h : Heap} {mg : Str → Option Value} (KX : K.In h) (G : h.Ns mainGlobals mg) (ct : (tl.all fun t => He.tupB K t.1 t.2) = true) (c : He.SaysD fa fn K) : Facts K mg where
  f_is_tuple_of := let ⟨fd, F⟩ := c.def_ 0 (d := d_is_tuple_of) rfl; ⟨_, fd, F, He.glo_ok KX G (c.fact 0 (f := .glo "is_tuple_of") rfl)⟩
  f_is_name := let ⟨fd, F⟩ := c.def_ 1 (d := d_is_name) rfl; ⟨_, fd, F, He.glo_ok KX G (c.fact 1 (f := .glo "is_name") rfl)⟩
  f_set_of := let ⟨fd, F⟩ := c.def_ 2 (d := d_set_of) rfl; ⟨_, fd, F, He.glo_ok KX G (c.fact 2 (f := .glo "set_of") rfl)⟩
  f_are_groups := let ⟨fd, F⟩ := c.def_ 3 (d := d_are_groups) rfl; ⟨_, fd, F, He.glo_ok KX G (c.fact 3 (f := .glo "are_groups") rfl)⟩
  f_lot_of := let ⟨fd, F⟩ := c.def_ 4 (d := d_lot_of) rfl; ⟨_, fd, F, He.glo_ok KX G (c.fact 4 (f := .glo "lot_of") rfl)⟩
  f_group_names := let ⟨fd, F⟩ := c.def_ 5 (d := d_group_names) rfl; ⟨_, fd, F, He.glo_ok KX G (c.fact 5 (f := .glo "group_names") rfl)⟩
  f_kept_of := let ⟨fd, F⟩ := c.def_ 6 (d := d_kept_of) rfl; ⟨_, fd, F, He.glo_ok KX G (c.fact 6 (f := .glo "kept_of") rfl)⟩
  f_wrong_in := let ⟨fd, F⟩ := c.def_ 7 (d := d_wrong_in) rfl; ⟨_, fd, F, He.glo_ok KX G (c.fact 7 (f := .glo "wrong_in") rfl)⟩
  f_choose_groups := let ⟨fd, F⟩ := c.def_ 8 (d := d_choose_groups) rfl; ⟨_, fd, F, He.glo_ok KX G (c.fact 8 (f := .glo "choose_groups") rfl)⟩
  f_signs_dropped := let ⟨fd, F⟩ := c.def_ 9 (d := d_signs_dropped) rfl; ⟨_, fd, F, He.glo_ok KX G (c.fact 9 (f := .glo "signs_dropped") rfl)⟩
  f_unlike_twins := let ⟨fd, F⟩ := c.def_ 10 (d := d_unlike_twins) rfl; ⟨_, fd, F, He.glo_ok KX G (c.fact 10 (f := .glo "unlike_twins") rfl)⟩
  f_groups_hang := let ⟨fd, F⟩ := c.def_ 11 (d := d_groups_hang) rfl; ⟨_, fd, F, He.glo_ok KX G (c.fact 11 (f := .glo "groups_hang") rfl)⟩
  f_seen_by := let ⟨fd, F⟩ := c.def_ 12 (d := d_seen_by) rfl; ⟨_, fd, F, He.glo_ok KX G (c.fact 12 (f := .glo "seen_by") rfl)⟩
  f_misled := let ⟨fd, F⟩ := c.def_ 13 (d := d_misled) rfl; ⟨_, fd, F, He.glo_ok KX G (c.fact 13 (f := .glo "misled") rfl)⟩
  f_fewest_rebuilt := let ⟨fd, F⟩ := c.def_ 14 (d := d_fewest_rebuilt) rfl; ⟨_, fd, F, He.glo_ok KX G (c.fact 14 (f := .glo "fewest_rebuilt") rfl)⟩
  f_strictest := let ⟨fd, F⟩ := c.def_ 15 (d := d_strictest) rfl; ⟨_, fd, F, He.glo_ok KX G (c.fact 15 (f := .glo "strictest") rfl)⟩
  f_brought_by := let ⟨fd, F⟩ := c.def_ 16 (d := d_brought_by) rfl; ⟨_, fd, F, He.glo_ok KX G (c.fact 16 (f := .glo "brought_by") rfl)⟩
  f_kept_by_objects := let ⟨fd, F⟩ := c.def_ 17 (d := d_kept_by_objects) rfl; ⟨_, fd, F, He.glo_ok KX G (c.fact 17 (f := .glo "kept_by_objects") rfl)⟩
  f__law_draws := let ⟨fd, F⟩ := c.def_ 18 (d := d__law_draws) rfl; ⟨_, fd, F, He.glo_ok KX G (c.fact 18 (f := .glo "_law_draws") rfl)⟩
  f__law_next := let ⟨fd, F⟩ := c.def_ 19 (d := d__law_next) rfl; ⟨_, fd, F, He.glo_ok KX G (c.fact 19 (f := .glo "_law_next") rfl)⟩
  f__law_pick := let ⟨fd, F⟩ := c.def_ 20 (d := d__law_pick) rfl; ⟨_, fd, F, He.glo_ok KX G (c.fact 20 (f := .glo "_law_pick") rfl)⟩
  f__law_alike := let ⟨fd, F⟩ := c.def_ 21 (d := d__law_alike) rfl; ⟨_, fd, F, He.glo_ok KX G (c.fact 21 (f := .glo "_law_alike") rfl)⟩
  f__law_kept := let ⟨fd, F⟩ := c.def_ 22 (d := d__law_kept) rfl; ⟨_, fd, F, He.glo_ok KX G (c.fact 22 (f := .glo "_law_kept") rfl)⟩
  f__law_wrong := let ⟨fd, F⟩ := c.def_ 23 (d := d__law_wrong) rfl; ⟨_, fd, F, He.glo_ok KX G (c.fact 23 (f := .glo "_law_wrong") rfl)⟩
  f__law_twins := let ⟨fd, F⟩ := c.def_ 24 (d := d__law_twins) rfl; ⟨_, fd, F, He.glo_ok KX G (c.fact 24 (f := .glo "_law_twins") rfl)⟩
  f_law := let ⟨fd, F⟩ := c.def_ 25 (d := d_law) rfl; ⟨_, fd, F, He.glo_ok KX G (c.fact 25 (f := .glo "law") rfl)⟩
  free := fun x hx => by
    simp only [bn, List.mem_cons, List.not_mem_nil, or_false] at hx
    rcases hx with rfl | rfl | rfl | rfl | rfl | rfl | rfl | rfl | rfl | rfl | rfl | rfl | rfl | rfl | rfl | rfl
    · exact He.free_ok KX G (c.fact 26 (f := .free "abs") rfl)
    · exact He.free_ok KX G (c.fact 27 (f := .free "all") rfl)
    · exact He.free_ok KX G (c.fact 28 (f := .free "any") rfl)
    · exact He.free_ok KX G (c.fact 29 (f := .free "bool") rfl)
    · exact He.free_ok KX G (c.fact 30 (f := .free "dict") rfl)
    · exact He.free_ok KX G (c.fact 31 (f := .free "int") rfl)
    · exact He.free_ok KX G (c.fact 32 (f := .free "isinstance") rfl)
    · exact He.free_ok KX G (c.fact 33 (f := .free "len") rfl)
    · exact He.free_ok KX G (c.fact 34 (f := .free "list") rfl)
    · exact He.free_ok KX G (c.fact 35 (f := .free "min") rfl)
    · exact He.free_ok KX G (c.fact 36 (f := .free "range") rfl)
    · exact He.free_ok KX G (c.fact 37 (f := .free "set") rfl)
    · exact He.free_ok KX G (c.fact 38 (f := .free "sorted") rfl)
    · exact He.free_ok KX G (c.fact 39 (f := .free "str") rfl)
    · exact He.free_ok KX G (c.fact 40 (f := .free "sum") rfl)
    · exact He.free_ok KX G (c.fact 41 (f := .free "tuple") rfl)
  gstr := fun g x z e1 e2 => by
    match g, e1, e2 with
    | 0, e1, e2 => cases e1; cases e2; exact He.str_ok KX G (c.fact 42 (f := .str "LETTERS" "abcdefghijklmnopqrstuvwxyz") rfl)
    | 1, e1, e2 => cases e1; cases e2; exact He.str_ok KX G (c.fact 43 (f := .str "DIGITS" "0123456789") rfl)
    | 2, e1, e2 => cases e2
    | _ + 3, e1, e2 => simp [gls] at e2
  gtup := fun g x ds e1 e2 => by
    match g, e1, e2 with
    | 0, e1, e2 => cases e2
    | 1, e1, e2 => cases e2
    | 2, e1, e2 => cases e1; cases e2; exact ⟨_, _, He.glo_ok KX G (c.fact 44 (f := .glo "WAYS") rfl), fun H => He.tupB_ok (List.all_eq_true.mp ct _ (List.mem_of_getElem? (i := 0) rfl)) H, fun H P => .cons (.str _) (.cons (.str _) (.cons (.str _) (.cons (.str _) (.cons (.str _) (.nil)))))⟩
    | _ + 3, e1, e2 => simp [gls] at e2
section
variable {P : Program} {w : World} {K : PySem.W.Frag} {mg : Str → Option Value} {base : Heap}
theorem sc_is_tuple_of : FnScope N_is_tuple_of ["thing", "many"] (defScope (top 3)) := ⟨rfl, rfl, rfl, by decide +kernel, rfl, by decide +kernel, by decide +kernel⟩
theorem sc_is_name : FnScope N_is_name ["thing"] (defScope (top 4)) := ⟨rfl, rfl, rfl, by decide +kernel, rfl, by decide +kernel, by decide +kernel⟩
theorem sc_set_of : FnScope N_set_of ["things"] (defScope (top 5)) := ⟨rfl, rfl, rfl, by decide +kernel, rfl, by decide +kernel, by decide +kernel⟩
theorem sc_are_groups : FnScope N_are_groups ["thing"] (defScope (top 8)) := ⟨rfl, rfl, rfl, by decide +kernel, rfl, by decide +kernel, by decide +kernel⟩
theorem sc_lot_of : FnScope N_lot_of ["groups", "name"] (defScope (top 9)) := ⟨rfl, rfl, rfl, by decide +kernel, rfl, by decide +kernel, by decide +kernel⟩
theorem sc_group_names : FnScope N_group_names ["groups"] (defScope (top 10)) := ⟨rfl, rfl, rfl, by decide +kernel, rfl, by decide +kernel, by decide +kernel⟩
theorem sc_kept_of : FnScope N_kept_of ["groups", "name"] (defScope (top 11)) := ⟨rfl, rfl, rfl, by decide +kernel, rfl, by decide +kernel, by decide +kernel⟩
theorem sc_wrong_in : FnScope N_wrong_in ["groups", "name"] (defScope (top 12)) := ⟨rfl, rfl, rfl, by decide +kernel, rfl, by decide +kernel, by decide +kernel⟩
theorem sc_choose_groups : FnScope N_choose_groups ["groups"] (defScope (top 13)) := ⟨rfl, rfl, rfl, by decide +kernel, rfl, by decide +kernel, by decide +kernel⟩
theorem sc_signs_dropped : FnScope N_signs_dropped ["groups"] (defScope (top 14)) := ⟨rfl, rfl, rfl, by decide +kernel, rfl, by decide +kernel, by decide +kernel⟩
theorem sc_unlike_twins : FnScope N_unlike_twins ["groups"] (defScope (top 15)) := ⟨rfl, rfl, rfl, by decide +kernel, rfl, by decide +kernel, by decide +kernel⟩
theorem sc_groups_hang : FnScope N_groups_hang ["groups"] (defScope (top 16)) := ⟨rfl, rfl, rfl, by decide +kernel, rfl, by decide +kernel, by decide +kernel⟩
theorem sc_seen_by : FnScope N_seen_by ["groups", "own"] (defScope (top 17)) := ⟨rfl, rfl, rfl, by decide +kernel, rfl, by decide +kernel, by decide +kernel⟩
theorem sc_misled : FnScope N_misled ["groups"] (defScope (top 18)) := ⟨rfl, rfl, rfl, by decide +kernel, rfl, by decide +kernel, by decide +kernel⟩
theorem sc_fewest_rebuilt : FnScope N_fewest_rebuilt ["groups"] (defScope (top 19)) := ⟨rfl, rfl, rfl, by decide +kernel, rfl, by decide +kernel, by decide +kernel⟩
theorem sc_strictest : FnScope N_strictest ["groups", "name"] (defScope (top 20)) := ⟨rfl, rfl, rfl, by decide +kernel, rfl, by decide +kernel, by decide +kernel⟩
theorem sc_brought_by : FnScope N_brought_by ["groups"] (defScope (top 21)) := ⟨rfl, rfl, rfl, by decide +kernel, rfl, by decide +kernel, by decide +kernel⟩
theorem sc_kept_by_objects : FnScope N_kept_by_objects ["groups"] (defScope (top 22)) := ⟨rfl, rfl, rfl, by decide +kernel, rfl, by decide +kernel, by decide +kernel⟩
theorem sc__law_draws : FnScope N__law_draws ["script", "many"] (defScope (top 24)) := ⟨rfl, rfl, rfl, by decide +kernel, rfl, by decide +kernel, by decide +kernel⟩
theorem sc__law_next : FnScope N__law_next ["w", "many"] (defScope (top 25)) := ⟨rfl, rfl, rfl, by decide +kernel, rfl, by decide +kernel, by decide +kernel⟩
theorem sc__law_pick : FnScope N__law_pick ["w", "rows"] (defScope (top 26)) := ⟨rfl, rfl, rfl, by decide +kernel, rfl, by decide +kernel, by decide +kernel⟩
theorem sc__law_alike : FnScope N__law_alike ["given", "due"] (defScope (top 27)) := ⟨rfl, rfl, rfl, by decide +kernel, rfl, by decide +kernel, by decide +kernel⟩
theorem sc__law_kept : FnScope N__law_kept ["groups", "name"] (defScope (top 28)) := ⟨rfl, rfl, rfl, by decide +kernel, rfl, by decide +kernel, by decide +kernel⟩
theorem sc__law_wrong : FnScope N__law_wrong ["groups", "name"] (defScope (top 29)) := ⟨rfl, rfl, rfl, by decide +kernel, rfl, by decide +kernel, by decide +kernel⟩
theorem sc__law_twins : FnScope N__law_twins ["groups"] (defScope (top 30)) := ⟨rfl, rfl, rfl, by decide +kernel, rfl, by decide +kernel, by decide +kernel⟩
theorem sc_law : FnScope N_law ["script"] (defScope (top 31)) := ⟨rfl, rfl, rfl, by decide +kernel, rfl, by decide +kernel, by decide +kernel⟩
theorem lev (F : Facts K mg) : ∀ (n f : Nat) (x : Str) (bs : List Bool), T[f]? = some (x, bs) → Cal P w K mg base n x (spF K tbl gls n f bs) := by
  intro n
  induction n with
  | zero =>
    intro f x bs h
    match f, h with
    | 0, h => cases h; obtain ⟨fa, fd, FD, hm⟩ := F.f_is_tuple_of; exact cal_0 (ps := ["thing", "many"]) FD.kp hm (FD.bindsN fun _ _ _ _ _ _ us hl => match us, hl with | [_, _], _ => rfl)
    | 1, h => cases h; obtain ⟨fa, fd, FD, hm⟩ := F.f_is_name; exact cal_0 (ps := ["thing"]) FD.kp hm (FD.bindsN fun _ _ _ _ _ _ us hl => match us, hl with | [_], _ => rfl)
    | 2, h => cases h; obtain ⟨fa, fd, FD, hm⟩ := F.f_set_of; exact cal_0 (ps := ["things"]) FD.kp hm (FD.bindsN fun _ _ _ _ _ _ us hl => match us, hl with | [_], _ => rfl)
    | 3, h => cases h; obtain ⟨fa, fd, FD, hm⟩ := F.f_are_groups; exact cal_0 (ps := ["thing"]) FD.kp hm (FD.bindsN fun _ _ _ _ _ _ us hl => match us, hl with | [_], _ => rfl)
    | 4, h => cases h; obtain ⟨fa, fd, FD, hm⟩ := F.f_lot_of; exact cal_0 (ps := ["groups", "name"]) FD.kp hm (FD.bindsN fun _ _ _ _ _ _ us hl => match us, hl with | [_, _], _ => rfl)
    | 5, h => cases h; obtain ⟨fa, fd, FD, hm⟩ := F.f_group_names; exact cal_0 (ps := ["groups"]) FD.kp hm (FD.bindsN fun _ _ _ _ _ _ us hl => match us, hl with | [_], _ => rfl)
    | 6, h => cases h; obtain ⟨fa, fd, FD, hm⟩ := F.f_kept_of; exact cal_0 (ps := ["groups", "name"]) FD.kp hm (FD.bindsN fun _ _ _ _ _ _ us hl => match us, hl with | [_, _], _ => rfl)
    | 7, h => cases h; obtain ⟨fa, fd, FD, hm⟩ := F.f_wrong_in; exact cal_0 (ps := ["groups", "name"]) FD.kp hm (FD.bindsN fun _ _ _ _ _ _ us hl => match us, hl with | [_, _], _ => rfl)
    | 8, h => cases h; obtain ⟨fa, fd, FD, hm⟩ := F.f_choose_groups; exact cal_0 (ps := ["groups"]) FD.kp hm (FD.bindsN fun _ _ _ _ _ _ us hl => match us, hl with | [_], _ => rfl)
    | 9, h => cases h; obtain ⟨fa, fd, FD, hm⟩ := F.f_signs_dropped; exact cal_0 (ps := ["groups"]) FD.kp hm (FD.bindsN fun _ _ _ _ _ _ us hl => match us, hl with | [_], _ => rfl)
    | 10, h => cases h; obtain ⟨fa, fd, FD, hm⟩ := F.f_unlike_twins; exact cal_0 (ps := ["groups"]) FD.kp hm (FD.bindsN fun _ _ _ _ _ _ us hl => match us, hl with | [_], _ => rfl)
    | 11, h => cases h; obtain ⟨fa, fd, FD, hm⟩ := F.f_groups_hang; exact cal_0 (ps := ["groups"]) FD.kp hm (FD.bindsN fun _ _ _ _ _ _ us hl => match us, hl with | [_], _ => rfl)
    | 12, h => cases h; obtain ⟨fa, fd, FD, hm⟩ := F.f_seen_by; exact cal_0 (ps := ["groups", "own"]) FD.kp hm (FD.bindsN fun _ _ _ _ _ _ us hl => match us, hl with | [_, _], _ => rfl)
    | 13, h => cases h; obtain ⟨fa, fd, FD, hm⟩ := F.f_misled; exact cal_0 (ps := ["groups"]) FD.kp hm (FD.bindsN fun _ _ _ _ _ _ us hl => match us, hl with | [_], _ => rfl)
    | 14, h => cases h; obtain ⟨fa, fd, FD, hm⟩ := F.f_fewest_rebuilt; exact cal_0 (ps := ["groups"]) FD.kp hm (FD.bindsN fun _ _ _ _ _ _ us hl => match us, hl with | [_], _ => rfl)
    | 15, h => cases h; obtain ⟨fa, fd, FD, hm⟩ := F.f_strictest; exact cal_0 (ps := ["groups", "name"]) FD.kp hm (FD.bindsN fun _ _ _ _ _ _ us hl => match us, hl with | [_, _], _ => rfl)
    | 16, h => cases h; obtain ⟨fa, fd, FD, hm⟩ := F.f_brought_by; exact cal_0 (ps := ["groups"]) FD.kp hm (FD.bindsN fun _ _ _ _ _ _ us hl => match us, hl with | [_], _ => rfl)
    | 17, h => cases h; obtain ⟨fa, fd, FD, hm⟩ := F.f_kept_by_objects; exact cal_0 (ps := ["groups"]) FD.kp hm (FD.bindsN fun _ _ _ _ _ _ us hl => match us, hl with | [_], _ => rfl)
    | 18, h => cases h; obtain ⟨fa, fd, FD, hm⟩ := F.f_is_tuple_of; exact cal_0 (ps := ["thing", "many"]) FD.kp hm (FD.bindsN fun _ _ _ _ _ _ us hl => match us, hl with | [_, _], _ => rfl)
    | 19, h => cases h; obtain ⟨fa, fd, FD, hm⟩ := F.f__law_next; exact cal_0 (ps := ["w", "many"]) FD.kp hm (FD.bindsN fun _ _ _ _ _ _ us hl => match us, hl with | [_, _], _ => rfl)
    | 20, h => cases h; obtain ⟨fa, fd, FD, hm⟩ := F.f__law_pick; exact cal_0 (ps := ["w", "rows"]) FD.kp hm (FD.bindsN fun _ _ _ _ _ _ us hl => match us, hl with | [_, _], _ => rfl)
    | 21, h => cases h; obtain ⟨fa, fd, FD, hm⟩ := F.f__law_alike; exact cal_0 (ps := ["given", "due"]) FD.kp hm (FD.bindsN fun _ _ _ _ _ _ us hl => match us, hl with | [_, _], _ => rfl)
    | 22, h => cases h; obtain ⟨fa, fd, FD, hm⟩ := F.f__law_kept; exact cal_0 (ps := ["groups", "name"]) FD.kp hm (FD.bindsN fun _ _ _ _ _ _ us hl => match us, hl with | [_, _], _ => rfl)
    | 23, h => cases h; obtain ⟨fa, fd, FD, hm⟩ := F.f__law_wrong; exact cal_0 (ps := ["groups", "name"]) FD.kp hm (FD.bindsN fun _ _ _ _ _ _ us hl => match us, hl with | [_, _], _ => rfl)
    | 24, h => cases h; obtain ⟨fa, fd, FD, hm⟩ := F.f__law_twins; exact cal_0 (ps := ["groups"]) FD.kp hm (FD.bindsN fun _ _ _ _ _ _ us hl => match us, hl with | [_], _ => rfl)
    | _ + 25, h => simp [T] at h
  | succ n ih =>
    have ctx : ∀ {N : List Str} {qual : Str} {scope : Scope} {f : Addr} {cdv : Value} {A : Around} {outer : List Env} {s : Shared} {H : Hp} {E : XK}, Room n (A.deeper (envOfC qual scope s.heap.objs.size f cdv)) → Ctx tbl gls gn T bn n ((cxOf L2.CX0 P w K mg base N qual scope f cdv A outer s H E).nox) := fun hr => ⟨rfl, hr, F.free, ih, F.gstr, F.gtup⟩
    intro f x bs h
    match f, h with
    | 0, h => cases h; obtain ⟨fa, fd, FD, hm⟩ := F.f_is_tuple_of; exact cal_ok (ps := ["thing", "many"]) (N := N_is_tuple_of) FD hm (FD.bindsN fun _ _ _ _ _ _ us hl => match us, hl with | [_, _], _ => rfl) sc_is_tuple_of rfl rfl rfl rfl rfl (fun qual cdv A outer s H E hr => w_is_tuple_of (ctx hr) PassesOwn.never rfl rfl (fun _ => rfl))
    | 1, h => cases h; obtain ⟨fa, fd, FD, hm⟩ := F.f_is_name; exact cal_ok (ps := ["thing"]) (N := N_is_name) FD hm (FD.bindsN fun _ _ _ _ _ _ us hl => match us, hl with | [_], _ => rfl) sc_is_name rfl rfl rfl rfl rfl (fun qual cdv A outer s H E hr => w_is_name (ctx hr) PassesOwn.never rfl rfl (fun _ => rfl))
    | 2, h => cases h; obtain ⟨fa, fd, FD, hm⟩ := F.f_set_of; exact cal_ok (ps := ["things"]) (N := N_set_of) FD hm (FD.bindsN fun _ _ _ _ _ _ us hl => match us, hl with | [_], _ => rfl) sc_set_of rfl rfl rfl rfl rfl (fun qual cdv A outer s H E hr => w_set_of (ctx hr) PassesOwn.never rfl rfl (fun _ => rfl))
    | 3, h => cases h; obtain ⟨fa, fd, FD, hm⟩ := F.f_are_groups; exact cal_ok (ps := ["thing"]) (N := N_are_groups) FD hm (FD.bindsN fun _ _ _ _ _ _ us hl => match us, hl with | [_], _ => rfl) sc_are_groups rfl rfl rfl rfl rfl (fun qual cdv A outer s H E hr => w_are_groups (ctx hr) PassesOwn.never rfl rfl (fun _ => rfl))
    | 4, h => cases h; obtain ⟨fa, fd, FD, hm⟩ := F.f_lot_of; exact cal_ok (ps := ["groups", "name"]) (N := N_lot_of) FD hm (FD.bindsN fun _ _ _ _ _ _ us hl => match us, hl with | [_, _], _ => rfl) sc_lot_of rfl rfl rfl rfl rfl (fun qual cdv A outer s H E hr => w_lot_of (ctx hr) PassesOwn.never rfl rfl (fun _ => rfl))
    | 5, h => cases h; obtain ⟨fa, fd, FD, hm⟩ := F.f_group_names; exact cal_ok (ps := ["groups"]) (N := N_group_names) FD hm (FD.bindsN fun _ _ _ _ _ _ us hl => match us, hl with | [_], _ => rfl) sc_group_names rfl rfl rfl rfl rfl (fun qual cdv A outer s H E hr => w_group_names (ctx hr) PassesOwn.never rfl rfl (fun _ => rfl))
    | 6, h => cases h; obtain ⟨fa, fd, FD, hm⟩ := F.f_kept_of; exact cal_ok (ps := ["groups", "name"]) (N := N_kept_of) FD hm (FD.bindsN fun _ _ _ _ _ _ us hl => match us, hl with | [_, _], _ => rfl) sc_kept_of rfl rfl rfl rfl rfl (fun qual cdv A outer s H E hr => w_kept_of (ctx hr) PassesOwn.never rfl rfl (fun _ => rfl))
    | 7, h => cases h; obtain ⟨fa, fd, FD, hm⟩ := F.f_wrong_in; exact cal_ok (ps := ["groups", "name"]) (N := N_wrong_in) FD hm (FD.bindsN fun _ _ _ _ _ _ us hl => match us, hl with | [_, _], _ => rfl) sc_wrong_in rfl rfl rfl rfl rfl (fun qual cdv A outer s H E hr => w_wrong_in (ctx hr) PassesOwn.never rfl rfl (fun _ => rfl))
    | 8, h => cases h; obtain ⟨fa, fd, FD, hm⟩ := F.f_choose_groups; exact cal_ok (ps := ["groups"]) (N := N_choose_groups) FD hm (FD.bindsN fun _ _ _ _ _ _ us hl => match us, hl with | [_], _ => rfl) sc_choose_groups rfl rfl rfl rfl rfl (fun qual cdv A outer s H E hr => w_choose_groups (ctx hr) PassesOwn.never rfl rfl (fun _ => rfl))
    | 9, h => cases h; obtain ⟨fa, fd, FD, hm⟩ := F.f_signs_dropped; exact cal_ok (ps := ["groups"]) (N := N_signs_dropped) FD hm (FD.bindsN fun _ _ _ _ _ _ us hl => match us, hl with | [_], _ => rfl) sc_signs_dropped rfl rfl rfl rfl rfl (fun qual cdv A outer s H E hr => w_signs_dropped (ctx hr) PassesOwn.never rfl rfl (fun _ => rfl))
    | 10, h => cases h; obtain ⟨fa, fd, FD, hm⟩ := F.f_unlike_twins; exact cal_ok (ps := ["groups"]) (N := N_unlike_twins) FD hm (FD.bindsN fun _ _ _ _ _ _ us hl => match us, hl with | [_], _ => rfl) sc_unlike_twins rfl rfl rfl rfl rfl (fun qual cdv A outer s H E hr => w_unlike_twins (ctx hr) PassesOwn.never rfl rfl (fun _ => rfl))
    | 11, h => cases h; obtain ⟨fa, fd, FD, hm⟩ := F.f_groups_hang; exact cal_ok (ps := ["groups"]) (N := N_groups_hang) FD hm (FD.bindsN fun _ _ _ _ _ _ us hl => match us, hl with | [_], _ => rfl) sc_groups_hang rfl rfl rfl rfl rfl (fun qual cdv A outer s H E hr => w_groups_hang (ctx hr) PassesOwn.never rfl rfl (fun _ => rfl))
    | 12, h => cases h; obtain ⟨fa, fd, FD, hm⟩ := F.f_seen_by; exact cal_ok (ps := ["groups", "own"]) (N := N_seen_by) FD hm (FD.bindsN fun _ _ _ _ _ _ us hl => match us, hl with | [_, _], _ => rfl) sc_seen_by rfl rfl rfl rfl rfl (fun qual cdv A outer s H E hr => w_seen_by (ctx hr) PassesOwn.never rfl rfl (fun _ => rfl))
    | 13, h => cases h; obtain ⟨fa, fd, FD, hm⟩ := F.f_misled; exact cal_ok (ps := ["groups"]) (N := N_misled) FD hm (FD.bindsN fun _ _ _ _ _ _ us hl => match us, hl with | [_], _ => rfl) sc_misled rfl rfl rfl rfl rfl (fun qual cdv A outer s H E hr => w_misled (ctx hr) PassesOwn.never rfl rfl (fun _ => rfl))
    | 14, h => cases h; obtain ⟨fa, fd, FD, hm⟩ := F.f_fewest_rebuilt; exact cal_ok (ps := ["groups"]) (N := N_fewest_rebuilt) FD hm (FD.bindsN fun _ _ _ _ _ _ us hl => match us, hl with | [_], _ => rfl) sc_fewest_rebuilt rfl rfl rfl rfl rfl (fun qual cdv A outer s H E hr => w_fewest_rebuilt (ctx hr) PassesOwn.never rfl rfl (fun _ => rfl))
    | 15, h => cases h; obtain ⟨fa, fd, FD, hm⟩ := F.f_strictest; exact cal_ok (ps := ["groups", "name"]) (N := N_strictest) FD hm (FD.bindsN fun _ _ _ _ _ _ us hl => match us, hl with | [_, _], _ => rfl) sc_strictest rfl rfl rfl rfl rfl (fun qual cdv A outer s H E hr => w_strictest (ctx hr) PassesOwn.never rfl rfl (fun _ => rfl))
    | 16, h => cases h; obtain ⟨fa, fd, FD, hm⟩ := F.f_brought_by; exact cal_ok (ps := ["groups"]) (N := N_brought_by) FD hm (FD.bindsN fun _ _ _ _ _ _ us hl => match us, hl with | [_], _ => rfl) sc_brought_by rfl rfl rfl rfl rfl (fun qual cdv A outer s H E hr => w_brought_by (ctx hr) PassesOwn.never rfl rfl (fun _ => rfl))
    | 17, h => cases h; obtain ⟨fa, fd, FD, hm⟩ := F.f_kept_by_objects; exact cal_ok (ps := ["groups"]) (N := N_kept_by_objects) FD hm (FD.bindsN fun _ _ _ _ _ _ us hl => match us, hl with | [_], _ => rfl) sc_kept_by_objects rfl rfl rfl rfl rfl (fun qual cdv A outer s H E hr => w_kept_by_objects (ctx hr) PassesOwn.never rfl rfl (fun _ => rfl))
    | 18, h => cases h; obtain ⟨fa, fd, FD, hm⟩ := F.f_is_tuple_of; exact cal_ok (ps := ["thing", "many"]) (N := N_is_tuple_of) FD hm (FD.bindsN fun _ _ _ _ _ _ us hl => match us, hl with | [_, _], _ => rfl) sc_is_tuple_of rfl rfl rfl rfl rfl (fun qual cdv A outer s H E hr => w_is_tuple_of (ctx hr) PassesOwn.never rfl rfl (fun _ => rfl))
    | 19, h => cases h; obtain ⟨fa, fd, FD, hm⟩ := F.f__law_next; exact cal_ok (ps := ["w", "many"]) (N := N__law_next) FD hm (FD.bindsN fun _ _ _ _ _ _ us hl => match us, hl with | [_, _], _ => rfl) sc__law_next rfl rfl rfl rfl rfl (fun qual cdv A outer s H E hr => w__law_next (ctx hr) PassesOwn.never rfl rfl (fun _ => rfl))
    | 20, h => cases h; obtain ⟨fa, fd, FD, hm⟩ := F.f__law_pick; exact cal_ok (ps := ["w", "rows"]) (N := N__law_pick) FD hm (FD.bindsN fun _ _ _ _ _ _ us hl => match us, hl with | [_, _], _ => rfl) sc__law_pick rfl rfl rfl rfl rfl (fun qual cdv A outer s H E hr => w__law_pick (ctx hr) PassesOwn.never rfl rfl (fun _ => rfl))
    | 21, h => cases h; obtain ⟨fa, fd, FD, hm⟩ := F.f__law_alike; exact cal_ok (ps := ["given", "due"]) (N := N__law_alike) FD hm (FD.bindsN fun _ _ _ _ _ _ us hl => match us, hl with | [_, _], _ => rfl) sc__law_alike rfl rfl rfl rfl rfl (fun qual cdv A outer s H E hr => w__law_alike (ctx hr) PassesOwn.never rfl rfl (fun _ => rfl))
    | 22, h => cases h; obtain ⟨fa, fd, FD, hm⟩ := F.f__law_kept; exact cal_ok (ps := ["groups", "name"]) (N := N__law_kept) FD hm (FD.bindsN fun _ _ _ _ _ _ us hl => match us, hl with | [_, _], _ => rfl) sc__law_kept rfl rfl rfl rfl rfl (fun qual cdv A outer s H E hr => w__law_kept (ctx hr) PassesOwn.never rfl rfl (fun _ => rfl))
    | 23, h => cases h; obtain ⟨fa, fd, FD, hm⟩ := F.f__law_wrong; exact cal_ok (ps := ["groups", "name"]) (N := N__law_wrong) FD hm (FD.bindsN fun _ _ _ _ _ _ us hl => match us, hl with | [_, _], _ => rfl) sc__law_wrong rfl rfl rfl rfl rfl (fun qual cdv A outer s H E hr => w__law_wrong (ctx hr) PassesOwn.never rfl rfl (fun _ => rfl))
    | 24, h => cases h; obtain ⟨fa, fd, FD, hm⟩ := F.f__law_twins; exact cal_ok (ps := ["groups"]) (N := N__law_twins) FD hm (FD.bindsN fun _ _ _ _ _ _ us hl => match us, hl with | [_], _ => rfl) sc__law_twins rfl rfl rfl rfl rfl (fun qual cdv A outer s H E hr => w__law_twins (ctx hr) PassesOwn.never rfl rfl (fun _ => rfl))
    | _ + 25, h => simp [T] at h
theorem dr_ok (F : Facts K mg) (n : Nat) : Cal P w K mg base (n + 1) "_law_draws" (spDr K) := by
  obtain ⟨fa, fd, FD, hm⟩ := F.f__law_draws
  refine ⟨fa, fd, ["script", "many"], FD.ok sc__law_draws (fun vs H Q E h => ?_) (fun cdv A outer s H vs Q E hr h => ⟨_, PSs.nox (w__law_draws (n := n) ⟨rfl, hr, F.free, lev F n, F.gstr, F.gtup⟩ PassesOwn.never rfl rfl (fun _ => rfl)), draws_run rfl h⟩), hm, FD.kp, FD.bindsN fun _ _ _ _ _ _ us hl => match us, hl with | [_, _], _ => rfl⟩
  obtain ⟨a, ns, many, rfl, _⟩ := h
  rfl
def cs : List (Str × Int) := [("at", 0)]
/-- what is left to prove -/
def Plain (n : Nat) : Prop := ∀ ms : List Int, ms.length = 400 → (∀ z, z ∈ ms → 0 ≤ z ∧ z < 997) → ∃ w ρ', dictOf (wD ms "draws" cs) = some w ∧ runs (phi tbl gls n) gls [] b_law (ρ0 24 w) = some (.rt (.bool true) ρ')
theorem law_ok (F : Facts K mg) {n : Nat} (plain : Plain (n + 1)) {fa : Addr} {fd : FuncData} (FD : FunD K "law" "law" (defArgs (top 31)) (defBody (top 31)) (defScope (top 31)) [] [] fa fd) : FnOk P w K mg base L2.CX0 (n + 2) fa fd ["script"] (spLaw K) := by
  refine FD.ok sc_law (fun vs H Q E h => ?_) (fun cdv A outer s H vs Q E hr h => ?_)
  · obtain ⟨a, ns, rfl, _⟩ := h
    rfl
  · have C : Ctx tbl gls gn T bn (n + 1) ((cxOf L2.CX0 P w K mg base N_law "law" (defScope (top 31)) fa cdv A outer s H E).nox) := ⟨rfl, hr, F.free, lev F (n + 1), F.gstr, F.gtup⟩
    have h2 := w_law C PassesOwn.never rfl rfl (fun _ => rfl)
    have nd : N_law.Nodup := by decide +kernel
    have l1 : (defScope (top 31)).names.lookup (Str.ofString "w") = some .cell := look_of rfl (by kernel_rfl)
    have h1 : PS ((cxOf L2.CX0 P w K mg base N_law "law" (defScope (top 31)) fa cdv A outer s H E).nox) ((defBody (top 31)).head!) (tAsg (tDisp (tW K 400 "draws" cs)) (gName 1)) :=
      ps_set (x := "w") nd rfl (.inr l1) (pe_disp (pps_cons pe_str (pe_cal (dr_ok F n) hr (look_of rfl (by kernel_rfl)) (pa_cons (pe_var (i := 0) rfl (vis_of rfl (by kernel_rfl))) (pa_cons pe_int pa_nil))) (pps_cons pe_str pe_int pps_nil)) rfl rfl (by simp) (by decide)) rfl (.inl rfl)
    obtain ⟨t, ht, hq⟩ := law_body (m := 24) (by decide) (by decide) rfl h1 h2 plain
    exact ⟨t, PSs.nox ht, hq vs H Q E h⟩
end
theorem ends {P : Program} {w : World} {K : PySem.W.Frag} {h : Heap} {mg : Str → Option Value} {f : Addr} (plain : Plain 199) (KX : K.In h) (G : h.Ns mainGlobals mg) (hfa : mg ("law" : Str) = some (.ref f)) (ct : (tl.all fun t => He.tupB K t.1 t.2) = true) (c : He.SaysD fa fn K) :
    ∃ fd : FuncData, (∀ (s : Shared) (v : Value), BindsTo s fd ⟨[v], []⟩ [("script", v)]) ∧ ∀ base : Heap, K.In base → base.Ns mainGlobals mg → FnOk P w K mg base L2.CX0 200 f fd ["script"] (spLaw K) := by
  have F := facts KX G ct c
  obtain ⟨fd, FD⟩ := c.def_ 25 (d := d_law) rfl
  have e := hfa.symm.trans (He.glo_ok KX G (c.fact 25 (f := .glo "law") rfl))
  cases e
  have b := FunD.bindsA (ps := ["script"]) FD fun _ _ _ _ _ _ us hl => match us, hl with | [_], _ => rfl
  exact ⟨fd, fun s v => b s [v] rfl, fun base _ _ => law_ok (n := 198) F plain FD⟩
end LW

namespace LW
open PySem PySem.Spec PyProof.Rows L2 PP
/-! groups -/
abbrev Grp := Str × Str × Str × Str
def encG (g : Grp) : PyData := .tuple [.str g.1, .str g.2.1, .str g.2.2.1, .str g.2.2.2]
def encGs (gs : List Grp) : PyData := .tuple (gs.map encG)
def encN (xs : List Str) : PyData := .tuple (xs.map .str)
def encI (xs : List Int) : PyData := .tuple (xs.map .int)
def ways5 : List Str := [Str.ofString "any", Str.ofString "samesize", Str.ofString "same", Str.ofString "largest", Str.ofString "none"]
def nms : List Str := [Str.ofString "f", Str.ofString "g", Str.ofString "h", Str.ofString "one", Str.ofString "two", Str.ofString "three"]
def okG (g : Grp) : Prop := g.1 ∈ nms ∧ g.2.1 ∈ ways5 ∧ g.2.2.1.length ≤ 10 ∧ g.2.2.2 ∈ nms
def okGs (gs : List Grp) : Prop := gs.length ≤ 10 ∧ ∀ g, g ∈ gs → okG g
@[simp] theorem imm_G (g : Grp) : immD (encG g) = true := by simp [encG]
@[simp] theorem immAll_G (gs : List Grp) : immAll (gs.map encG) = true := by induction gs <;> simp [*]
@[simp] theorem imm_Gs (gs : List Grp) : immD (encGs gs) = true := by simp [encGs]
@[simp] theorem imm_N (xs : List Str) : immD (encN xs) = true := by simp [encN]
@[simp] theorem imm_I (xs : List Int) : immD (encI xs) = true := by simp [encI]
@[simp] theorem items_Gs (gs : List Grp) : itemsD (encGs gs) = some (gs.map encG) := id rfl
@[simp] theorem items_N (xs : List Str) : itemsD (encN xs) = some (xs.map .str) := id rfl
@[simp] theorem items_I (xs : List Int) : itemsD (encI xs) = some (xs.map .int) := id rfl
theorem len_Gs (gs : List Grp) : v_len [encGs gs] = some (.int gs.length, .sh) := by simp [encGs]
theorem tup_N (xs : List Str) : PyData.tuple (xs.map .str) = encN xs := rfl
theorem tup_I (xs : List Int) : PyData.tuple (xs.map .int) = encI xs := rfl
theorem tup_Gs (gs : List Grp) : PyData.tuple (gs.map encG) = encGs gs := rfl
@[simp] theorem G_0 (g : Grp) : ixV (encG g) (.int 0) = some (.str g.1) := by simp [encG]
@[simp] theorem G_1 (g : Grp) : ixV (encG g) (.int 1) = some (.str g.2.1) := by simp [encG]
@[simp] theorem G_2 (g : Grp) : ixV (encG g) (.int 2) = some (.str g.2.2.1) := by simp [encG]
@[simp] theorem G_3 (g : Grp) : ixV (encG g) (.int 3) = some (.str g.2.2.2) := by simp [encG]
theorem ix_Gs {gs : List Grp} {k : Nat} {g : Grp} (h : gs[k]? = some g) : ixV (encGs gs) (.int (k : Nat)) = some (encG g) := by
  rw [encGs, ixV_t]
  exact atI_nat (by simp [h])
theorem len_S {s : Str} (h : s.length ≤ 10) : v_len [.str s] = some (.int s.length, .sh) := by
  have hz : (10000 : Nat) < sizeLine := by decide
  simp [v_len, lenD, show s.length ≤ sizeLine by omega]
theorem phi_alike : ∀ (h n : Nat) (d : PyData), aOk h d → phi tbl gls (n+h+1) 21 [d, d] = some (.bool true, [])
  | 0, n, d, hd => by
    rw [phi_eq (D := D__law_alike) (ρ := [.fz d, .fz d, .no]) rfl rfl rfl]
    exact alikeR 21 0 d hd fun x h' e => by omega
  | h + 1, n, d, hd => by
    rw [phi_eq (D := D__law_alike) (ρ := [.fz d, .fz d, .no]) rfl rfl rfl]
    exact alikeR 21 (h + 1) d hd fun x h' e hx => by
      have : h' = h := by omega
      subst this
      exact phi_alike h' n x hx
theorem aOk_ints (h : Nat) (xs : List Int) (hl : xs.length ≤ 5000) : aOk (h+1) (encI xs) := by
  rw [encI, aOk_t]
  refine ⟨by simpa using hl, fun x hx => ?_⟩
  obtain ⟨i, _, rfl⟩ := List.mem_map.mp hx
  simp
theorem aOk_strs (h : Nat) (xs : List Str) (hl : xs.length ≤ 5000) : aOk (h+1) (encN xs) := by
  rw [encN, aOk_t]
  refine ⟨by simpa using hl, fun x hx => ?_⟩
  obtain ⟨i, _, rfl⟩ := List.mem_map.mp hx
  simp
def encO (o : Option Int) : PyData := match o with | none => .none | some i => .int i
@[simp] theorem encO_n : encO none = .none := id rfl
@[simp] theorem encO_s (i : Int) : encO (some i) = .int i := id rfl
@[simp] theorem imm_O (o : Option Int) : immD (encO o) = true := by cases o <;> simp
@[simp] theorem aOk_O (h : Nat) (o : Option Int) : aOk h (encO o) := by cases o <;> simp
/-! names -/
def names (gs : List Grp) : List Str := setS (gs.map (·.1))
def objs (gs : List Grp) : List Str := setS (gs.map (·.2.2.2))
theorem names_mem {gs : List Grp} {q : Str} : q ∈ names gs ↔ ∃ g, g ∈ gs ∧ g.1 = q := by
  unfold names; rw [setS_mem, List.mem_map]
theorem objs_mem {gs : List Grp} {q : Str} : q ∈ objs gs ↔ ∃ g, g ∈ gs ∧ g.2.2.2 = q := by
  unfold objs; rw [setS_mem, List.mem_map]
theorem names_len (gs : List Grp) : (names gs).length ≤ gs.length := by
  have := setS_len (gs.map (·.1))
  unfold names
  simpa using this
theorem objs_len (gs : List Grp) : (objs gs).length ≤ gs.length := by
  have := setS_len (gs.map (·.2.2.2))
  unfold objs
  simpa using this
theorem phi_set_of (n : Nat) (xs : List Str) (h : xs.length ≤ 100) : phi tbl gls (n+1) F_set_of [.list (xs.map .str)] = some (encN (setS xs), []) := by
  have hv := v_sortedSet_strs xs (by omega)
  rw [phi_eq (D := D_set_of) (ρ := [.fz (.list (xs.map .str))]) rfl rfl rfl]
  show (runs _ _ _ b_set_of _).bind _ = _
  unfold b_set_of
  simp [als, alsO, alsI, alss, mods, modsO, modsI, modss, D_set_of, hv, tup_N]
theorem phi_group_names (n : Nat) (gs : List Grp) (h : gs.length ≤ 50) : phi tbl gls (n+2) F_group_names [encGs gs] = some (encN (names gs), []) := by
  have hz : (10000 : Nat) < sizeLine := by decide
  have hs := phi_set_of n (gs.map (·.1)) (by simp; omega)
  have hc := compE_f (Φ := phi tbl gls (n+1)) (gl := gls) (vs := [1]) (g := .nm 1) (e := e_group_names_0) (ρ := [.fz (encGs gs), .no]) encG (fun a => .str a.1) gs [] (by simp; omega) (fun a _ => ⟨[.fz (encGs gs), .fz (encG a)], .sh, by simp, by simp [e_group_names_0], by simp⟩)
  rw [List.nil_append] at hc
  have he : gs.map (fun a => PyData.str a.1) = (gs.map (·.1)).map .str := by rw [List.map_map]; rfl
  rw [he] at hc
  rw [phi_eq (D := D_group_names) (ρ := [.fz (encGs gs), .no]) rfl rfl rfl]
  show (runs _ _ _ b_group_names _).bind _ = _
  unfold b_group_names
  simp [als, alsO, alsI, alss, mods, modsO, modsI, modss, D_group_names, hc, hs, names, -List.map_map]
/-! lots -/
def ownZ (gs : List Grp) (nm : Str) : List (Grp × Nat) := gs.zipIdx.filter fun z => decide (z.1.1 = nm)
def lotL (gs : List Grp) (nm : Str) : List Int := (ownZ gs nm).map fun z => (z.2 : Int)
theorem own_ne {gs : List Grp} {nm : Str} : ownZ gs nm ≠ [] ↔ nm ∈ names gs := by
  rw [names_mem]
  constructor
  · intro h
    obtain ⟨z, hz⟩ := List.exists_mem_of_ne_nil _ h
    have := List.mem_filter.mp hz
    exact ⟨z.1, List.mem_of_getElem? (zipIdx_get this.1), by simpa using this.2⟩
  · rintro ⟨a, ha, rfl⟩ h
    obtain ⟨k, hk⟩ := List.mem_iff_getElem?.mp ha
    have : (a, k) ∈ ownZ gs a.1 := List.mem_filter.mpr ⟨by rw [List.mem_zipIdx_iff_getElem?]; exact hk, by simp⟩
    rw [h] at this; cases this
theorem own_len (gs : List Grp) (nm : Str) : (ownZ gs nm).length ≤ gs.length := Nat.le_trans (List.length_filter_le ..) (by simp)
theorem own_get {gs : List Grp} {nm : Str} {z : Grp × Nat} (h : z ∈ ownZ gs nm) : gs[z.2]? = some z.1 ∧ z.1.1 = nm := by
  have := List.mem_filter.mp h
  exact ⟨zipIdx_get this.1, by simpa using this.2⟩
theorem own_map (gs : List Grp) (nm : Str) : (ownZ gs nm).map (·.1) = gs.filter fun g => decide (g.1 = nm) := by
  unfold ownZ
  have : ∀ (l : List Grp) (i : Nat), ((l.zipIdx i).filter fun z => decide (z.1.1 = nm)).map (·.1) = l.filter fun g => decide (g.1 = nm) := fun l => by
    induction l with
    | nil => intro i; rfl
    | cons x l ih =>
      intro i
      rw [List.zipIdx_cons, List.filter_cons, List.filter_cons]
      by_cases h : x.1 = nm <;> simp [h, ih]
  exact this gs 0
theorem imm_ks (zs : List (Grp × Nat)) : immAll (zs.map fun z => PyData.int (z.2 : Nat)) = true := by induction zs <;> simp [*]
theorem phi_lot_of (n : Nat) (gs : List Grp) (nm : Str) (hl : gs.length ≤ 50) : phi tbl gls (n+1) F_lot_of [encGs gs, .str nm] = some (encI (lotL gs nm), []) := by
  have hz : (10000 : Nat) < sizeLine := by decide
  have hc1 := compE_pf (Φ := phi tbl gls n) (gl := gls) (vs := [2]) (g := .nm 2) (c := c_lot_of_0) (e := .var 2) (ρ := [.fz (encGs gs), .fz (.str nm), .no]) (fun z : Grp × Nat => .int (0 + (z.2 : Nat))) (fun z => decide (z.1.1 = nm)) (fun z => .int (z.2 : Nat)) gs.zipIdx [] (by simp; omega) (fun z hz => by
    have h1 := ix_Gs (zipIdx_get hz)
    exact ⟨[.fz (encGs gs), .fz (.str nm), .fz (.int (z.2 : Nat))], .sh, by simp, by simp [c_lot_of_0, h1], fun _ => by simp, by simp⟩)
  rw [← iidx_zip, List.nil_append] at hc1
  have he : (gs.zipIdx.filter (fun z => decide (z.1.1 = nm))).map (fun z => PyData.int (z.2 : Nat)) = (lotL gs nm).map .int := by unfold lotL ownZ; rw [List.map_map]; rfl
  rw [he] at hc1
  have hle := rngD_n (n := gs.length) (by omega)
  rw [phi_eq (D := D_lot_of) (ρ := [.fz (encGs gs), .fz (.str nm), .no]) rfl rfl rfl]
  show (runs _ _ _ b_lot_of _).bind _ = _
  unfold b_lot_of
  simp [als, alsO, alsI, alss, mods, modsO, modsI, modss, D_lot_of, len_Gs, hle, hc1, tup_I]
end LW

namespace LW
open PySem PySem.Spec PyProof.Rows L2 PP
abbrev wLargest : Str := Str.ofString "largest"
def rowK (z : Grp × Nat) : PyData := .tuple [.int (-(z.1.2.2.1.length : Nat)), .int (z.2 : Nat)]
def unI (d : PyData) : Nat := match d with
  | .tuple [_, .int k] => k.toNat
  | _ => 0
@[simp] theorem unI_row (z : Grp × Nat) : unI (rowK z) = z.2 := by simp [unI, rowK]
def anyL (gs : List Grp) (nm : Str) : Bool := (ownZ gs nm).any fun z => decide (z.1.2.1 = wLargest)
def keptI (gs : List Grp) (nm : Str) : Nat := match ownZ gs nm with
  | [] => 0
  | z :: zs => if anyL gs nm then unI (PySem.W.minD (rowK z) (zs.map rowK)) else z.2
theorem kept_mem {gs : List Grp} {nm : Str} (h : ownZ gs nm ≠ []) : ∃ z, z ∈ ownZ gs nm ∧ keptI gs nm = z.2 := by
  unfold keptI
  cases hz : ownZ gs nm with
  | nil => exact absurd hz h
  | cons z zs =>
    dsimp only
    split
    · have hm := minD_mem (rowK z) (zs.map rowK)
      rw [← List.map_cons] at hm
      obtain ⟨y, h1, h2⟩ := List.mem_map.mp hm
      exact ⟨y, h1, by rw [← h2, unI_row]⟩
    · exact ⟨z, List.mem_cons_self .., rfl⟩
theorem kept_get {gs : List Grp} {nm : Str} (h : ownZ gs nm ≠ []) : ∃ g, gs[keptI gs nm]? = some g ∧ g.1 = nm := by
  obtain ⟨z, hz, e⟩ := kept_mem h
  obtain ⟨h1, h2⟩ := own_get hz
  exact ⟨z.1, by rw [e]; exact h1, h2⟩
theorem kept_min {gs : List Grp} {nm : Str} (hl : gs.length ≤ 50) (h : ownZ gs nm ≠ []) (ha : anyL gs nm = true) : ∃ d, mmV true [.list ((ownZ gs nm).map rowK)] = some (d, .sh) ∧ ixV d (.int 1) = some (.int (keptI gs nm : Nat)) := by
  have hz : (10000 : Nat) < sizeLine := by decide
  have hol := own_len gs nm
  have hso : sortOk ((ownZ gs nm).map rowK) = true := sortOk_T (Alk.map _ _ fun a b => by simp [rowK, PySem.W.alike, PySem.W.alikeAll]) (by
      rw [List.all_eq_true]
      intro x hx
      obtain ⟨q, hq, rfl⟩ := List.mem_map.mp hx
      simp [rowK]) (by
      rw [List.all_eq_true]
      intro x hx
      obtain ⟨q, hq, rfl⟩ := List.mem_map.mp hx
      rfl) (by simp; omega)
  have hk : keptI gs nm = match ownZ gs nm with
    | [] => 0
    | z :: zs => if anyL gs nm then unI (PySem.W.minD (rowK z) (zs.map rowK)) else z.2 := rfl
  rw [hk]
  cases hz : ownZ gs nm with
  | nil => exact absurd hz h
  | cons z zs =>
    rw [hz, List.map_cons] at hso
    have hm := minD_mem (rowK z) (zs.map rowK)
    rw [← List.map_cons] at hm
    obtain ⟨y, h1, h2⟩ := List.mem_map.mp hm
    refine ⟨PySem.W.minD (rowK z) (zs.map rowK), ?_, ?_⟩
    · rw [List.map_cons]
      show (if sortOk _ then some (_, _) else none) = _
      rw [if_pos hso]
      rfl
    · dsimp only
      rw [if_pos ha, ← h2, unI_row]
      simp [rowK]
theorem lot_ks (gs : List Grp) (nm : Str) : (lotL gs nm).map PyData.int = (ownZ gs nm).map fun z => .int (z.2 : Nat) := by unfold lotL; rw [List.map_map]; rfl
theorem phi_kept_of (n : Nat) (gs : List Grp) (nm : Str) (hg : okGs gs) (hne : ownZ gs nm ≠ []) : phi tbl gls (n+2) F_kept_of [encGs gs, .str nm] = some (.int (keptI gs nm : Nat), []) := by
  have hz : (10000 : Nat) < sizeLine := by decide
  have s2 : (2 : Nat) ≤ sizeLine := by decide
  have hl : gs.length ≤ 50 := by have := hg.1; omega
  have hol := own_len gs nm
  have h4 : phi tbl gls (n+1) 4 [encGs gs, .str nm] = _ := phi_lot_of n gs nm hl
  have hit : itemsD (encI (lotL gs nm)) = some ((ownZ gs nm).map fun z => .int (z.2 : Nat)) := by rw [items_I, lot_ks]
  have hc1 := compE_f (Φ := phi tbl gls (n+1)) (gl := gls) (vs := [3]) (g := .nm 3) (e := e_kept_of_0) (ρ := [.fz (encGs gs), .fz (.str nm), .fz (encI (lotL gs nm)), .no]) (fun z : Grp × Nat => .int (z.2 : Nat)) (fun z => .bool (decide (z.1.2.1 = wLargest))) (ownZ gs nm) [] (by simp; omega) (fun z hz => by
    have h1 := ix_Gs (own_get hz).1
    exact ⟨[.fz (encGs gs), .fz (.str nm), .fz (encI (lotL gs nm)), .fz (.int (z.2 : Nat))], .sh, by simp, by simp [e_kept_of_0, h1], by simp⟩)
  have hc2 := compE_f (Φ := phi tbl gls (n+1)) (gl := gls) (vs := [3]) (g := .nm 3) (e := e_kept_of_1) (ρ := [.fz (encGs gs), .fz (.str nm), .fz (encI (lotL gs nm)), .no]) (fun z : Grp × Nat => .int (z.2 : Nat)) rowK (ownZ gs nm) [] (by simp; omega) (fun z hz => by
    have h1 := ix_Gs (own_get hz).1
    have hs := len_S (hg.2 z.1 (List.mem_of_getElem? (own_get hz).1)).2.2.1
    exact ⟨[.fz (encGs gs), .fz (.str nm), .fz (encI (lotL gs nm)), .fz (.int (z.2 : Nat))], .sh, by simp, by simp [e_kept_of_1, h1, hs, s2, rowK], by simp⟩)
  rw [List.nil_append] at hc1 hc2
  have hv := v_any_m (fun z : Grp × Nat => decide (z.1.2.1 = wLargest)) (ownZ gs nm)
  change PP.v_any _ = some (.bool (anyL gs nm), _) at hv
  rw [phi_eq (D := D_kept_of) (ρ := [.fz (encGs gs), .fz (.str nm), .no, .no]) rfl rfl rfl]
  show (runs _ _ _ b_kept_of _).bind _ = _
  unfold b_kept_of
  rw [runs_step (ρ1 := [.fz (encGs gs), .fz (.str nm), .fz (encI (lotL gs nm)), .no]) (by simp [als, alsO, alsI, alss, mods, modsO, modsI, modss, h4, D_kept_of])]
  cases ha : anyL gs nm with
  | true =>
    rw [ha] at hv
    obtain ⟨d, m1, m2⟩ := kept_min hl hne ha
    simp [als, alsO, alsI, alss, mods, modsO, modsI, modss, D_kept_of, hit, hc1, hv, hc2, m1, m2, -items_I]
  | false =>
    rw [ha] at hv
    have hk : ixV (encI (lotL gs nm)) (.int 0) = some (.int (keptI gs nm : Nat)) := by
      unfold lotL keptI
      cases hz : ownZ gs nm with
      | nil => exact absurd hz hne
      | cons z zs => simp [ha, encI]
    simp [als, alsO, alsI, alss, mods, modsO, modsI, modss, D_kept_of, hit, hc1, hv, hk, -items_I]
theorem phi__law_kept (n : Nat) (gs : List Grp) (nm : Str) (hg : okGs gs) (hne : ownZ gs nm ≠ []) : phi tbl gls (n+1) F__law_kept [encGs gs, .str nm] = some (.int (keptI gs nm : Nat), []) := by
  have hz : (10000 : Nat) < sizeLine := by decide
  have s2 : (2 : Nat) ≤ sizeLine := by decide
  have hl : gs.length ≤ 50 := by have := hg.1; omega
  have hol := own_len gs nm
  have hc0 := compE_pf (Φ := phi tbl gls n) (gl := gls) (vs := [3]) (g := .nm 3) (c := c__law_kept_2) (e := .var 3) (ρ := [.fz (encGs gs), .fz (.str nm), .no, .no]) (fun z : Grp × Nat => .int (0 + (z.2 : Nat))) (fun z => decide (z.1.1 = nm)) (fun z => .int (z.2 : Nat)) gs.zipIdx [] (by simp; omega) (fun z hz => by
    have h1 := ix_Gs (zipIdx_get hz)
    exact ⟨[.fz (encGs gs), .fz (.str nm), .no, .fz (.int (z.2 : Nat))], .sh, by simp, by simp [c__law_kept_2, h1], fun _ => by simp, by simp⟩)
  rw [← iidx_zip, List.nil_append] at hc0
  change compE _ _ _ _ _ _ _ _ _ = some ((ownZ gs nm).map (fun z => PyData.int (z.2 : Nat)), _) at hc0
  have hle := rngD_n (n := gs.length) (by omega)
  have i1 := imm_ks (ownZ gs nm)
  have hc1 := compE_f (Φ := phi tbl gls n) (gl := gls) (vs := [3]) (g := .nm 3) (e := e__law_kept_0) (ρ := [.fz (encGs gs), .fz (.str nm), .ow (.list ((ownZ gs nm).map fun z => PyData.int (z.2 : Nat))), .no]) (fun z : Grp × Nat => .int (z.2 : Nat)) (fun z => .str z.1.2.1) (ownZ gs nm) [] (by simp; omega) (fun z hz => by
    have h1 := ix_Gs (own_get hz).1
    exact ⟨[.fz (encGs gs), .fz (.str nm), .ow (.list ((ownZ gs nm).map fun z => PyData.int (z.2 : Nat))), .fz (.int (z.2 : Nat))], .sh, by simp, by simp [e__law_kept_0, h1], by simp⟩)
  have hc2 := compE_f (Φ := phi tbl gls n) (gl := gls) (vs := [3]) (g := .nm 3) (e := e__law_kept_1) (ρ := [.fz (encGs gs), .fz (.str nm), .ow (.list ((ownZ gs nm).map fun z => PyData.int (z.2 : Nat))), .no]) (fun z : Grp × Nat => .int (z.2 : Nat)) rowK (ownZ gs nm) [] (by simp; omega) (fun z hz => by
    have h1 := ix_Gs (own_get hz).1
    have hs := len_S (hg.2 z.1 (List.mem_of_getElem? (own_get hz).1)).2.2.1
    exact ⟨[.fz (encGs gs), .fz (.str nm), .ow (.list ((ownZ gs nm).map fun z => PyData.int (z.2 : Nat))), .fz (.int (z.2 : Nat))], .sh, by simp, by simp [e__law_kept_1, h1, hs, s2, rowK], by simp⟩)
  have he : (ownZ gs nm).map (fun z => PyData.str z.1.2.1) = ((ownZ gs nm).map (·.1.2.1)).map .str := by rw [List.map_map]; rfl
  rw [List.nil_append, he] at hc1
  rw [List.nil_append] at hc2
  have hin := in_strsL ((ownZ gs nm).map (·.1.2.1)) wLargest
  have hia : decide (wLargest ∈ (ownZ gs nm).map (·.1.2.1)) = anyL gs nm := by
    rw [Bool.eq_iff_iff, decide_eq_true_eq, anyL, List.any_eq_true, List.mem_map]
    simp
  rw [hia] at hin
  rw [phi_eq (D := D__law_kept) (ρ := [.fz (encGs gs), .fz (.str nm), .no, .no]) rfl rfl rfl]
  show (runs _ _ _ b__law_kept _).bind _ = _
  unfold b__law_kept
  rw [runs_step (ρ1 := [.fz (encGs gs), .fz (.str nm), .ow (.list ((ownZ gs nm).map fun z => PyData.int (z.2 : Nat))), .no]) (by simp [als, alsO, alsI, alss, mods, modsO, modsI, modss, len_Gs, hle, hc0, i1, D__law_kept])]
  cases ha : anyL gs nm with
  | true =>
    rw [ha] at hin
    obtain ⟨d, m1, m2⟩ := kept_min hl hne ha
    simp [als, alsO, alsI, alss, mods, modsO, modsI, modss, D__law_kept, hc1, hin, hc2, m1, m2, -in_strsL, -List.map_map]
  | false =>
    rw [ha] at hin
    have hk : ixV (.list ((ownZ gs nm).map fun z => PyData.int (z.2 : Nat))) (.int 0) = some (.int (keptI gs nm : Nat)) := by
      unfold keptI
      cases hz : ownZ gs nm with
      | nil => exact absurd hz hne
      | cons z zs => simp [ha]
    simp [als, alsO, alsI, alss, mods, modsO, modsI, modss, D__law_kept, hc1, hin, hk, -in_strsL, -List.map_map]
/-! what is wrong -/
def wrongB (g0 g : Grp) : Bool := decide (Str.ofString "none" ∈ [g0.2.1, g.2.1]) || (decide (Str.ofString "samesize" ∈ [g0.2.1, g.2.1]) && !decide ((g0.2.2.1.length : Int) = (g.2.2.1.length : Nat)) || decide (Str.ofString "same" ∈ [g0.2.1, g.2.1]) && !decide (g0.2.2.1 = g.2.2.1))
def wrongO (gs : List Grp) (nm : Str) : Option Int := match ownZ gs nm with
  | [] => none
  | z0 :: zs => (zs.find? fun z => wrongB z0.1 z.1).map fun z : Grp × Nat => (z.2 : Int)
theorem turn_wrong_in (Φ : Nat → List PyData → Option (PyData × List PyData)) (gs : List Grp) (nm D : PyData) (hg : okGs gs) (z0 z : Grp × Nat) (h0 : gs[z0.2]? = some z0.1) (h1 : gs[z.2]? = some z.1) (hd : ixV D (.int 0) = some (.int (z0.2 : Nat))) : turnE Φ gls [] (.nm 3) b_wrong_in_0 [3, 4, 5, 6] (.int (z.2 : Nat)) [.fz (encGs gs), .fz nm, .fz D, .no, .no, .no, .no] = some (if wrongB z0.1 z.1 then .rt (.int (z.2 : Nat)) [.fz (encGs gs), .fz nm, .fz D, .fz (.int (z.2 : Nat)), .fz (encN [z0.1.2.1, z.1.2.1]), .fz (.str z0.1.2.2.1), .fz (.str z.1.2.2.1)] else .nx [.fz (encGs gs), .fz nm, .fz D, .no, .no, .no, .no]) := by
  have hz : (10000 : Nat) < sizeLine := by decide
  have s2 : (2 : Nat) ≤ sizeLine := by decide
  have e0 := ix_Gs h0
  have e1 := ix_Gs h1
  have l0 := len_S (hg.2 z0.1 (List.mem_of_getElem? h0)).2.2.1
  have l1 := len_S (hg.2 z.1 (List.mem_of_getElem? h1)).2.2.1
  have ht : PyData.tuple [.str z0.1.2.1, .str z.1.2.1] = encN [z0.1.2.1, z.1.2.1] := rfl
  have i1 : PP.inV (.str (Str.ofString "none")) (encN [z0.1.2.1, z.1.2.1]) = _ := in_strsT [z0.1.2.1, z.1.2.1] _
  have i2 : PP.inV (.str (Str.ofString "samesize")) (encN [z0.1.2.1, z.1.2.1]) = _ := in_strsT [z0.1.2.1, z.1.2.1] _
  have i3 : PP.inV (.str (Str.ofString "same")) (encN [z0.1.2.1, z.1.2.1]) = _ := in_strsT [z0.1.2.1, z.1.2.1] _
  have hw : wrongB z0.1 z.1 = (decide (Str.ofString "none" ∈ [z0.1.2.1, z.1.2.1]) || (decide (Str.ofString "samesize" ∈ [z0.1.2.1, z.1.2.1]) && !decide ((z0.1.2.2.1.length : Int) = (z.1.2.2.1.length : Nat)) || decide (Str.ofString "same" ∈ [z0.1.2.1, z.1.2.1]) && !decide (z0.1.2.2.1 = z.1.2.2.1))) := rfl
  rw [hw]
  have hrun : runs Φ gls [] b_wrong_in_0 [.fz (encGs gs), .fz nm, .fz D, .fz (.int (z.2 : Nat)), .no, .no, .no] = some (if (decide (Str.ofString "none" ∈ [z0.1.2.1, z.1.2.1]) || (decide (Str.ofString "samesize" ∈ [z0.1.2.1, z.1.2.1]) && !decide ((z0.1.2.2.1.length : Int) = (z.1.2.2.1.length : Nat)) || decide (Str.ofString "same" ∈ [z0.1.2.1, z.1.2.1]) && !decide (z0.1.2.2.1 = z.1.2.2.1))) then .rt (.int (z.2 : Nat)) [.fz (encGs gs), .fz nm, .fz D, .fz (.int (z.2 : Nat)), .fz (encN [z0.1.2.1, z.1.2.1]), .fz (.str z0.1.2.2.1), .fz (.str z.1.2.2.1)] else .nx [.fz (encGs gs), .fz nm, .fz D, .fz (.int (z.2 : Nat)), .fz (encN [z0.1.2.1, z.1.2.1]), .fz (.str z0.1.2.2.1), .fz (.str z.1.2.2.1)]) := by
    unfold b_wrong_in_0
    rw [runs_step (ρ1 := [.fz (encGs gs), .fz nm, .fz D, .fz (.int (z.2 : Nat)), .fz (encN [z0.1.2.1, z.1.2.1]), .fz (.str z0.1.2.2.1), .fz (.str z.1.2.2.1)]) (by simp [als, alsO, alsI, alss, mods, modsO, modsI, modss, hd, e0, e1, s2, ht])]
    generalize decide (Str.ofString "none" ∈ [z0.1.2.1, z.1.2.1]) = A at *
    generalize decide (Str.ofString "samesize" ∈ [z0.1.2.1, z.1.2.1]) = B at *
    generalize decide (Str.ofString "same" ∈ [z0.1.2.1, z.1.2.1]) = C at *
    have q1 : cmpV .NotEq (.int (z0.1.2.2.1.length : Nat)) (.int (z.1.2.2.1.length : Nat)) = _ := cmpV_neI
    have q2 : cmpV .NotEq (.str z0.1.2.2.1) (.str z.1.2.2.1) = _ := cmpV_neS
    generalize decide ((z0.1.2.2.1.length : Int) = (z.1.2.2.1.length : Nat)) = E1 at *
    generalize decide (z0.1.2.2.1 = z.1.2.2.1) = E2 at *
    cases A <;> cases B <;> cases C <;> cases E1 <;> cases E2 <;> simp [als, alsO, alsI, alss, mods, modsO, modsI, modss, i1, i2, i3, l0, l1, q1, q2, -cmpV_neI, -cmpV_neS]
  rw [turnE_eq, asgG_nm]
  simp only [List.length_cons, List.length_nil, List.set]
  rw [if_pos (by decide), runA_some, hrun]
  split <;> rfl
theorem turn__law_wrong (Φ : Nat → List PyData → Option (PyData × List PyData)) (gs : List Grp) (nm D : PyData) (hg : okGs gs) (z0 z : Grp × Nat) (h0 : gs[z0.2]? = some z0.1) (h1 : gs[z.2]? = some z.1) (hd : ixV D (.int 0) = some (.int (z0.2 : Nat))) : turnE Φ gls [] (.nm 3) b__law_wrong_0 [3, 4, 5, 6] (.int (z.2 : Nat)) [.fz (encGs gs), .fz nm, .fz D, .no, .no, .no, .no] = some (if wrongB z0.1 z.1 then .rt (.int (z.2 : Nat)) [.fz (encGs gs), .fz nm, .fz D, .fz (.int (z.2 : Nat)), .fz (encN [z0.1.2.1, z.1.2.1]), .fz (.str z0.1.2.2.1), .fz (.str z.1.2.2.1)] else .nx [.fz (encGs gs), .fz nm, .fz D, .no, .no, .no, .no]) := by
  have hz : (10000 : Nat) < sizeLine := by decide
  have s2 : (2 : Nat) ≤ sizeLine := by decide
  have e0 := ix_Gs h0
  have e1 := ix_Gs h1
  have l0 := len_S (hg.2 z0.1 (List.mem_of_getElem? h0)).2.2.1
  have l1 := len_S (hg.2 z.1 (List.mem_of_getElem? h1)).2.2.1
  have ht : PyData.tuple [.str z0.1.2.1, .str z.1.2.1] = encN [z0.1.2.1, z.1.2.1] := rfl
  have i1 : PP.inV (.str (Str.ofString "none")) (encN [z0.1.2.1, z.1.2.1]) = _ := in_strsT [z0.1.2.1, z.1.2.1] _
  have i2 : PP.inV (.str (Str.ofString "samesize")) (encN [z0.1.2.1, z.1.2.1]) = _ := in_strsT [z0.1.2.1, z.1.2.1] _
  have i3 : PP.inV (.str (Str.ofString "same")) (encN [z0.1.2.1, z.1.2.1]) = _ := in_strsT [z0.1.2.1, z.1.2.1] _
  have hw : wrongB z0.1 z.1 = (decide (Str.ofString "none" ∈ [z0.1.2.1, z.1.2.1]) || (decide (Str.ofString "samesize" ∈ [z0.1.2.1, z.1.2.1]) && !decide ((z0.1.2.2.1.length : Int) = (z.1.2.2.1.length : Nat)) || decide (Str.ofString "same" ∈ [z0.1.2.1, z.1.2.1]) && !decide (z0.1.2.2.1 = z.1.2.2.1))) := rfl
  rw [hw]
  have hrun : runs Φ gls [] b__law_wrong_0 [.fz (encGs gs), .fz nm, .fz D, .fz (.int (z.2 : Nat)), .no, .no, .no] = some (if (decide (Str.ofString "none" ∈ [z0.1.2.1, z.1.2.1]) || (decide (Str.ofString "samesize" ∈ [z0.1.2.1, z.1.2.1]) && !decide ((z0.1.2.2.1.length : Int) = (z.1.2.2.1.length : Nat)) || decide (Str.ofString "same" ∈ [z0.1.2.1, z.1.2.1]) && !decide (z0.1.2.2.1 = z.1.2.2.1))) then .rt (.int (z.2 : Nat)) [.fz (encGs gs), .fz nm, .fz D, .fz (.int (z.2 : Nat)), .fz (encN [z0.1.2.1, z.1.2.1]), .fz (.str z0.1.2.2.1), .fz (.str z.1.2.2.1)] else .nx [.fz (encGs gs), .fz nm, .fz D, .fz (.int (z.2 : Nat)), .fz (encN [z0.1.2.1, z.1.2.1]), .fz (.str z0.1.2.2.1), .fz (.str z.1.2.2.1)]) := by
    unfold b__law_wrong_0
    rw [runs_step (ρ1 := [.fz (encGs gs), .fz nm, .fz D, .fz (.int (z.2 : Nat)), .fz (encN [z0.1.2.1, z.1.2.1]), .fz (.str z0.1.2.2.1), .fz (.str z.1.2.2.1)]) (by simp [als, alsO, alsI, alss, mods, modsO, modsI, modss, hd, e0, e1, s2, ht])]
    generalize decide (Str.ofString "none" ∈ [z0.1.2.1, z.1.2.1]) = A at *
    generalize decide (Str.ofString "samesize" ∈ [z0.1.2.1, z.1.2.1]) = B at *
    generalize decide (Str.ofString "same" ∈ [z0.1.2.1, z.1.2.1]) = C at *
    have q1 : cmpV .NotEq (.int (z0.1.2.2.1.length : Nat)) (.int (z.1.2.2.1.length : Nat)) = _ := cmpV_neI
    have q2 : cmpV .NotEq (.str z0.1.2.2.1) (.str z.1.2.2.1) = _ := cmpV_neS
    generalize decide ((z0.1.2.2.1.length : Int) = (z.1.2.2.1.length : Nat)) = E1 at *
    generalize decide (z0.1.2.2.1 = z.1.2.2.1) = E2 at *
    cases A <;> cases B <;> cases C <;> cases E1 <;> cases E2 <;> simp [als, alsO, alsI, alss, mods, modsO, modsI, modss, i1, i2, i3, l0, l1, q1, q2, -cmpV_neI, -cmpV_neS]
  rw [turnE_eq, asgG_nm]
  simp only [List.length_cons, List.length_nil, List.set]
  rw [if_pos (by decide), runA_some, hrun]
  split <;> rfl
theorem phi_wrong_in (n : Nat) (gs : List Grp) (nm : Str) (hg : okGs gs) (hne : ownZ gs nm ≠ []) : phi tbl gls (n+2) F_wrong_in [encGs gs, .str nm] = some (encO (wrongO gs nm), []) := by
  have hl : gs.length ≤ 50 := by have := hg.1; omega
  have h4 : phi tbl gls (n+1) 4 [encGs gs, .str nm] = _ := phi_lot_of n gs nm hl
  unfold wrongO
  have hmem : ∀ z, z ∈ ownZ gs nm → gs[z.2]? = some z.1 := fun z hz => (own_get hz).1
  cases hz : ownZ gs nm with
  | nil => exact absurd hz hne
  | cons z0 zs =>
    rw [hz] at hmem
    have hlot : lotL gs nm = (z0.2 : Int) :: zs.map fun z => (z.2 : Int) := by unfold lotL; rw [hz]; rfl
    rw [hlot] at h4
    generalize hD : encI ((z0.2 : Int) :: zs.map fun z => (z.2 : Int)) = D at h4
    have hd : ixV D (.int 0) = some (.int (z0.2 : Nat)) := by rw [← hD]; simp [encI]
    have hs : slV D (some 1) none = some (.tuple (zs.map fun z => .int (z.2 : Nat)), .sh) := by
      rw [← hD]
      show some (PyData.tuple (cutL _ (some ((1 : Nat) : Int)) _), _) = _
      rw [cut_drop]
      simp [Function.comp_def]
    have hfs := findSome_if (fun z : Grp × Nat => wrongB z0.1 z.1) (fun z => PyData.int (z.2 : Nat)) zs
    have e := forE_find (Φ := phi tbl gls (n+1)) (gl := gls) (ios := []) (g := .nm 3) (b := b_wrong_in_0) (dead := [3, 4, 5, 6]) [.fz (encGs gs), .fz (.str nm), .fz D, .no, .no, .no, .no] (fun z : Grp × Nat => .int (z.2 : Nat)) (fun z => if wrongB z0.1 z.1 = true then some (.int (z.2 : Nat)) else none) zs rfl (fun z hz hn => by
      have ht := turn_wrong_in (phi tbl gls (n+1)) gs (.str nm) D hg z0 z (hmem z0 (List.mem_cons_self ..)) (hmem z (List.mem_cons_of_mem _ hz)) hd
      have : wrongB z0.1 z.1 = false := by cases h : wrongB z0.1 z.1 <;> simp [h] at hn ⊢
      rw [this] at ht
      exact ht) (fun z v hz hv => by
      have ht := turn_wrong_in (phi tbl gls (n+1)) gs (.str nm) D hg z0 z (hmem z0 (List.mem_cons_self ..)) (hmem z (List.mem_cons_of_mem _ hz)) hd
      have : wrongB z0.1 z.1 = true := by cases h : wrongB z0.1 z.1 <;> simp [h] at hv ⊢
      rw [this] at ht hv
      simp at hv
      subst hv
      exact ⟨_, ht⟩) [.fz (encGs gs), .fz (.str nm), .fz D, .no, .no, .no, .no] rfl
    rw [hfs] at e
    have hDi : immD D = true := by rw [← hD]; simp
    have hit : itemsD (.tuple (zs.map fun z => PyData.int (z.2 : Nat))) = some (zs.map fun z => PyData.int (z.2 : Nat)) := rfl
    rw [phi_eq (D := D_wrong_in) (ρ := [.fz (encGs gs), .fz (.str nm), .no, .no, .no, .no, .no]) rfl rfl rfl]
    show (runs _ _ _ b_wrong_in _).bind _ = _
    unfold b_wrong_in
    rw [runs_step (ρ1 := [.fz (encGs gs), .fz (.str nm), .fz D, .no, .no, .no, .no]) (by simp [als, alsO, alsI, alss, mods, modsO, modsI, modss, D_wrong_in, h4, hDi])]
    cases hf : zs.find? fun z => wrongB z0.1 z.1 with
    | none =>
      rw [hf] at e
      simp only [Option.map_none] at e ⊢
      rw [runs_step (by
        rw [run_for, evIt_eq]
        simp [als, alsO, alsI, alss, mods, modsO, modsI, modss, hs, hit, D_wrong_in]
        exact e)]
      simp [als, alsO, alsI, alss, mods, modsO, modsI, modss, D_wrong_in, hf]
    | some z =>
      rw [hf] at e
      simp only [Option.map_some] at e ⊢
      obtain ⟨ρ', e⟩ := e
      rw [runs_rt (d := .int (z.2 : Nat)) (ρ1 := ρ') (by simp [als, alsO, alsI, alss, mods, modsO, modsI, modss, hs, hit, D_wrong_in]; exact e)]
      simp [D_wrong_in, hf]
theorem phi__law_wrong (n : Nat) (gs : List Grp) (nm : Str) (hg : okGs gs) (hne : ownZ gs nm ≠ []) : phi tbl gls (n+1) F__law_wrong [encGs gs, .str nm] = some (encO (wrongO gs nm), []) := by
  have hz : (10000 : Nat) < sizeLine := by decide
  have hl : gs.length ≤ 50 := by have := hg.1; omega
  have hol := own_len gs nm
  have hc0 := compE_pf (Φ := phi tbl gls n) (gl := gls) (vs := [3]) (g := .nm 3) (c := c__law_wrong_1) (e := .var 3) (ρ := [.fz (encGs gs), .fz (.str nm), .no, .no, .no, .no, .no]) (fun z : Grp × Nat => .int (0 + (z.2 : Nat))) (fun z => decide (z.1.1 = nm)) (fun z => .int (z.2 : Nat)) gs.zipIdx [] (by simp; omega) (fun z hz => by
    have h1 := ix_Gs (zipIdx_get hz)
    exact ⟨[.fz (encGs gs), .fz (.str nm), .no, .fz (.int (z.2 : Nat)), .no, .no, .no], .sh, by simp, by simp [c__law_wrong_1, h1], fun _ => by simp, by simp⟩)
  rw [← iidx_zip, List.nil_append] at hc0
  change compE _ _ _ _ _ _ _ _ _ = some ((ownZ gs nm).map (fun z => PyData.int (z.2 : Nat)), _) at hc0
  have hle := rngD_n (n := gs.length) (by omega)
  have i1 := imm_ks (ownZ gs nm)
  unfold wrongO
  have hmem : ∀ z, z ∈ ownZ gs nm → gs[z.2]? = some z.1 := fun z hz => (own_get hz).1
  cases hz : ownZ gs nm with
  | nil => exact absurd hz hne
  | cons z0 zs =>
    rw [hz] at hmem hc0 i1
    rw [List.map_cons] at hc0 i1
    generalize hD : PyData.list (PyData.int (z0.2 : Nat) :: zs.map fun z => PyData.int (z.2 : Nat)) = D
    have hd : ixV D (.int 0) = some (.int (z0.2 : Nat)) := by rw [← hD]; simp
    have hs : slV D (some 1) none = some (.list (zs.map fun z => .int (z.2 : Nat)), .fr) := by
      rw [← hD]
      show some (PyData.list (cutL _ (some ((1 : Nat) : Int)) _), _) = _
      rw [cut_drop]
      simp
    have hfs := findSome_if (fun z : Grp × Nat => wrongB z0.1 z.1) (fun z => PyData.int (z.2 : Nat)) zs
    have e := forE_find (Φ := phi tbl gls n) (gl := gls) (ios := []) (g := .nm 3) (b := b__law_wrong_0) (dead := [3, 4, 5, 6]) [.fz (encGs gs), .fz (.str nm), .fz D, .no, .no, .no, .no] (fun z : Grp × Nat => .int (z.2 : Nat)) (fun z => if wrongB z0.1 z.1 = true then some (.int (z.2 : Nat)) else none) zs rfl (fun z hz hn => by
      have ht := turn__law_wrong (phi tbl gls n) gs (.str nm) D hg z0 z (hmem z0 (List.mem_cons_self ..)) (hmem z (List.mem_cons_of_mem _ hz)) hd
      have : wrongB z0.1 z.1 = false := by cases h : wrongB z0.1 z.1 <;> simp [h] at hn ⊢
      rw [this] at ht
      exact ht) (fun z v hz hv => by
      have ht := turn__law_wrong (phi tbl gls n) gs (.str nm) D hg z0 z (hmem z0 (List.mem_cons_self ..)) (hmem z (List.mem_cons_of_mem _ hz)) hd
      have : wrongB z0.1 z.1 = true := by cases h : wrongB z0.1 z.1 <;> simp [h] at hv ⊢
      rw [this] at ht hv
      simp at hv
      subst hv
      exact ⟨_, ht⟩) [.fz (encGs gs), .fz (.str nm), .fz D, .no, .no, .no, .no] rfl
    rw [hfs] at e
    have hit : itemsD (.list (zs.map fun z => PyData.int (z.2 : Nat))) = some (zs.map fun z => PyData.int (z.2 : Nat)) := rfl
    rw [phi_eq (D := D__law_wrong) (ρ := [.fz (encGs gs), .fz (.str nm), .no, .no, .no, .no, .no]) rfl rfl rfl]
    show (runs _ _ _ b__law_wrong _).bind _ = _
    unfold b__law_wrong
    rw [runs_step (ρ1 := [.fz (encGs gs), .fz (.str nm), .ow D, .no, .no, .no, .no]) (by rw [← hD]; simp [als, alsO, alsI, alss, mods, modsO, modsI, modss, D__law_wrong, len_Gs, hle, hc0, i1])]
    cases hf : zs.find? fun z => wrongB z0.1 z.1 with
    | none =>
      rw [hf] at e
      simp only [Option.map_none] at e ⊢
      rw [runs_step (by
        rw [run_for, evIt_eq]
        simp [als, alsO, alsI, alss, mods, modsO, modsI, modss, hs, hit, D__law_wrong]
        exact e)]
      simp [als, alsO, alsI, alss, mods, modsO, modsI, modss, D__law_wrong, hf]
    | some z =>
      rw [hf] at e
      simp only [Option.map_some] at e ⊢
      obtain ⟨ρ', e⟩ := e
      rw [runs_rt (d := .int (z.2 : Nat)) (ρ1 := ρ') (by simp [als, alsO, alsI, alss, mods, modsO, modsI, modss, hs, hit, D__law_wrong]; exact e)]
      simp [D__law_wrong, hf]
end LW

namespace LW
open PySem PySem.Spec PyProof.Rows L2 PP
/-! sorted ints -/
def unInt : PyData → Int
  | .int i => i
  | _ => 0
def sortI (xs : List Int) : List Int := (sortD (xs.map .int)).map unInt
theorem sortI_eq (xs : List Int) : sortD (xs.map .int) = (sortI xs).map .int := by
  unfold sortI
  rw [List.map_map]
  conv => lhs; rw [← List.map_id (sortD (xs.map PyData.int))]
  apply List.map_congr_left
  intro d hd
  obtain ⟨i, _, rfl⟩ := List.mem_map.mp (mem_sortD.mp hd)
  rfl
theorem sortI_len (xs : List Int) : (sortI xs).length = xs.length := by
  have := (sortD_perm (xs.map PyData.int)).length_eq
  rw [sortI_eq] at this
  simpa using this
theorem v_sorted_ints (xs : List Int) (h : xs.length < 4000) : v_sorted [.list (xs.map .int)] = some (.list ((sortI xs).map .int), .fr) := by
  have hz : (10000 : Nat) < sizeLine := by decide
  simp only [v_sorted, sortOk_ints (xs := xs) (by omega), if_true, sortI_eq]
theorem dedupK_id : ∀ ks : List (Sum Int Str), ks.Nodup → dedupK ks = ks
  | [], _ => rfl
  | k :: ks, h => by
    rw [List.nodup_cons] at h
    rw [dedupK, dedupK_id ks h.2]
    congr 1
    rw [List.filter_eq_self]
    intro j hj
    have : j ≠ k := fun e => h.1 (e ▸ hj)
    simpa using this
theorem v_sortedSet_ints (xs : List Int) (h : xs.length < 4000) (hn : xs.Nodup) : v_sortedSet [.list (xs.map .int)] = some (.list ((sortI xs).map .int), .fr) := by
  have hz : (10000 : Nat) < sizeLine := by decide
  have hk := keysD_ints xs
  have hd : dedupK (xs.map Sum.inl) = xs.map Sum.inl := dedupK_id _ (by
    unfold List.Nodup
    rw [List.pairwise_map]
    exact hn.imp fun h e => h (Sum.inl.inj e))
  have he : (xs.map (Sum.inl : Int → Sum Int Str)).map keyDat = xs.map .int := by rw [List.map_map]; rfl
  simp only [v_sortedSet, hk, Option.bind_eq_bind, Option.bind_some, hd, he, sortOk_ints (xs := xs) (by omega), Bool.true_and, List.length_map]
  rw [if_pos (by simpa using h), sortI_eq]
theorem phi_set_ofI (n : Nat) (xs : List Int) (h : xs.length ≤ 100) (hn : xs.Nodup) : phi tbl gls (n+1) F_set_of [.list (xs.map .int)] = some (encI (sortI xs), []) := by
  have hv := v_sortedSet_ints xs (by omega) hn
  rw [phi_eq (D := D_set_of) (ρ := [.fz (.list (xs.map .int))]) rfl rfl rfl]
  show (runs _ _ _ b_set_of _).bind _ = _
  unfold b_set_of
  simp [als, alsO, alsI, alss, mods, modsO, modsI, modss, D_set_of, hv, tup_I]
/-! what is kept, if all may -/
def keptZ (gs : List Grp) : List Int := (names gs).map fun nm => (keptI gs nm : Int)
theorem names_nodup (gs : List Grp) : (names gs).Pairwise (fun a b => a ≠ b) := setS_nodup _
theorem keptZ_nodup (gs : List Grp) : (keptZ gs).Nodup := by
  unfold keptZ List.Nodup
  rw [List.pairwise_map]
  refine (names_nodup gs).imp_of_mem fun {a b} ha hb hne e => hne ?_
  obtain ⟨g1, e1, n1⟩ := kept_get (own_ne.mpr (show a ∈ names gs from ha))
  obtain ⟨g2, e2, n2⟩ := kept_get (own_ne.mpr (show b ∈ names gs from hb))
  have : keptI gs a = keptI gs b := by omega
  rw [this, e2] at e1
  cases e1
  rw [← n1, ← n2]
theorem keptZ_len (gs : List Grp) : (keptZ gs).length ≤ gs.length := by unfold keptZ; rw [List.length_map]; exact names_len gs
def badO (gs : List Grp) : Option Str := (names gs).find? fun nm => (wrongO gs nm).isSome
def chooseV (gs : List Grp) : PyData := match badO gs with
  | some nm => .tuple [.str (Str.ofString "no"), .str nm, encO (wrongO gs nm)]
  | none => .tuple [.str (Str.ofString "yes"), encI (sortI (keptZ gs))]
theorem phi_choose_groups (n : Nat) (gs : List Grp) (hg : okGs gs) : phi tbl gls (n+3) F_choose_groups [encGs gs] = some (chooseV gs, []) := by
  have hz : (10000 : Nat) < sizeLine := by decide
  have s2 : (2 : Nat) ≤ sizeLine := by decide
  have s3 : (3 : Nat) ≤ sizeLine := by decide
  have hl : gs.length ≤ 50 := by have := hg.1; omega
  have hnl := names_len gs
  have hkl := keptZ_len gs
  have h5 : phi tbl gls (n+2) 5 [encGs gs] = _ := phi_group_names n gs hl
  have hw : ∀ nm, nm ∈ names gs → phi tbl gls (n+2) 7 [encGs gs, .str nm] = some (encO (wrongO gs nm), []) := fun nm hnm => phi_wrong_in n gs nm hg (own_ne.mpr hnm)
  have hfs := findSome_if (fun nm => (wrongO gs nm).isSome) (fun nm => PyData.tuple [.str (Str.ofString "no"), .str nm, encO (wrongO gs nm)]) (names gs)
  have e := forE_find (Φ := phi tbl gls (n+2)) (gl := gls) (ios := []) (g := .nm 1) (b := b_choose_groups_1) (dead := [1, 2]) [.fz (encGs gs), .no, .no] PyData.str (fun nm => if (wrongO gs nm).isSome = true then some (.tuple [.str (Str.ofString "no"), .str nm, encO (wrongO gs nm)]) else none) (names gs) rfl (fun nm hnm hn => by
    have h1 := hw nm hnm
    cases ho : wrongO gs nm with
    | some i => simp [ho] at hn
    | none =>
      rw [ho] at h1
      simp [b_choose_groups_1, als, alsO, alsI, alss, mods, modsO, modsI, modss, h1]) (fun nm v hnm hv => by
    have h1 := hw nm hnm
    cases ho : wrongO gs nm with
    | none => simp [ho] at hv
    | some i =>
      rw [ho] at h1
      simp [ho] at hv
      subst hv
      exact ⟨[.fz (encGs gs), .fz (.str nm), .fz (.int i)], by simp [b_choose_groups_1, als, alsO, alsI, alss, mods, modsO, modsI, modss, h1, s3]⟩) [.fz (encGs gs), .no, .no] rfl
  rw [hfs] at e
  have hc := compE_f (Φ := phi tbl gls (n+2)) (gl := gls) (vs := [1]) (g := .nm 1) (e := e_choose_groups_0) (ρ := [.fz (encGs gs), .no, .no]) PyData.str (fun nm => .int (keptI gs nm : Nat)) (names gs) [] (by simp; omega) (fun nm hnm => by
    have h2 : phi tbl gls (n+2) 6 [encGs gs, .str nm] = _ := phi_kept_of n gs nm hg (own_ne.mpr hnm)
    exact ⟨[.fz (encGs gs), .fz (.str nm), .no], .sh, by simp, by simp [e_choose_groups_0, h2], by simp⟩)
  have he : (names gs).map (fun nm => PyData.int (keptI gs nm : Nat)) = (keptZ gs).map .int := by unfold keptZ; rw [List.map_map]; rfl
  rw [List.nil_append, he] at hc
  have h2 : phi tbl gls (n+2) 2 [.list ((keptZ gs).map .int)] = _ := phi_set_ofI (n+1) (keptZ gs) (by omega) (keptZ_nodup gs)
  rw [phi_eq (D := D_choose_groups) (ρ := [.fz (encGs gs), .no, .no]) rfl rfl rfl]
  show (runs _ _ _ b_choose_groups _).bind _ = _
  unfold b_choose_groups
  have hcv : chooseV gs = match badO gs with
    | some nm => .tuple [.str (Str.ofString "no"), .str nm, encO (wrongO gs nm)]
    | none => .tuple [.str (Str.ofString "yes"), encI (sortI (keptZ gs))] := rfl
  have hbo : badO gs = (names gs).find? fun nm => (wrongO gs nm).isSome := rfl
  rw [← hbo] at e
  cases hf : badO gs with
  | none =>
    rw [hf] at e hcv
    simp only [Option.map_none] at e
    rw [hcv]
    rw [runs_step (by
      rw [run_for, evIt_eq]
      simp [als, alsO, alsI, alss, mods, modsO, modsI, modss, h5, D_choose_groups]
      exact e)]
    simp [als, alsO, alsI, alss, mods, modsO, modsI, modss, D_choose_groups, h5, hc, h2, s2]
  | some nm =>
    rw [hf] at e hcv
    simp only [Option.map_some] at e
    obtain ⟨ρ', e⟩ := e
    rw [hcv]
    rw [runs_rt (ρ1 := ρ') (by simp [als, alsO, alsI, alss, mods, modsO, modsI, modss, h5, D_choose_groups]; exact e)]
    simp [D_choose_groups]
def dropI (gs : List Grp) : Int := ((gs.zipIdx.filter fun z => !decide ((z.2 : Int) ∈ keptZ gs)).map fun z => (z.1.2.2.1.length : Int)).sum
theorem phi_signs_dropped (n : Nat) (gs : List Grp) (hg : okGs gs) : phi tbl gls (n+3) F_signs_dropped [encGs gs] = some (.int (dropI gs), []) := by
  have hz : (10000 : Nat) < sizeLine := by decide
  have hl : gs.length ≤ 50 := by have := hg.1; omega
  have hnl := names_len gs
  have h5 : phi tbl gls (n+2) 5 [encGs gs] = _ := phi_group_names n gs hl
  have hc := compE_f (Φ := phi tbl gls (n+2)) (gl := gls) (vs := [2]) (g := .nm 2) (e := e_signs_dropped_2) (ρ := [.fz (encGs gs), .no, .no, .no]) PyData.str (fun nm => .int (keptI gs nm : Nat)) (names gs) [] (by simp; omega) (fun nm hnm => by
    have h2 : phi tbl gls (n+2) 6 [encGs gs, .str nm] = _ := phi_kept_of n gs nm hg (own_ne.mpr hnm)
    exact ⟨[.fz (encGs gs), .no, .fz (.str nm), .no], .sh, by simp, by simp [e_signs_dropped_2, h2], by simp⟩)
  have he : (names gs).map (fun nm => PyData.int (keptI gs nm : Nat)) = (keptZ gs).map .int := by unfold keptZ; rw [List.map_map]; rfl
  rw [List.nil_append, he] at hc
  have hc2 := compE_pf (Φ := phi tbl gls (n+2)) (gl := gls) (vs := [3]) (g := .nm 3) (c := c_signs_dropped_0) (e := e_signs_dropped_1) (ρ := [.fz (encGs gs), .ow (.list ((keptZ gs).map .int)), .no, .no]) (fun z : Grp × Nat => .int (0 + (z.2 : Nat))) (fun z => !decide ((z.2 : Int) ∈ keptZ gs)) (fun z => .int (z.1.2.2.1.length : Nat)) gs.zipIdx [] (by simp; omega) (fun z hz => by
    have h1 := ix_Gs (zipIdx_get hz)
    have hs := len_S (hg.2 z.1 (List.mem_of_getElem? (zipIdx_get hz))).2.2.1
    exact ⟨[.fz (encGs gs), .ow (.list ((keptZ gs).map .int)), .no, .fz (.int (z.2 : Nat))], .sh, by simp, by simp [c_signs_dropped_0], fun _ => by simp [e_signs_dropped_1, h1, hs], by simp⟩)
  have he2 : (gs.zipIdx.filter (fun z => !decide ((z.2 : Int) ∈ keptZ gs))).map (fun z => PyData.int (z.1.2.2.1.length : Nat)) = ((gs.zipIdx.filter fun z => !decide ((z.2 : Int) ∈ keptZ gs)).map fun z => (z.1.2.2.1.length : Int)).map .int := by rw [List.map_map]; rfl
  rw [← iidx_zip, List.nil_append, he2] at hc2
  have hr := rngD_n (n := gs.length) (by omega)
  have hv := v_sum_m ((gs.zipIdx.filter fun z => !decide ((z.2 : Int) ∈ keptZ gs)).map fun z => (z.1.2.2.1.length : Int))
  change PP.v_sum _ = some (.int (dropI gs), _) at hv
  rw [phi_eq (D := D_signs_dropped) (ρ := [.fz (encGs gs), .no, .no, .no]) rfl rfl rfl]
  show (runs _ _ _ b_signs_dropped _).bind _ = _
  unfold b_signs_dropped
  rw [runs_step (ρ1 := [.fz (encGs gs), .ow (.list ((keptZ gs).map .int)), .no, .no]) (by simp [als, alsO, alsI, alss, mods, modsO, modsI, modss, D_signs_dropped, h5, hc])]
  simp [als, alsO, alsI, alss, mods, modsO, modsI, modss, D_signs_dropped, len_Gs, hr, hc2, hv, -List.map_map]
/-! twins -/
def twB (gs : List Grp) (nm : Str) : Bool := decide (1 < (dedupS ((gs.filter fun g => decide (g.1 = nm)).map (·.2.2.1))).length)
def twL (gs : List Grp) : List Str := (names gs).filter (twB gs)
theorem v_lenSetK_strs (xs : List Str) (h : xs.length < 4000) : v_lenSetK [.list (xs.map .str)] = some (.int (dedupS xs).length, .sh) := by
  have hk := keysD_strs xs
  have hd := congrArg List.length (dedupK_strs xs)
  simp only [List.length_map] at hd
  simp only [v_lenSetK, hk, Option.bind_eq_bind, Option.bind_some, List.length_map, h, if_true, hd]
theorem phi_unlike_twins (n : Nat) (gs : List Grp) (hl : gs.length ≤ 50) : phi tbl gls (n+3) F_unlike_twins [encGs gs] = some (encN (twL gs), []) := by
  have hz : (10000 : Nat) < sizeLine := by decide
  have hnl := names_len gs
  have h5 : phi tbl gls (n+2) 5 [encGs gs] = _ := phi_group_names n gs hl
  have hc := compE_pf (Φ := phi tbl gls (n+2)) (gl := gls) (vs := [1]) (g := .nm 1) (c := c_unlike_twins_1) (e := .var 1) (ρ := [.fz (encGs gs), .no, .no]) PyData.str (twB gs) PyData.str (names gs) [] (by simp; omega) (fun nm hnm => by
    have h4 : phi tbl gls (n+2) 4 [encGs gs, .str nm] = _ := phi_lot_of (n+1) gs nm hl
    have hol := own_len gs nm
    have hit : itemsD (encI (lotL gs nm)) = some ((ownZ gs nm).map fun z => .int (z.2 : Nat)) := by rw [items_I, lot_ks]
    have hc1 := compE_f (Φ := phi tbl gls (n+2)) (gl := gls) (vs := [2]) (g := .nm 2) (e := e_unlike_twins_0) (ρ := [.fz (encGs gs), .fz (.str nm), .no]) (fun z : Grp × Nat => .int (z.2 : Nat)) (fun z => .str z.1.2.2.1) (ownZ gs nm) [] (by simp; omega) (fun z hz => by
      have h1 := ix_Gs (own_get hz).1
      exact ⟨[.fz (encGs gs), .fz (.str nm), .fz (.int (z.2 : Nat))], .sh, by simp, by simp [e_unlike_twins_0, h1], by simp⟩)
    have he : (ownZ gs nm).map (fun z => PyData.str z.1.2.2.1) = ((gs.filter fun g => decide (g.1 = nm)).map (·.2.2.1)).map .str := by
      rw [← own_map, List.map_map, List.map_map]; rfl
    rw [List.nil_append, he] at hc1
    have hfl : (gs.filter fun g => decide (g.1 = nm)).length ≤ gs.length := List.length_filter_le ..
    have hv := v_lenSetK_strs ((gs.filter fun g => decide (g.1 = nm)).map (·.2.2.1)) (by simp; omega)
    have h2 : decide ((1 : Int) < ((dedupS ((gs.filter fun g => decide (g.1 = nm)).map (·.2.2.1))).length : Nat)) = twB gs nm := by
      unfold twB
      rw [Bool.eq_iff_iff, decide_eq_true_eq, decide_eq_true_eq]
      omega
    exact ⟨[.fz (encGs gs), .fz (.str nm), .no], .sh, by simp, by simp [c_unlike_twins_1, h4, hit, hc1, hv, h2, -List.map_map, -items_I], fun _ => by simp, by simp⟩)
  rw [List.nil_append] at hc
  change compE _ _ _ _ _ _ _ _ _ = some ((twL gs).map .str, _) at hc
  rw [phi_eq (D := D_unlike_twins) (ρ := [.fz (encGs gs), .no, .no]) rfl rfl rfl]
  show (runs _ _ _ b_unlike_twins _).bind _ = _
  unfold b_unlike_twins
  simp [als, alsO, alsI, alss, mods, modsO, modsI, modss, D_unlike_twins, h5, hc, tup_N]
end LW

namespace LW
open PySem PySem.Spec PyProof.Rows L2 PP
theorem setS_filter {xs ys : List Str} (p : Str → Bool) (h : ∀ q, q ∈ ys ↔ q ∈ xs ∧ p q = true) : (setS xs).filter p = setS ys := by
  have hp : (dedupS ys).Perm ((setS xs).filter p) := (List.perm_ext_iff_of_nodup (dedupS_nodup ys) ((setS_nodup xs).filter p)).mpr fun q => by
    rw [dedupS_mem, List.mem_filter, setS_mem, h]
  have hpw : (((setS xs).filter p).map PyData.str).Pairwise (fun a b => leD a b = true) := by
    have h1 := sortD_pw ((dedupS xs).map PyData.str)
    rw [sortS_eq] at h1
    rw [List.pairwise_map] at h1 ⊢
    exact h1.filter p
  have h2 := sortD_eq (alk_strs (dedupS ys)) (hp.map PyData.str) hpw
  rw [sortS_eq] at h2
  exact (str_inj h2).symm
/-! dicts of names -/
theorem sorted_dict (xs : List Str) (hl : xs.length ≤ 50) : ∃ D, v_dict [.list ((xs.map fun x => (x, true)).map (fun p : Str × Bool => .tuple [.str p.1, .bool p.2]))] = some (D, .fr) ∧ v_sorted [D] = some (.list ((setS xs).map .str), .fr) ∧ v_len [D] = some (.int (dedupS xs).length, .sh) := by
  have hv := v_dict_A (κ := Str) PyData.bool (fun _ => rfl) (xs.map fun x => (x, true))
  have hml := mkA_len (xs.map fun x => (x, true))
  have hm : ∀ q, q ∈ (mkA (xs.map fun x => (x, true))).map (·.1) ↔ q ∈ xs := fun q => by
    have := mkA_mem q (xs.map fun a => (a, true)) []
    rw [show (mkA (xs.map fun a => (a, true))) = (xs.map fun a => (a, true)).foldl (fun m p => putA m p.1 p.2) [] from rfl, this]
    simp
  have hlen : (mkA (xs.map fun x => (x, true))).length = (dedupS xs).length := by
    have hp : ((mkA (xs.map fun x => (x, true))).map (·.1)).Perm (dedupS xs) := (List.perm_ext_iff_of_nodup (mkA_nodup _) (dedupS_nodup xs)).mpr fun q => by rw [hm, dedupS_mem]
    have := hp.length_eq
    rwa [List.length_map] at this
  refine ⟨_, hv, ?_, ?_⟩
  · rw [v_sorted_dS PyData.bool _ (by simp at hml; omega), sortS_setS (ys := xs) (mkA_nodup _) hm]
  · have e : v_len [PyData.dict (dA (κ := Str) PyData.bool (mkA (xs.map fun x => (x, true))))] = some (.int ((dA (κ := Str) PyData.bool (mkA (xs.map fun x => (x, true)))).length : Nat), .sh) := rfl
    rw [e, dA_len, hlen]
theorem phi__law_twins (n : Nat) (gs : List Grp) (D : PyData) (hD : itemsD D = some (gs.map encG)) (hl : gs.length ≤ 50) : phi tbl gls (n+1) F__law_twins [D] = some (.list ((twL gs).map .str), []) := by
  have hz : (10000 : Nat) < sizeLine := by decide
  have s2 : (2 : Nat) ≤ sizeLine := by decide
  have hnl := names_len gs
  have hc1 := compE_f (Φ := phi tbl gls n) (gl := gls) (vs := [3]) (g := .nm 3) (e := e__law_twins_3) (ρ := [.fz D, .no, .no, .no]) encG (fun a => .tuple [.str a.1, .bool true]) gs [] (by simp; omega) (fun a _ => ⟨[.fz D, .no, .no, .fz (encG a)], .sh, by simp, by simp [e__law_twins_3, s2], by simp⟩)
  have he1 : gs.map (fun a => PyData.tuple [.str a.1, .bool true]) = ((gs.map (·.1)).map fun x => (x, true)).map (fun p : Str × Bool => .tuple [.str p.1, .bool p.2]) := by rw [List.map_map, List.map_map]; rfl
  rw [List.nil_append, he1] at hc1
  obtain ⟨D1, d1, d2, -⟩ := sorted_dict (gs.map (·.1)) (by simpa using hl)
  change v_sorted _ = some (.list ((names gs).map .str), _) at d2
  have hc2 := compE_pf (Φ := phi tbl gls n) (gl := gls) (vs := [2]) (g := .nm 2) (c := c__law_twins_2) (e := .var 2) (ρ := [.fz D, .ow (.list ((names gs).map .str)), .no, .no]) PyData.str (twB gs) PyData.str (names gs) [] (by simp; omega) (fun nm hnm => by
    have hc := compE_pf (Φ := phi tbl gls n) (gl := gls) (vs := [3]) (g := .nm 3) (c := c__law_twins_0) (e := e__law_twins_1) (ρ := [.fz D, .ow (.list ((names gs).map .str)), .fz (.str nm), .no]) encG (fun g => decide (g.1 = nm)) (fun g => .tuple [.str g.2.2.1, .bool true]) gs [] (by simp; omega) (fun a _ => ⟨[.fz D, .ow (.list ((names gs).map .str)), .fz (.str nm), .fz (encG a)], .sh, by simp, by simp [c__law_twins_0], fun _ => by simp [e__law_twins_1, s2], by simp⟩)
    have he : (gs.filter fun g => decide (g.1 = nm)).map (fun g => PyData.tuple [.str g.2.2.1, .bool true]) = (((gs.filter fun g => decide (g.1 = nm)).map (·.2.2.1)).map fun x => (x, true)).map (fun p : Str × Bool => .tuple [.str p.1, .bool p.2]) := by rw [List.map_map, List.map_map]; rfl
    rw [List.nil_append, he] at hc
    have hfl : (gs.filter fun g => decide (g.1 = nm)).length ≤ gs.length := List.length_filter_le ..
    obtain ⟨D2, f1, -, f3⟩ := sorted_dict ((gs.filter fun g => decide (g.1 = nm)).map (·.2.2.1)) (by simp; omega)
    have h2 : decide ((1 : Int) < ((dedupS ((gs.filter fun g => decide (g.1 = nm)).map (·.2.2.1))).length : Nat)) = twB gs nm := by
      unfold twB
      rw [Bool.eq_iff_iff, decide_eq_true_eq, decide_eq_true_eq]
      omega
    exact ⟨[.fz D, .ow (.list ((names gs).map .str)), .fz (.str nm), .no], .sh, by simp, by simp [c__law_twins_2, hD, hc, f1, f3, h2, -List.map_map], fun _ => by simp, by simp⟩)
  rw [List.nil_append] at hc2
  change compE _ _ _ _ _ _ _ _ _ = some ((twL gs).map .str, _) at hc2
  rw [phi_eq (D := D__law_twins) (ρ := [.fz (D), .no, .no, .no]) rfl rfl rfl]
  show (runs _ _ _ b__law_twins _).bind _ = _
  unfold b__law_twins
  rw [runs_step (ρ1 := [.fz D, .ow (.list ((names gs).map .str)), .no, .no]) (by simp [als, alsO, alsI, alss, mods, modsO, modsI, modss, D__law_twins, hD, hc1, d1, d2, -List.map_map])]
  simp [als, alsO, alsI, alss, mods, modsO, modsI, modss, D__law_twins, hc2]
/-! what hangs on the order -/
def dataAt (gs : List Grp) (k : Nat) : Str := ((gs[k]?).map (·.2.2.1)).getD (Str.ofString "")
theorem ix_data {gs : List Grp} {nm : Str} (h : ownZ gs nm ≠ []) : ∃ d, ixV (encGs gs) (.int (keptI gs nm : Nat)) = some d ∧ ixV d (.int 2) = some (.str (dataAt gs (keptI gs nm))) := by
  obtain ⟨g, e, _⟩ := kept_get h
  refine ⟨encG g, ix_Gs e, ?_⟩
  rw [G_2]
  simp [dataAt, e]
def hangB (gs : List Grp) (nm : Str) : Bool := !decide (dataAt gs (keptI gs nm) = dataAt gs.reverse (keptI gs.reverse nm))
def hangL (gs : List Grp) : List Str := (names gs).filter (hangB gs)
theorem rev_Gs (gs : List Grp) : revV (encGs gs) = some (encGs gs.reverse, .sh) := by
  rw [encGs, encGs, List.map_reverse]; rfl
theorem okGs_rev {gs : List Grp} (h : okGs gs) : okGs gs.reverse := ⟨by simpa using h.1, fun g hg => h.2 g (by simpa using hg)⟩
theorem names_rev {gs : List Grp} {nm : Str} (h : nm ∈ names gs) : ownZ gs.reverse nm ≠ [] := by
  rw [own_ne, names_mem]
  obtain ⟨g, hg, e⟩ := names_mem.mp h
  exact ⟨g, by simpa using hg, e⟩
theorem phi_groups_hang (n : Nat) (gs : List Grp) (hg : okGs gs) : phi tbl gls (n+3) F_groups_hang [encGs gs] = some (encN (hangL gs), []) := by
  have hz : (10000 : Nat) < sizeLine := by decide
  have s0 : (0 : Nat) ≤ sizeLine := by decide
  have hl : gs.length ≤ 50 := by have := hg.1; omega
  have hnl := names_len gs
  have h5 : phi tbl gls (n+2) 5 [encGs gs] = _ := phi_group_names n gs hl
  have e := forE_foldN (Φ := phi tbl gls (n+2)) (gl := gls) (ios := []) (g := .nm 3) (b := b_groups_hang_0) (dead := [3]) (fun s : List Str => [.fz (encGs gs), .fz (encGs gs.reverse), .ow (.list (s.map .str)), .no]) PyData.str (fun s x => if hangB gs x = true then s ++ [x] else s) (fun s m => s.length + m ≤ 100) (names gs) [] [.fz (encGs gs), .fz (encGs gs.reverse), .ow (.list []), .no] rfl (by simp; omega) (fun s nm m hnm hi => by
    have hsl : s.length < sizeLine := by omega
    have h1 : phi tbl gls (n+2) 6 [encGs gs, .str nm] = _ := phi_kept_of n gs nm hg (own_ne.mpr hnm)
    have h2 : phi tbl gls (n+2) 6 [encGs gs.reverse, .str nm] = _ := phi_kept_of n gs.reverse nm (okGs_rev hg) (names_rev hnm)
    obtain ⟨d1, i1, i2⟩ := ix_data (own_ne.mpr hnm)
    obtain ⟨d2, j1, j2⟩ := ix_data (names_rev hnm)
    by_cases hc : dataAt gs (keptI gs nm) = dataAt gs.reverse (keptI gs.reverse nm)
    · exact ⟨by simp [b_groups_hang_0, als, alsO, alsI, alss, mods, modsO, modsI, modss, h1, h2, i1, i2, j1, j2, hangB, hc], by simp [hangB, hc]; omega⟩
    · exact ⟨by simp [b_groups_hang_0, als, alsO, alsI, alss, mods, modsO, modsI, modss, h1, h2, i1, i2, j1, j2, hangB, hc, hsl], by simp [hangB, hc]; omega⟩)
  have hf := fold_filter (hangB gs) (fun x : Str => x) (names gs) []
  rw [hf, List.nil_append, List.map_id'] at e
  have hrv := rev_Gs gs
  rw [phi_eq (D := D_groups_hang) (ρ := [.fz (encGs gs), .no, .no, .no]) rfl rfl rfl]
  show (runs _ _ _ b_groups_hang _).bind _ = _
  unfold b_groups_hang
  rw [runs_step (ρ1 := [.fz (encGs gs), .fz (encGs gs.reverse), .ow (.list []), .no]) (by simp [als, alsO, alsI, alss, mods, modsO, modsI, modss, D_groups_hang, hrv, s0])]
  rw [runs_step (by
    rw [run_for, evIt_eq]
    simp [als, alsO, alsI, alss, mods, modsO, modsI, modss, h5, D_groups_hang]
    exact e)]
  simp [als, alsO, alsI, alss, mods, modsO, modsI, modss, D_groups_hang, tup_N, hangL]
/-! the strictest way -/
def order5 : List Str := [Str.ofString "none", Str.ofString "same", Str.ofString "samesize", Str.ofString "largest", Str.ofString "any"]
def wysL (gs : List Grp) (nm : Str) : List Str := (ownZ gs nm).map (·.1.2.1)
def strictL (gs : List Grp) (nm : Str) : List Str := order5.filter fun w => decide (w ∈ wysL gs nm)
def strictS (gs : List Grp) (nm : Str) : Str := (strictL gs nm).head?.getD (Str.ofString "")
theorem strict_ne {gs : List Grp} {nm : Str} (hg : okGs gs) (h : ownZ gs nm ≠ []) : ∃ x xs, strictL gs nm = x :: xs ∧ strictS gs nm = x := by
  have hne : strictL gs nm ≠ [] := by
    obtain ⟨z, hz⟩ := List.exists_mem_of_ne_nil _ h
    have hw := (hg.2 z.1 (List.mem_of_getElem? (own_get hz).1)).2.1
    have h5 : z.1.2.1 ∈ order5 := by
      simp only [ways5, order5, List.mem_cons, List.not_mem_nil, or_false] at hw ⊢
      rcases hw with h | h | h | h | h <;> simp [h]
    have : z.1.2.1 ∈ strictL gs nm := List.mem_filter.mpr ⟨h5, decide_eq_true (List.mem_map.mpr ⟨z, hz, rfl⟩)⟩
    intro e
    rw [e] at this; cases this
  unfold strictS
  cases hs : strictL gs nm with
  | nil => exact absurd hs hne
  | cons x xs => exact ⟨x, xs, rfl, rfl⟩
theorem phi_strictest (n : Nat) (gs : List Grp) (nm : Str) (hg : okGs gs) (h : ownZ gs nm ≠ []) : phi tbl gls (n+2) F_strictest [encGs gs, .str nm] = some (.str (strictS gs nm), []) := by
  have hz : (10000 : Nat) < sizeLine := by decide
  have s5 : (5 : Nat) ≤ sizeLine := by decide
  have hl : gs.length ≤ 50 := by have := hg.1; omega
  have hol := own_len gs nm
  have h4 : phi tbl gls (n+1) 4 [encGs gs, .str nm] = _ := phi_lot_of n gs nm hl
  have hit : itemsD (encI (lotL gs nm)) = some ((ownZ gs nm).map fun z => .int (z.2 : Nat)) := by rw [items_I, lot_ks]
  have hc1 := compE_f (Φ := phi tbl gls (n+1)) (gl := gls) (vs := [3]) (g := .nm 3) (e := e_strictest_1) (ρ := [.fz (encGs gs), .fz (.str nm), .no, .no, .no]) (fun z : Grp × Nat => .int (z.2 : Nat)) (fun z => .str z.1.2.1) (ownZ gs nm) [] (by simp; omega) (fun z hz => by
    have h1 := ix_Gs (own_get hz).1
    exact ⟨[.fz (encGs gs), .fz (.str nm), .no, .fz (.int (z.2 : Nat)), .no], .sh, by simp, by simp [e_strictest_1, h1], by simp⟩)
  have he : (ownZ gs nm).map (fun z => PyData.str z.1.2.1) = (wysL gs nm).map .str := by unfold wysL; rw [List.map_map]; rfl
  rw [List.nil_append, he] at hc1
  have hc2 := compE_pf (Φ := phi tbl gls (n+1)) (gl := gls) (vs := [4]) (g := .nm 4) (c := c_strictest_0) (e := .var 4) (ρ := [.fz (encGs gs), .fz (.str nm), .ow (.list ((wysL gs nm).map .str)), .no, .no]) PyData.str (fun w => decide (w ∈ wysL gs nm)) PyData.str order5 [] (by simp [order5]; omega) (fun w _ => ⟨[.fz (encGs gs), .fz (.str nm), .ow (.list ((wysL gs nm).map .str)), .no, .fz (.str w)], .sh, by simp, by simp [c_strictest_0], fun _ => by simp, by simp⟩)
  obtain ⟨x, xs, h1, h2⟩ := strict_ne hg h
  rw [List.nil_append] at hc2
  change compE _ _ _ _ _ _ _ _ _ = some ((strictL gs nm).map .str, _) at hc2
  rw [h1, List.map_cons] at hc2
  rw [h2]
  have ho : [PyData.str (Str.ofString "none"), .str (Str.ofString "same"), .str (Str.ofString "samesize"), .str (Str.ofString "largest"), .str (Str.ofString "any")] = order5.map .str := rfl
  have hi : itemsD (.tuple (order5.map PyData.str)) = some (order5.map PyData.str) := rfl
  rw [phi_eq (D := D_strictest) (ρ := [.fz (encGs gs), .fz (.str nm), .no, .no, .no]) rfl rfl rfl]
  show (runs _ _ _ b_strictest _).bind _ = _
  unfold b_strictest
  rw [runs_step (ρ1 := [.fz (encGs gs), .fz (.str nm), .ow (.list ((wysL gs nm).map .str)), .no, .no]) (by simp [als, alsO, alsI, alss, mods, modsO, modsI, modss, D_strictest, h4, hit, hc1, -items_I])]
  have s5' : order5.length ≤ sizeLine := s5
  simp [als, alsO, alsI, alss, mods, modsO, modsI, modss, D_strictest, s5, s5', ho, hi, hc2]
end LW

namespace LW
open PySem PySem.Spec PyProof.Rows L2 PP
/-! what an object's groups are -/
abbrev Sn := List (Str × Bool)
def dB (m : Sn) : PyData := .dict (dA PyData.bool m)
def stepS (gs : List Grp) (own : Str) (m : Sn) (g : Grp) : Sn := if g.2.2.2 = own then putA m g.1 ((getA m g.1).getD true && decide (dataAt gs (keptI gs g.1) = g.2.2.1)) else m
def seenA (gs : List Grp) (own : Str) : Sn := gs.foldl (stepS gs own) []
theorem stepS_len (gs : List Grp) (own : Str) (m : Sn) (g : Grp) : (stepS gs own m g).length ≤ m.length + 1 := by
  unfold stepS
  split
  · exact putA_len _ _ _
  · omega
theorem phi_seen_by (n : Nat) (gs : List Grp) (own : Str) (hg : okGs gs) : phi tbl gls (n+3) F_seen_by [encGs gs, .str own] = some (dB (seenA gs own), []) := by
  have hz : (10000 : Nat) < sizeLine := by decide
  have hl : gs.length ≤ 50 := by have := hg.1; omega
  have e := forE_foldN (Φ := phi tbl gls (n+2)) (gl := gls) (ios := []) (g := .tp [.nm 3, .nm 4, .nm 5, .nm 6]) (b := b_seen_by_0) (dead := [3, 4, 5, 6]) (fun m : Sn => [.fz (encGs gs), .fz (.str own), .ow (dB m), .no, .no, .no, .no]) encG (stepS gs own) (fun m c => m.length + c ≤ 100) gs [] [.fz (encGs gs), .fz (.str own), .ow (.dict []), .no, .no, .no, .no] rfl (by simp; omega) (fun m g c hgm hi => by
    have hne : ownZ gs g.1 ≠ [] := own_ne.mpr (names_mem.mpr ⟨g, hgm, rfl⟩)
    have h1 : phi tbl gls (n+2) 6 [encGs gs, .str g.1] = _ := phi_kept_of n gs g.1 hg hne
    obtain ⟨d1, i1, i2⟩ := ix_data hne
    have hget : v_get [dB m, .str g.1, .bool true] = some (((getA m g.1).map PyData.bool).getD (.bool true), .sh) := dA_get3 (κ := Str) PyData.bool m g.1 (.bool true)
    have hgo : ((getA m g.1).map PyData.bool).getD (.bool true) = .bool ((getA m g.1).getD true) := by cases getA m g.1 <;> rfl
    rw [hgo] at hget
    have hset : ∀ b, setV (dB m) (.str g.1) (.bool b) = some (dB (putA m g.1 b)) := fun b => dA_set (κ := Str) PyData.bool m g.1 b (by omega)
    have hsl := stepS_len gs own m g
    refine ⟨?_, by omega⟩
    unfold stepS
    generalize (getA m g.1).getD true = b0 at *
    by_cases hc : g.2.2.2 = own
    · cases b0 with
      | true => simp [b_seen_by_0, als, alsO, alsI, alss, mods, modsO, modsI, modss, encG, hc, hget, h1, i1, i2, hset]
      | false => simp [b_seen_by_0, als, alsO, alsI, alss, mods, modsO, modsI, modss, encG, hc, hget, hset]
    · simp [b_seen_by_0, als, alsO, alsI, alss, mods, modsO, modsI, modss, encG, hc])
  have hd0 : dictOf (pairUp []) = some [] := rfl
  rw [phi_eq (D := D_seen_by) (ρ := [.fz (encGs gs), .fz (.str own), .no, .no, .no, .no, .no]) rfl rfl rfl]
  show (runs _ _ _ b_seen_by _).bind _ = _
  unfold b_seen_by
  rw [runs_step (ρ1 := [.fz (encGs gs), .fz (.str own), .ow (.dict []), .no, .no, .no, .no]) (by simp [als, alsO, alsI, alss, mods, modsO, modsI, modss, D_seen_by, hd0])]
  rw [runs_step (by
    rw [run_for, evIt_eq]
    simp [als, alsO, alsI, alss, mods, modsO, modsI, modss, D_seen_by]
    exact e)]
  simp [als, alsO, alsI, alss, mods, modsO, modsI, modss, D_seen_by]
  rfl
/-- what stands at a name -/
def hasB (gs : List Grp) (own nm : Str) : Bool := gs.any fun g => decide (g.2.2.2 = own) && decide (g.1 = nm)
def goodB (gs : List Grp) (own nm : Str) : Bool := (gs.filter fun g => decide (g.2.2.2 = own) && (decide (g.1 = nm) && !decide (g.2.2.1 = dataAt gs (keptI gs nm)))).isEmpty
theorem seen_get (gs : List Grp) (own nm : Str) : ∀ (l : List Grp) (m : Sn), getA (l.foldl (stepS gs own) m) nm = if (l.any fun g => decide (g.2.2.2 = own) && decide (g.1 = nm)) = true then some ((getA m nm).getD true && (l.filter fun g => decide (g.2.2.2 = own) && (decide (g.1 = nm) && !decide (g.2.2.1 = dataAt gs (keptI gs nm)))).isEmpty) else getA m nm
  | [], m => by simp
  | g :: l, m => by
    rw [List.foldl_cons, seen_get gs own nm l, List.any_cons, List.filter_cons]
    unfold stepS
    by_cases h1 : g.2.2.2 = own
    · rw [if_pos h1, getA_put]
      by_cases h2 : g.1 = nm
      · have h3 : (decide (dataAt gs (keptI gs nm) = g.2.2.1)) = decide (g.2.2.1 = dataAt gs (keptI gs nm)) := by
          rw [Bool.eq_iff_iff, decide_eq_true_eq, decide_eq_true_eq]; exact eq_comm
        subst h2
        simp only [h1, h3, decide_true, Bool.and_self, Bool.true_or, if_true, Bool.true_and, Option.getD_some]
        by_cases h4 : g.2.2.1 = dataAt gs (keptI gs g.1)
        · simp only [h4, decide_true, Bool.not_true, Bool.false_eq_true, if_false, Bool.and_true]
          split
          · rfl
          · rename_i hn
            have : (l.filter fun g_1 => decide (g_1.2.2.2 = own) && (decide (g_1.1 = g.1) && !decide (g_1.2.2.1 = dataAt gs (keptI gs g.1)))) = [] := by
              rw [List.filter_eq_nil_iff]
              intro x hx hq
              apply hn
              rw [List.any_eq_true]
              refine ⟨x, hx, ?_⟩
              simp only [Bool.and_eq_true] at hq ⊢
              exact ⟨hq.1, hq.2.1⟩
            rw [this]; simp
        · simp only [h4, decide_false, Bool.not_false, if_true, Bool.and_false, Bool.false_and, List.isEmpty_cons]
          split <;> rfl
      · have h2' : ¬ nm = g.1 := fun e => h2 e.symm
        have hA : (decide (g.2.2.2 = own) && decide (g.1 = nm)) = false := by simp [h2]
        have hB : (decide (g.2.2.2 = own) && (decide (g.1 = nm) && !decide (g.2.2.1 = dataAt gs (keptI gs nm)))) = false := by simp [h2]
        rw [if_neg h2', hA, hB]
        simp only [Bool.false_or, Bool.false_eq_true, if_false]
    · have hA : (decide (g.2.2.2 = own) && decide (g.1 = nm)) = false := by simp [h1]
      have hB : (decide (g.2.2.2 = own) && (decide (g.1 = nm) && !decide (g.2.2.1 = dataAt gs (keptI gs nm)))) = false := by simp [h1]
      rw [if_neg h1, hA, hB]
      simp only [Bool.false_or, Bool.false_eq_true, if_false]
theorem getA_seen (gs : List Grp) (own nm : Str) : getA (seenA gs own) nm = if hasB gs own nm = true then some (goodB gs own nm) else none := by
  unfold seenA
  rw [seen_get]
  rfl
theorem seen_nodup (gs : List Grp) (own : Str) : ((seenA gs own).map (·.1)).Nodup := by
  have : ∀ (l : List Grp) (m : Sn), (m.map (·.1)).Nodup → ((l.foldl (stepS gs own) m).map (·.1)).Nodup := fun l => by
    induction l with
    | nil => intro m h; exact h
    | cons g l ih =>
      intro m h
      rw [List.foldl_cons]
      refine ih _ ?_
      unfold stepS
      split
      · exact nodup_put _ _ h
      · exact h
  exact this gs [] (by simp)
/-- dicts with the same at each key -/
theorem getA_mk {κ β : Type} [DecidableEq κ] (F : κ → β) (k : κ) : ∀ (ks : List κ) (m : List (κ × β)), getA ((ks.map fun q => (q, F q)).foldl (fun m p => putA m p.1 p.2) m) k = if k ∈ ks then some (F k) else getA m k
  | [], m => by simp
  | q :: ks, m => by
    rw [List.map_cons, List.foldl_cons, getA_mk F k ks, getA_put]
    by_cases h : k = q
    · subst h; simp
    · by_cases h2 : k ∈ ks <;> simp [h, h2]
theorem same_len {κ β : Type} [DecidableEq κ] {m1 m2 : List (κ × β)} (h1 : (m1.map (·.1)).Nodup) (h2 : (m2.map (·.1)).Nodup) (h : ∀ k, getA m1 k = getA m2 k) : m1.length = m2.length := by
  have hp : (m1.map (·.1)).Perm (m2.map (·.1)) := (List.perm_ext_iff_of_nodup h1 h2).mpr fun k => by
    rw [← hasA_mem, ← hasA_mem, hasA_get, hasA_get, h]
  have := hp.length_eq
  simpa using this
theorem dict_same2 {κ β : Type} [DecidableEq κ] [Key κ] (f : β → PyData) (hs : ∀ k : κ, (Key.dk k).isLeft = true) {m1 m2 : List (κ × β)} (h1 : (m1.map (·.1)).Nodup) (h2 : (m2.map (·.1)).Nodup) (h : ∀ k, getA m1 k = getA m2 k) (hf : ∀ p, p ∈ m1 → okD (f p.2) = true ∧ PyData.eqv (f p.2) (f p.2) = true) : cmpV .NotEq (.dict (dA f m1)) (.dict (dA f m2)) = some false := by
  have key : dictEq (dA f m1) (dA f m2) = some true := by
    unfold dictEq
    rw [plain_A f hs m1, plain_A f hs m2, if_pos]
    rw [dA_len, dA_len, same_len h1 h2 h]
    simp only [decide_true, Bool.true_and, List.all_eq_true]
    intro p hp
    obtain ⟨q, hq, rfl⟩ := List.mem_map.mp hp
    have hg : getA m2 q.1 = some q.2 := by rw [← h]; exact getA_of_mem h1 hq
    have h3 : dkey (ek q.1) = some (Key.dk q.1) := Key.ok q.1
    obtain ⟨h4, h5⟩ := hf q hq
    simp only [h3, dA_look, hg, Option.map_some, h4, h5, Bool.and_self]
  show (dictEq _ _).map (!·) = _
  rw [key]; rfl
/-- the law's dict -/
def lawS (gs : List Grp) (own : Str) : Sn := mkA (((names gs).filter (hasB gs own)).map fun nm => (nm, goodB gs own nm))
theorem has_name {gs : List Grp} {own nm : Str} (h : hasB gs own nm = true) : nm ∈ names gs := by
  unfold hasB at h
  obtain ⟨g, hg, e⟩ := List.any_eq_true.mp h
  rw [Bool.and_eq_true] at e
  exact names_mem.mpr ⟨g, hg, by simpa using e.2⟩
theorem law_get (gs : List Grp) (own nm : Str) : getA (lawS gs own) nm = getA (seenA gs own) nm := by
  rw [getA_seen]
  unfold lawS
  rw [show ∀ ps : List (Str × Bool), mkA ps = ps.foldl (fun m p => putA m p.1 p.2) [] from fun _ => rfl, getA_mk]
  by_cases h : hasB gs own nm = true
  · rw [if_pos h, if_pos (List.mem_filter.mpr ⟨has_name h, h⟩)]
  · rw [if_neg h, if_neg fun hm => h (List.mem_filter.mp hm).2]
    rfl
theorem ne_seen (gs : List Grp) (own : Str) : cmpV .NotEq (dB (seenA gs own)) (dB (lawS gs own)) = some false :=
  dict_same2 (κ := Str) PyData.bool (fun _ => rfl) (seen_nodup gs own) (mkA_nodup _) (fun k => (law_get gs own k).symm) fun _ _ => by simp
/-- a word that is not -/
def badB (m : Sn) : Bool := m.any fun p => !p.2
theorem bad_same (gs : List Grp) (own : Str) : badB (lawS gs own) = badB (seenA gs own) := by
  unfold badB
  rw [Bool.eq_iff_iff, List.any_eq_true, List.any_eq_true]
  constructor
  · rintro ⟨p, hp, e⟩
    have h1 := getA_of_mem (mkA_nodup _) hp
    rw [show getA (mkA (((names gs).filter (hasB gs own)).map fun nm => (nm, goodB gs own nm))) p.1 = getA (lawS gs own) p.1 from rfl, law_get] at h1
    exact ⟨_, getA_mem h1, e⟩
  · rintro ⟨p, hp, e⟩
    have h1 := getA_of_mem (seen_nodup gs own) hp
    rw [← law_get] at h1
    exact ⟨_, getA_mem h1, e⟩
theorem vals_dB (m : Sn) : biV .listVals [dB m] = some (.list (m.map fun p => .bool p.2), .fr) := by
  show (if (dA PyData.bool m).all plainKey then some (PyData.list ((dA PyData.bool m).map (·.2)), Fl.fr) else none) = _
  rw [plain_A (κ := Str) PyData.bool (fun _ => rfl), if_pos rfl]
  simp [dA]
theorem in_bools (m : Sn) : PP.inV (.bool false) (.list (m.map fun p => .bool p.2)) = some (badB m) := by
  have h1 : okD (.list (m.map fun p => PyData.bool p.2)) = true := by
    rw [okD_list, List.all_eq_true]
    intro x hx
    obtain ⟨p, _, rfl⟩ := List.mem_map.mp hx
    simp
  rw [inV_L rfl h1]
  congr 1
  unfold badB
  rw [List.any_map]
  congr 1
  funext p
  cases h : p.2 <;> simp [h]
theorem phi_misled (n : Nat) (gs : List Grp) (hg : okGs gs) : phi tbl gls (n+4) F_misled [encGs gs] = some (encN ((objs gs).filter fun o => badB (seenA gs o)), []) := by
  have hz : (10000 : Nat) < sizeLine := by decide
  have hl : gs.length ≤ 50 := by have := hg.1; omega
  have hc := compE_pf (Φ := phi tbl gls (n+3)) (gl := gls) (vs := [1, 1, 1, 2]) (g := .tp [.nm 1, .nm 1, .nm 1, .nm 2]) (c := c_misled_0) (e := .var 2) (ρ := [.fz (encGs gs), .no, .no]) encG (fun g => badB (seenA gs g.2.2.2)) (fun g => .str g.2.2.2) gs [] (by simp; omega) (fun g _ => by
    have h12 : phi tbl gls (n+3) 12 [encGs gs, .str g.2.2.2] = _ := phi_seen_by n gs g.2.2.2 hg
    have h1 := vals_dB (seenA gs g.2.2.2)
    have h2 := in_bools (seenA gs g.2.2.2)
    exact ⟨[.fz (encGs gs), .fz (.str g.2.2.1), .fz (.str g.2.2.2)], .sh, by simp [encG], by simp [c_misled_0, h12, h1, h2], fun _ => by simp, by simp⟩)
  have he : (gs.filter (fun g => badB (seenA gs g.2.2.2))).map (fun g => PyData.str g.2.2.2) = ((gs.filter fun g => badB (seenA gs g.2.2.2)).map (·.2.2.2)).map .str := by rw [List.map_map]; rfl
  rw [List.nil_append, he] at hc
  have hfl : (gs.filter fun g => badB (seenA gs g.2.2.2)).length ≤ gs.length := List.length_filter_le ..
  have h2 : phi tbl gls (n+3) 2 [.list (((gs.filter fun g => badB (seenA gs g.2.2.2)).map (·.2.2.2)).map .str)] = _ := phi_set_of (n+2) _ (by simp; omega)
  rw [← setS_filter (xs := gs.map (·.2.2.2)) (fun o => badB (seenA gs o)) fun q => by
    rw [List.mem_map, List.mem_map]
    constructor
    · rintro ⟨g, hgm, rfl⟩
      have := List.mem_filter.mp hgm
      exact ⟨⟨g, this.1, rfl⟩, this.2⟩
    · rintro ⟨⟨g, hgm, rfl⟩, hb⟩
      exact ⟨g, List.mem_filter.mpr ⟨hgm, hb⟩, rfl⟩] at h2
  change _ = some (encN ((objs gs).filter fun o => badB (seenA gs o)), _) at h2
  rw [phi_eq (D := D_misled) (ρ := [.fz (encGs gs), .no, .no]) rfl rfl rfl]
  show (runs _ _ _ b_misled _).bind _ = _
  unfold b_misled
  simp [als, alsO, alsI, alss, mods, modsO, modsI, modss, D_misled, hc, h2, -List.map_map]
end LW

namespace LW
open PySem PySem.Spec PyProof.Rows L2 PP
/-! by objects -/
theorem phi_objs (n : Nat) (gs : List Grp) (h : gs.length ≤ 50) : phi tbl gls (n+1) 2 [.list ((gs.map (·.2.2.2)).map .str)] = some (encN (objs gs), []) := phi_set_of n _ (by simpa using (show gs.length ≤ 100 by omega))
def cntK (gs : List Grp) (own : Str) : Int := (((keptZ gs).filter fun k => decide (((gs[k.toNat]?).map (·.2.2.2)) = some own)).length : Nat)
def dK (m : List (Str × Int)) : PyData := .dict (dA PyData.int m)
def keptByD (gs : List Grp) : PyData := dK (mkA ((objs gs).map fun o => (o, cntK gs o)))
theorem kept_ix {gs : List Grp} {k : Int} (h : k ∈ keptZ gs) : ∃ g, ixV (encGs gs) (.int k) = some (encG g) ∧ gs[k.toNat]? = some g := by
  unfold keptZ at h
  obtain ⟨nm, hnm, rfl⟩ := List.mem_map.mp h
  obtain ⟨g, e, _⟩ := kept_get (own_ne.mpr hnm)
  exact ⟨g, ix_Gs e, by simpa using e⟩
theorem phi_kept_by_objects (n : Nat) (gs : List Grp) (hg : okGs gs) : phi tbl gls (n+3) F_kept_by_objects [encGs gs] = some (keptByD gs, []) := by
  have hz : (10000 : Nat) < sizeLine := by decide
  have s2 : (2 : Nat) ≤ sizeLine := by decide
  have hl : gs.length ≤ 50 := by have := hg.1; omega
  have hnl := names_len gs
  have hol := objs_len gs
  have hkl := keptZ_len gs
  have h5 : phi tbl gls (n+2) 5 [encGs gs] = _ := phi_group_names n gs hl
  have hc := compE_f (Φ := phi tbl gls (n+2)) (gl := gls) (vs := [3]) (g := .nm 3) (e := e_kept_by_objects_3) (ρ := [.fz (encGs gs), .no, .no, .no, .no, .no, .no]) PyData.str (fun nm => .int (keptI gs nm : Nat)) (names gs) [] (by simp; omega) (fun nm hnm => by
    have h2 : phi tbl gls (n+2) 6 [encGs gs, .str nm] = _ := phi_kept_of n gs nm hg (own_ne.mpr hnm)
    exact ⟨[.fz (encGs gs), .no, .no, .fz (.str nm), .no, .no, .no], .sh, by simp, by simp [e_kept_by_objects_3, h2], by simp⟩)
  have he : (names gs).map (fun nm => PyData.int (keptI gs nm : Nat)) = (keptZ gs).map .int := by unfold keptZ; rw [List.map_map]; rfl
  rw [List.nil_append, he] at hc
  have hc2 := compE_f (Φ := phi tbl gls (n+2)) (gl := gls) (vs := [4]) (g := .nm 4) (e := e_kept_by_objects_2) (ρ := [.fz (encGs gs), .ow (.list ((keptZ gs).map .int)), .no, .no, .no, .no, .no]) encG (fun g => .str g.2.2.2) gs [] (by simp; omega) (fun g _ => ⟨[.fz (encGs gs), .ow (.list ((keptZ gs).map .int)), .no, .no, .fz (encG g), .no, .no], .sh, by simp, by simp [e_kept_by_objects_2], by simp⟩)
  have he2 : gs.map (fun g => PyData.str g.2.2.2) = (gs.map (·.2.2.2)).map .str := by rw [List.map_map]; rfl
  rw [List.nil_append, he2] at hc2
  have h2 : phi tbl gls (n+2) 2 [.list ((gs.map (·.2.2.2)).map .str)] = _ := phi_objs (n+1) gs hl
  have hc3 := compE_f (Φ := phi tbl gls (n+2)) (gl := gls) (vs := [5]) (g := .nm 5) (e := e_kept_by_objects_1) (ρ := [.fz (encGs gs), .ow (.list ((keptZ gs).map .int)), .fz (encN (objs gs)), .no, .no, .no, .no]) PyData.str (fun o => .tuple [.str o, .int (cntK gs o)]) (objs gs) [] (by simp; omega) (fun o _ => by
    have hc := compE_pf (Φ := phi tbl gls (n+2)) (gl := gls) (vs := [6]) (g := .nm 6) (c := c_kept_by_objects_0) (e := .var 6) (ρ := [.fz (encGs gs), .ow (.list ((keptZ gs).map .int)), .fz (encN (objs gs)), .no, .no, .fz (.str o), .no]) PyData.int (fun k => decide (((gs[k.toNat]?).map (·.2.2.2)) = some o)) PyData.int (keptZ gs) [] (by simp; omega) (fun k hk => by
      obtain ⟨g, i1, i2⟩ := kept_ix hk
      exact ⟨[.fz (encGs gs), .ow (.list ((keptZ gs).map .int)), .fz (encN (objs gs)), .no, .no, .fz (.str o), .fz (.int k)], .sh, by simp, by simp [c_kept_by_objects_0, i1, i2], fun _ => by simp, by simp⟩)
    rw [List.nil_append] at hc
    have hv : v_len [.list (((keptZ gs).filter fun k => decide (((gs[k.toNat]?).map (·.2.2.2)) = some o)).map PyData.int)] = some (.int (cntK gs o), .sh) := by simp [cntK]
    exact ⟨[.fz (encGs gs), .ow (.list ((keptZ gs).map .int)), .fz (encN (objs gs)), .no, .no, .fz (.str o), .no], .sh, by simp, by simp [e_kept_by_objects_1, hc, hv, s2, -List.length_map], by simp⟩)
  have he3 : (objs gs).map (fun o => PyData.tuple [.str o, .int (cntK gs o)]) = ((objs gs).map fun o => (o, cntK gs o)).map fun p => .tuple [.str p.1, .int p.2] := by rw [List.map_map]; rfl
  rw [List.nil_append, he3] at hc3
  have hv := v_dict_A (κ := Str) PyData.int (fun _ => rfl) ((objs gs).map fun o => (o, cntK gs o))
  replace hv : v_dict [.list (((objs gs).map fun o => (o, cntK gs o)).map fun p => .tuple [.str p.1, .int p.2])] = some (keptByD gs, .fr) := hv
  rw [phi_eq (D := D_kept_by_objects) (ρ := [.fz (encGs gs), .no, .no, .no, .no, .no, .no]) rfl rfl rfl]
  show (runs _ _ _ b_kept_by_objects _).bind _ = _
  unfold b_kept_by_objects
  rw [runs_step (ρ1 := [.fz (encGs gs), .ow (.list ((keptZ gs).map .int)), .no, .no, .no, .no, .no]) (by simp [als, alsO, alsI, alss, mods, modsO, modsI, modss, D_kept_by_objects, h5, hc])]
  rw [runs_step (ρ1 := [.fz (encGs gs), .ow (.list ((keptZ gs).map .int)), .fz (encN (objs gs)), .no, .no, .no, .no]) (by simp [als, alsO, alsI, alss, mods, modsO, modsI, modss, D_kept_by_objects, hc2, h2, -List.map_map])]
  simp [als, alsO, alsI, alss, mods, modsO, modsI, modss, D_kept_by_objects, hc3, hv, -List.map_map]
theorem ne_kept (gs : List Grp) : cmpV .NotEq (keptByD gs) (keptByD gs) = some false := dict_ne (κ := Str) PyData.int (fun _ => rfl) _ (mkA_nodup _) fun _ _ => by simp
/-! what objects bring -/
def bringL (gs : List Grp) (own : Str) : List Str := setS ((gs.filter fun g => decide (g.2.2.2 = own)).map (·.1))
def broughtD (gs : List Grp) : PyData := .dict (dA encN (mkA ((objs gs).map fun o => (o, bringL gs o))))
theorem phi_brought_by (n : Nat) (gs : List Grp) (hl : gs.length ≤ 50) : phi tbl gls (n+2) F_brought_by [encGs gs] = some (broughtD gs, []) := by
  have hz : (10000 : Nat) < sizeLine := by decide
  have s2 : (2 : Nat) ≤ sizeLine := by decide
  have hol := objs_len gs
  have hc2 := compE_f (Φ := phi tbl gls (n+1)) (gl := gls) (vs := [2]) (g := .nm 2) (e := e_brought_by_3) (ρ := [.fz (encGs gs), .no, .no, .no]) encG (fun g => .str g.2.2.2) gs [] (by simp; omega) (fun g _ => ⟨[.fz (encGs gs), .no, .fz (encG g), .no], .sh, by simp, by simp [e_brought_by_3], by simp⟩)
  have he2 : gs.map (fun g => PyData.str g.2.2.2) = (gs.map (·.2.2.2)).map .str := by rw [List.map_map]; rfl
  rw [List.nil_append, he2] at hc2
  have h2 : phi tbl gls (n+1) 2 [.list ((gs.map (·.2.2.2)).map .str)] = _ := phi_objs n gs hl
  have hc3 := compE_f (Φ := phi tbl gls (n+1)) (gl := gls) (vs := [3]) (g := .nm 3) (e := e_brought_by_2) (ρ := [.fz (encGs gs), .fz (encN (objs gs)), .no, .no]) PyData.str (fun o => .tuple [.str o, encN (bringL gs o)]) (objs gs) [] (by simp; omega) (fun o _ => by
    have hc := compE_pf (Φ := phi tbl gls (n+1)) (gl := gls) (vs := [2]) (g := .nm 2) (c := c_brought_by_0) (e := e_brought_by_1) (ρ := [.fz (encGs gs), .fz (encN (objs gs)), .no, .fz (.str o)]) encG (fun g => decide (g.2.2.2 = o)) (fun g => .str g.1) gs [] (by simp; omega) (fun g hk => ⟨[.fz (encGs gs), .fz (encN (objs gs)), .fz (encG g), .fz (.str o)], .sh, by simp, by simp [c_brought_by_0], fun _ => by simp [e_brought_by_1], by simp⟩)
    have he : (gs.filter fun g => decide (g.2.2.2 = o)).map (fun g => PyData.str g.1) = ((gs.filter fun g => decide (g.2.2.2 = o)).map (·.1)).map .str := by rw [List.map_map]; rfl
    rw [List.nil_append, he] at hc
    have hfl : (gs.filter fun g => decide (g.2.2.2 = o)).length ≤ gs.length := List.length_filter_le ..
    have h2 : phi tbl gls (n+1) 2 [.list (((gs.filter fun g => decide (g.2.2.2 = o)).map (·.1)).map .str)] = some (encN (bringL gs o), []) := phi_set_of n _ (by simp; omega)
    exact ⟨[.fz (encGs gs), .fz (encN (objs gs)), .no, .fz (.str o)], .sh, by simp, by simp [e_brought_by_2, hc, h2, s2, -List.map_map], by simp⟩)
  have he3 : (objs gs).map (fun o => PyData.tuple [.str o, encN (bringL gs o)]) = ((objs gs).map fun o => (o, bringL gs o)).map fun p => .tuple [.str p.1, encN p.2] := by rw [List.map_map]; rfl
  rw [List.nil_append, he3] at hc3
  have hv := v_dict_A (κ := Str) encN (fun _ => rfl) ((objs gs).map fun o => (o, bringL gs o))
  replace hv : v_dict [.list (((objs gs).map fun o => (o, bringL gs o)).map fun p => .tuple [.str p.1, encN p.2])] = some (broughtD gs, .fr) := hv
  rw [phi_eq (D := D_brought_by) (ρ := [.fz (encGs gs), .no, .no, .no]) rfl rfl rfl]
  show (runs _ _ _ b_brought_by _).bind _ = _
  unfold b_brought_by
  rw [runs_step (ρ1 := [.fz (encGs gs), .fz (encN (objs gs)), .no, .no]) (by simp [als, alsO, alsI, alss, mods, modsO, modsI, modss, D_brought_by, hc2, h2, -List.map_map])]
  simp [als, alsO, alsI, alss, mods, modsO, modsI, modss, D_brought_by, hc3, hv, -List.map_map]
theorem eqv_N (xs : List Str) : PyData.eqv (encN xs) (encN xs) = true := by
  rw [encN, eqv_tt]
  induction xs with
  | nil => rfl
  | cons x xs ih => simp [ih]
theorem ne_brought (gs : List Grp) : cmpV .NotEq (broughtD gs) (broughtD gs) = some false := dict_ne (κ := Str) encN (fun _ => rfl) _ (mkA_nodup _) fun p _ => ⟨by rw [encN, okD_tuple]; exact okN_strs 39 p.2, eqv_N p.2⟩
theorem bring_names (gs : List Grp) (own : Str) : (names gs).filter (fun nm => gs.any fun g => decide (g.1 = nm) && decide (g.2.2.2 = own)) = bringL gs own := setS_filter _ fun q => by
  rw [List.mem_map, List.mem_map]
  constructor
  · rintro ⟨g, hgm, rfl⟩
    have := List.mem_filter.mp hgm
    refine ⟨⟨g, this.1, rfl⟩, List.any_eq_true.mpr ⟨g, this.1, ?_⟩⟩
    simpa using this.2
  · rintro ⟨_, hb⟩
    obtain ⟨g, hgm, e⟩ := List.any_eq_true.mp hb
    rw [Bool.and_eq_true] at e
    exact ⟨g, List.mem_filter.mpr ⟨hgm, e.2⟩, by simpa using e.1⟩
end LW

namespace LW
open PySem PySem.Spec PyProof.Rows L2 PP
/-! sets of objects -/
abbrev Row := List Str
def stepW (rows : List Row) (o : Str) : List Row := rows ++ rows.map fun r => r ++ [o]
def rowsF (os : List Str) : List Row := os.foldl stepW [[]]
def keyR (r : Row) : PyData := .tuple [.int (r.length : Nat), encN r]
@[simp] theorem imm_key (r : Row) : immD (keyR r) = true := by simp [keyR]
@[simp] theorem immAll_key (rs : List Row) : immAll (rs.map keyR) = true := by induction rs <;> simp [*]
@[simp] theorem immAll_N (rs : List Row) : immAll (rs.map encN) = true := by induction rs <;> simp [*]
def unR (d : PyData) : Row := match d with
  | .tuple [_, .tuple xs] => xs.map unS
  | _ => []
@[simp] theorem unR_key (r : Row) : unR (keyR r) = r := by
  simp only [unR, keyR, encN, List.map_map]
  conv => rhs; rw [← List.map_id r]
  exact List.map_congr_left fun _ _ => rfl
theorem alk_rows (rs : List Row) : Alk (rs.map keyR) := Alk.map _ _ fun a b => by simp [keyR, encN, PySem.W.alike, PySem.W.alikeAll]
theorem sortOk_rows (rs : List Row) (h : rs.length ≤ 2000) : sortOk (rs.map keyR) = true := by
  have hz : (10000 : Nat) < sizeLine := by decide
  exact sortOk_T (alk_rows rs) (by
      rw [List.all_eq_true]
      intro x hx
      obtain ⟨q, hq, rfl⟩ := List.mem_map.mp hx
      simp [keyR, encN]) (by
      rw [List.all_eq_true]
      intro x hx
      obtain ⟨q, hq, rfl⟩ := List.mem_map.mp hx
      rfl) (by simp; omega)
def sortR (rs : List Row) : List Row := (sortD (rs.map keyR)).map unR
theorem sortR_eq (rs : List Row) : sortD (rs.map keyR) = (sortR rs).map keyR := by
  unfold sortR
  rw [List.map_map]
  conv => lhs; rw [← List.map_id (sortD (rs.map keyR))]
  apply List.map_congr_left
  intro d hd
  obtain ⟨r, _, rfl⟩ := List.mem_map.mp (mem_sortD.mp hd)
  simp
theorem sortR_perm (rs : List Row) : (sortR rs).Perm rs := by
  have := (sortD_perm (rs.map keyR)).map unR
  rw [List.map_map] at this
  have e : rs.map (unR ∘ keyR) = rs := by
    conv => rhs; rw [← List.map_id rs]
    exact List.map_congr_left fun r _ => by simp
  rw [e] at this
  exact this
theorem v_sorted_rows (rs : List Row) (h : rs.length ≤ 2000) : v_sorted [.list (rs.map keyR)] = some (.list ((sortR rs).map keyR), .fr) := by
  simp only [v_sorted, sortOk_rows rs h, if_true, sortR_eq]
theorem sortR_filter (rs : List Row) (p : Row → Bool) : sortR (rs.filter p) = (sortR rs).filter p := by
  have hpw : (((sortR rs).filter p).map keyR).Pairwise (fun a b => leD a b = true) := by
    have h1 := sortD_pw (rs.map keyR)
    rw [sortR_eq] at h1
    rw [List.pairwise_map] at h1 ⊢
    exact h1.filter p
  have h2 := sortD_eq (alk_rows (rs.filter p)) (((sortR_perm rs).symm.filter p).map keyR) hpw
  show (sortD ((rs.filter p).map keyR)).map unR = _
  rw [h2, List.map_map]
  conv => rhs; rw [← List.map_id ((sortR rs).filter p)]
  exact List.map_congr_left fun r _ => by simp
/-! what is left without them -/
def leftG (gs : List Grp) (r : Row) : List Grp := gs.filter fun g => !decide (g.2.2.2 ∈ r)
def clearB (gs : List Grp) (r : Row) : Bool := (twL (leftG gs r)).isEmpty
def restR (gs : List Grp) : Row := ((sortR (rowsF (objs gs))).find? (clearB gs)).getD (objs gs)
theorem full_row : ∀ (os : List Str) (rows : List Row) (pre : Row), pre ∈ rows → pre ++ os ∈ os.foldl stepW rows
  | [], rows, pre, h => by simpa using h
  | o :: os, rows, pre, h => by
    rw [List.foldl_cons]
    have := full_row os (stepW rows o) (pre ++ [o]) (List.mem_append_right _ (List.mem_map.mpr ⟨pre, h, rfl⟩))
    simpa using this
theorem clear_full (gs : List Grp) : clearB gs (objs gs) = true := by
  unfold clearB
  have hl : leftG gs (objs gs) = [] := by
    unfold leftG
    rw [List.filter_eq_nil_iff]
    intro g hg
    have : g.2.2.2 ∈ objs gs := objs_mem.mpr ⟨g, hg, rfl⟩
    simp [this]
  rw [hl]
  have : (twL []).length ≤ 0 := Nat.le_trans (List.length_filter_le ..) (names_len [])
  cases h : twL [] with
  | nil => rfl
  | cons x xs => rw [h] at this; simp at this
theorem rest_head (gs : List Grp) : ∃ rest, (sortR (rowsF (objs gs))).filter (clearB gs) = restR gs :: rest := by
  have hm : objs gs ∈ (sortR (rowsF (objs gs))).filter (clearB gs) := by
    rw [List.mem_filter]
    refine ⟨(sortR_perm _).mem_iff.mpr ?_, clear_full gs⟩
    have := full_row (objs gs) [[]] [] (List.mem_cons_self ..)
    simpa [rowsF] using this
  have hh := List.head?_filter (p := clearB gs) (l := sortR (rowsF (objs gs)))
  unfold restR
  rw [← hh]
  cases hf : (sortR (rowsF (objs gs))).filter (clearB gs) with
  | nil => rw [hf] at hm; cases hm
  | cons r rest => exact ⟨rest, rfl⟩
theorem rowsF_len : ∀ (os : List Str) (rows : List Row), (os.foldl stepW rows).length = rows.length * 2 ^ os.length
  | [], rows => by simp
  | o :: os, rows => by
    rw [List.foldl_cons, rowsF_len os]
    simp [stepW, Nat.pow_succ]
    rw [← Nat.mul_two, Nat.mul_assoc, Nat.mul_comm 2]
theorem rows_le (gs : List Grp) (hl : gs.length ≤ 10) : (rowsF (objs gs)).length ≤ 1024 := by
  unfold rowsF
  rw [rowsF_len]
  have h1 := objs_len gs
  have : 2 ^ (objs gs).length ≤ 2 ^ 10 := Nat.pow_le_pow_right (by decide) (by omega)
  simpa using this
def okW (rows : List Row) (m : Nat) : Prop := rows.length * 2 ^ m ≤ 1024 ∧ m ≤ 10 ∧ ∀ r, r ∈ rows → r.length + m ≤ 10
theorem okW_step {rows : List Row} {m : Nat} (o : Str) (h : okW rows (m + 1)) : okW (stepW rows o) m := by
  obtain ⟨h1, h2, h3⟩ := h
  refine ⟨?_, by omega, fun r hr => ?_⟩
  · unfold stepW
    rw [List.length_append, List.length_map, ← Nat.mul_two, Nat.mul_assoc, Nat.mul_comm 2, ← Nat.pow_succ]
    exact h1
  · rcases List.mem_append.mp hr with h | h
    · have := h3 r h; omega
    · obtain ⟨r', hr', rfl⟩ := List.mem_map.mp h
      have := h3 r' hr'
      simp; omega
theorem okW_len {rows : List Row} {m : Nat} (h : okW rows m) : rows.length ≤ 1024 := Nat.le_trans (Nat.le_mul_of_pos_right _ (Nat.pow_pos (by decide))) h.1
theorem okW_0 (gs : List Grp) (hl : gs.length ≤ 10) : okW [[]] (objs gs).length := by
  have h1 := objs_len gs
  refine ⟨?_, by omega, fun r hr => ?_⟩
  · have : 2 ^ (objs gs).length ≤ 2 ^ 10 := Nat.pow_le_pow_right (by decide) (by omega)
    simpa using this
  · rw [List.mem_singleton] at hr; subst hr; simp; omega
theorem okW_rows (gs : List Grp) (hl : gs.length ≤ 10) : ∀ r, r ∈ rowsF (objs gs) → r.length ≤ 10 := by
  have : ∀ (os : List Str) (rows : List Row), okW rows os.length → okW (os.foldl stepW rows) 0 := fun os => by
    induction os with
    | nil => intro rows h; exact h
    | cons o os ih => intro rows h; exact ih _ (okW_step o h)
  intro r hr
  have := (this (objs gs) [[]] (okW_0 gs hl)).2.2 r hr
  omega
theorem addLL (xs ys : List PyData) (h : xs.length + ys.length ≤ sizeLine) : binV .Add (.list xs) (.list ys) = some (.list (xs ++ ys), .fr) := by
  show (if xs.length + ys.length ≤ sizeLine then some (PyData.list (xs ++ ys), Fl.fr) else none) = _
  rw [if_pos h]
theorem in_N (xs : List Str) (w : Str) : PP.inV (.str w) (encN xs) = some (decide (w ∈ xs)) := in_strsT xs w
theorem eq_N (xs : List Str) : cmpV .Eq (encN xs) (.tuple []) = some xs.isEmpty := by
  rw [encN, cmpV_eqT (by rw [okD_tuple]; exact okN_strs 39 xs) (by simp)]
  cases xs <;> rfl
theorem len_N (xs : List Str) : v_len [encN xs] = some (.int xs.length, .sh) := by simp [encN]
theorem add_row (r : Row) (o : Str) (h : r.length ≤ 100) : binV .Add (encN r) (.tuple [.str o]) = some (encN (r ++ [o]), .sh) := by
  have hz : (10000 : Nat) < sizeLine := by decide
  rw [encN, binV_addT, if_pos (by simp; omega), encN]
  simp
theorem phi_fewest_rebuilt (n : Nat) (gs : List Grp) (hg : okGs gs) : phi tbl gls (n+4) F_fewest_rebuilt [encGs gs] = some (encN (restR gs), []) := by
  have hz : (10000 : Nat) < sizeLine := by decide
  have s0 : (0 : Nat) ≤ sizeLine := by decide
  have s1 : (1 : Nat) ≤ sizeLine := by decide
  have s2 : (2 : Nat) ≤ sizeLine := by decide
  have hl := hg.1
  have hol := objs_len gs
  have hrl := rows_le gs hl
  have hrr := okW_rows gs hl
  have hc := compE_f (Φ := phi tbl gls (n+3)) (gl := gls) (vs := [7]) (g := .nm 7) (e := e_fewest_rebuilt_5) (ρ := [.fz (encGs gs), .no, .no, .no, .no, .no, .no, .no]) encG (fun g => .str g.2.2.2) gs [] (by simp; omega) (fun g _ => ⟨[.fz (encGs gs), .no, .no, .no, .no, .no, .no, .fz (encG g)], .sh, by simp, by simp [e_fewest_rebuilt_5], by simp⟩)
  have he : gs.map (fun g => PyData.str g.2.2.2) = (gs.map (·.2.2.2)).map .str := by rw [List.map_map]; rfl
  rw [List.nil_append, he] at hc
  have h2 : phi tbl gls (n+3) 2 [.list ((gs.map (·.2.2.2)).map .str)] = some (encN (objs gs), []) := phi_set_of (n+2) _ (by simp; omega)
  have e1 := forE_foldN (Φ := phi tbl gls (n+3)) (gl := gls) (ios := []) (g := .nm 3) (b := b_fewest_rebuilt_4) (dead := [3]) (fun rows : List Row => [.fz (encGs gs), .fz (encN (objs gs)), .ow (.list (rows.map encN)), .no, .no, .no, .no, .no]) PyData.str stepW okW (objs gs) [[]] [.fz (encGs gs), .fz (encN (objs gs)), .ow (.list [.tuple []]), .no, .no, .no, .no, .no] rfl (okW_0 gs hl) (fun rows o m _ hi => by
    have hwl := okW_len hi
    have hc := compE_f (Φ := phi tbl gls (n+3)) (gl := gls) (vs := [5]) (g := .nm 5) (e := e_fewest_rebuilt_3) (ρ := [.fz (encGs gs), .fz (encN (objs gs)), .ow (.list (rows.map encN)), .fz (.str o), .no, .no, .no, .no]) encN (fun r => encN (r ++ [o])) rows [] (by simp; omega) (fun r hr => by
      have ha := add_row r o (by have := hi.2.2 r hr; omega)
      exact ⟨[.fz (encGs gs), .fz (encN (objs gs)), .ow (.list (rows.map encN)), .fz (.str o), .no, .fz (encN r), .no, .no], .sh, by simp, by simp [e_fewest_rebuilt_3, s1, ha], by simp⟩)
    have he : rows.map (fun r => encN (r ++ [o])) = (rows.map fun r => r ++ [o]).map encN := by rw [List.map_map]; rfl
    rw [List.nil_append, he] at hc
    have hadd : binV .Add (.list (rows.map encN)) (.list ((rows.map fun r => r ++ [o]).map encN)) = some (.list ((stepW rows o).map encN), .fr) := by
      rw [addLL _ _ (by simp; omega), ← List.map_append]; rfl
    exact ⟨by simp [b_fewest_rebuilt_4, als, alsO, alsI, alss, mods, modsO, modsI, modss, hc, hadd, -List.map_map], okW_step o hi⟩)
  change forE _ _ _ _ _ _ _ _ = some (.nx [.fz (encGs gs), .fz (encN (objs gs)), .ow (.list ((rowsF (objs gs)).map encN)), .no, .no, .no, .no, .no]) at e1
  have hc2 := compE_f (Φ := phi tbl gls (n+3)) (gl := gls) (vs := [5]) (g := .nm 5) (e := e_fewest_rebuilt_0) (ρ := [.fz (encGs gs), .fz (encN (objs gs)), .ow (.list ((rowsF (objs gs)).map encN)), .no, .no, .no, .no, .no]) encN keyR (rowsF (objs gs)) [] (by simp; omega) (fun r _ => ⟨[.fz (encGs gs), .fz (encN (objs gs)), .ow (.list ((rowsF (objs gs)).map encN)), .no, .no, .fz (encN r), .no, .no], .sh, by simp, by simp [e_fewest_rebuilt_0, len_N, keyR, s2], by simp⟩)
  rw [List.nil_append] at hc2
  have hso := v_sorted_rows (rowsF (objs gs)) (by omega)
  have hrt : restR gs = ((sortR (rowsF (objs gs))).find? (clearB gs)).getD (objs gs) := rfl
  have hsr : ∀ r, r ∈ sortR (rowsF (objs gs)) → r.length ≤ 10 := fun r hr => hrr r ((sortR_perm _).mem_iff.mp hr)
  rw [hrt]
  generalize rowsF (objs gs) = RW at *
  generalize sortR RW = SR at *
  have hturn : ∀ r, r ∈ SR → ∀ D2 : PyData, runs (phi tbl gls (n+3)) gls [] b_fewest_rebuilt_2 [.fz (encGs gs), .fz (encN (objs gs)), .fz D2, .no, .fz (.int (r.length : Nat)), .fz (encN r), .no, .no] = some (if clearB gs r then .rt (encN r) [.fz (encGs gs), .fz (encN (objs gs)), .fz D2, .no, .fz (.int (r.length : Nat)), .fz (encN r), .fz (encGs (leftG gs r)), .no] else .nx [.fz (encGs gs), .fz (encN (objs gs)), .fz D2, .no, .fz (.int (r.length : Nat)), .fz (encN r), .fz (encGs (leftG gs r)), .no]) := fun r hr D2 => by
    have hc := compE_pf (Φ := phi tbl gls (n+3)) (gl := gls) (vs := [7]) (g := .nm 7) (c := c_fewest_rebuilt_1) (e := .var 7) (ρ := [.fz (encGs gs), .fz (encN (objs gs)), .fz D2, .no, .fz (.int (r.length : Nat)), .fz (encN r), .no, .no]) encG (fun g => !decide (g.2.2.2 ∈ r)) encG gs [] (by simp; omega) (fun g _ => by
      have hin := in_N r g.2.2.2
      exact ⟨[.fz (encGs gs), .fz (encN (objs gs)), .fz D2, .no, .fz (.int (r.length : Nat)), .fz (encN r), .no, .fz (encG g)], .sh, by simp, by simp [c_fewest_rebuilt_1, hin], fun _ => by simp, by simp⟩)
    rw [List.nil_append] at hc
    change compE _ _ _ _ _ _ _ _ _ = some ((leftG gs r).map encG, _) at hc
    have hll : (leftG gs r).length ≤ gs.length := List.length_filter_le ..
    have h10 : phi tbl gls (n+3) 10 [encGs (leftG gs r)] = _ := phi_unlike_twins n (leftG gs r) (by omega)
    have heq := eq_N (twL (leftG gs r))
    change cmpV _ _ _ = some (clearB gs r) at heq
    unfold b_fewest_rebuilt_2
    cases hb : clearB gs r with
    | true => rw [hb] at heq; simp [als, alsO, alsI, alss, mods, modsO, modsI, modss, hc, tup_Gs, h10, heq, s0]
    | false => rw [hb] at heq; simp [als, alsO, alsI, alss, mods, modsO, modsI, modss, hc, tup_Gs, h10, heq, s0]
  have hfs := findSome_if (clearB gs) encN SR
  have e2 := forE_find (Φ := phi tbl gls (n+3)) (gl := gls) (ios := []) (g := .tp [.nm 4, .nm 5]) (b := b_fewest_rebuilt_2) (dead := [4, 5, 6]) [.fz (encGs gs), .fz (encN (objs gs)), .fz (.list (RW.map encN)), .no, .no, .no, .no, .no] keyR (fun r => if clearB gs r = true then some (encN r) else none) SR rfl (fun r hr hn => by
    have ht := hturn r hr (.list (RW.map encN))
    have : clearB gs r = false := by cases h : clearB gs r <;> simp [h] at hn ⊢
    rw [this] at ht
    simp [keyR, ht]) (fun r v hr hv => by
    have ht := hturn r hr (.list (RW.map encN))
    have : clearB gs r = true := by cases h : clearB gs r <;> simp [h] at hv ⊢
    rw [this] at ht hv
    simp at hv
    subst hv
    exact ⟨_, by simp [keyR, ht]; rfl⟩) [.fz (encGs gs), .fz (encN (objs gs)), .fz (.list (RW.map encN)), .no, .no, .no, .no, .no] rfl
  rw [hfs] at e2
  rw [phi_eq (D := D_fewest_rebuilt) (ρ := [.fz (encGs gs), .no, .no, .no, .no, .no, .no, .no]) rfl rfl rfl]
  show (runs _ _ _ b_fewest_rebuilt _).bind _ = _
  unfold b_fewest_rebuilt
  rw [runs_step (ρ1 := [.fz (encGs gs), .fz (encN (objs gs)), .no, .no, .no, .no, .no, .no]) (by simp [als, alsO, alsI, alss, mods, modsO, modsI, modss, D_fewest_rebuilt, hc, h2, -List.map_map])]
  rw [runs_step (ρ1 := [.fz (encGs gs), .fz (encN (objs gs)), .ow (.list [.tuple []]), .no, .no, .no, .no, .no]) (by simp [als, alsO, alsI, alss, mods, modsO, modsI, modss, D_fewest_rebuilt, s0, s1])]
  rw [runs_step (by
    rw [run_for, evIt_eq]
    simp [als, alsO, alsI, alss, mods, modsO, modsI, modss, D_fewest_rebuilt]
    exact e1)]
  cases hf : SR.find? (clearB gs) with
  | none =>
    rw [hf] at e2
    simp only [Option.map_none] at e2
    rw [runs_step (ρ1 := [.fz (encGs gs), .fz (encN (objs gs)), .fz (.list (RW.map encN)), .no, .no, .no, .no, .no]) (by
      rw [run_for, evIt_eq]
      simp [als, alsO, alsI, alss, mods, modsO, modsI, modss, hc2, hso]
      exact e2)]
    simp [als, alsO, alsI, alss, mods, modsO, modsI, modss, D_fewest_rebuilt]
  | some r =>
    rw [hf] at e2
    simp only [Option.map_some] at e2
    obtain ⟨ρ', e2⟩ := e2
    rw [runs_rt (d := encN r) (ρ1 := ρ') (by
      rw [run_for, evIt_eq]
      simp [als, alsO, alsI, alss, mods, modsO, modsI, modss, hc2, hso]
      exact e2)]
    simp [D_fewest_rebuilt]
end LW

namespace LW
open PySem PySem.Spec PyProof.Rows L2 PP
/-! what are groups -/
def signs (s : Str) : List Str := s.cps.toList.map fun c => ⟨#[c]⟩
theorem items_S (s : Str) : itemsD (.str s) = some ((signs s).map .str) := by
  unfold signs
  rw [List.map_map]; rfl
def LET : Str := match gls.getD 0 .none with
  | .str s => s
  | _ => Str.ofString ""
def okS (s : Str) : Bool := (signs s).all (fun c => PP.inV (.str c) (.str LET) == some true) && decide ((signs s).length ≤ 20) && decide ((signs s).length = s.length) && decide (s ≠ Str.ofString "") && decide (signs s ≠ [])
theorem okS_nms : ∀ s, s ∈ nms → okS s = true := by decide +kernel
theorem letters : ∃ L : Str, gls[0]? = some (.str L) ∧ ∀ s, s ∈ nms → (∀ c, c ∈ signs s → PP.inV (.str c) (.str L) = some true) ∧ (signs s).length ≤ 20 ∧ s ≠ Str.ofString "" ∧ ∃ c cs, signs s = c :: cs ∧ ixV (.str s) (.int 0) = some (.str c) := by
  refine ⟨LET, rfl, fun s hs => ?_⟩
  have hz : (10000 : Nat) < sizeLine := by decide
  have h := okS_nms s hs
  unfold okS at h
  simp only [Bool.and_eq_true, List.all_eq_true, decide_eq_true_eq, beq_iff_eq] at h
  obtain ⟨⟨⟨⟨h1, h2⟩, h3⟩, h4⟩, h5⟩ := h
  refine ⟨h1, h2, h4, ?_⟩
  cases hc : signs s with
  | nil => exact absurd hc h5
  | cons c cs =>
    refine ⟨c, cs, rfl, ?_⟩
    have hl : s.length ≤ sizeLine := by omega
    have hx : ixV (.str s) (.int 0) = (atI s.cps.toList 0).map fun c => .str ⟨#[c]⟩ := by
      show (if s.length ≤ sizeLine then _ else none) = _
      rw [if_pos hl]
    rw [hx]
    unfold signs at hc
    cases hq : s.cps.toList with
    | nil => rw [hq] at hc; cases hc
    | cons q qs =>
      rw [hq] at hc
      simp only [List.map_cons, List.cons.injEq] at hc
      rw [atI_0, ← hc.1]
      rfl
theorem phi_is_name (n : Nat) (s : Str) (h : s ∈ nms) : phi tbl gls (n+1) F_is_name [.str s] = some (.bool true, []) := by
  have hz : (10000 : Nat) < sizeLine := by decide
  obtain ⟨L, hg, hL⟩ := letters
  obtain ⟨h1, h2, h3, c, cs, h4, h5⟩ := hL s h
  have h6 := h1 c (by rw [h4]; exact List.mem_cons_self ..)
  have h7 : decide (s = Str.ofString "") = false := by simpa using h3
  have hit := items_S s
  have hc := compE_f (Φ := phi tbl gls n) (gl := gls) (vs := [1]) (g := .nm 1) (e := e_is_name_0) (ρ := [.fz (.str s), .no]) PyData.str (fun _ => .bool true) (signs s) [] (by simp; omega) (fun d hd => by
    have := h1 d hd
    exact ⟨[.fz (.str s), .fz (.str d)], .sh, by simp, by simp [e_is_name_0, hg, this], by simp⟩)
  rw [List.nil_append] at hc
  have hv := v_all_m (fun _ : Str => true) (signs s)
  have hall : (signs s).all (fun _ => true) = true := by simp
  rw [hall] at hv
  rw [phi_eq (D := D_is_name) (ρ := [.fz (.str s), .no]) rfl rfl rfl]
  show (runs _ _ _ b_is_name _).bind _ = _
  unfold b_is_name
  simp [als, alsO, alsI, alss, mods, modsO, modsI, modss, D_is_name, isT, hit, h5, h6, h7, hg, hc, hv, -List.map_const_fun, -List.map_const]
theorem phi_is_name_0 (n : Nat) : phi tbl gls (n+1) F_is_name [.str (Str.ofString "")] = some (.bool false, []) := by
  rw [phi_eq (D := D_is_name) (ρ := [.fz (.str (Str.ofString "")), .no]) rfl rfl rfl]
  show (runs _ _ _ b_is_name _).bind _ = _
  unfold b_is_name
  simp [als, alsO, alsI, alss, mods, modsO, modsI, modss, D_is_name, isT]
theorem phi_is_name_no (n : Nat) (d : PyData) (h : ∀ s, d ≠ .str s) : phi tbl gls (n+1) F_is_name [d] = some (.bool false, []) := by
  rw [phi_eq (D := D_is_name) (ρ := [.fz (d), .no]) rfl rfl rfl]
  show (runs _ _ _ b_is_name _).bind _ = _
  unfold b_is_name
  cases d with
  | str s => exact absurd rfl (h s)
  | _ => simp [als, alsO, alsI, alss, mods, modsO, modsI, modss, D_is_name, isT]
def isT4 : PyData → Bool
  | .tuple [_, _, _, _] => true
  | _ => false
theorem phi_is_tuple_of (n : Nat) (d : PyData) : phi tbl gls (n+1) F_is_tuple_of [d, .int 4] = some (.bool (isT4 d), []) := by
  rw [phi_eq (D := D_is_tuple_of) (ρ := [.fz d, .fz (.int 4)]) rfl rfl rfl]
  show (runs _ _ _ b_is_tuple_of _).bind _ = _
  unfold b_is_tuple_of
  cases d with
  | tuple xs =>
    match xs with
    | [] => simp [als, alsO, alsI, alss, mods, modsO, modsI, modss, isT, D_is_tuple_of, isT4]
    | [_] => simp [als, alsO, alsI, alss, mods, modsO, modsI, modss, isT, D_is_tuple_of, isT4]
    | [_, _] => simp [als, alsO, alsI, alss, mods, modsO, modsI, modss, isT, D_is_tuple_of, isT4]
    | [_, _, _] => simp [als, alsO, alsI, alss, mods, modsO, modsI, modss, isT, D_is_tuple_of, isT4]
    | [_, _, _, _] => simp [als, alsO, alsI, alss, mods, modsO, modsI, modss, isT, D_is_tuple_of, isT4]
    | _ :: _ :: _ :: _ :: _ :: xs =>
      have : ¬ (((xs.length + 1 + 1 + 1 + 1 + 1 : Nat) : Int) = 4) := by omega
      simp [als, alsO, alsI, alss, mods, modsO, modsI, modss, isT, D_is_tuple_of, isT4, this]
      omega
  | _ => simp [als, alsO, alsI, alss, mods, modsO, modsI, modss, isT, D_is_tuple_of, isT4]
theorem gl2 : gls[2]? = some (encN ways5) := rfl
theorem inN (xs : List Str) (w : Str) : PP.inV (.str w) (encN xs) = some (decide (w ∈ xs)) := in_strsT xs w
theorem turn_grp (n : Nat) (T : PyData) (g : Grp) (h : okG g) : turnE (phi tbl gls (n+2)) gls [] (.tp [.nm 1, .nm 2, .nm 3, .nm 4]) b_are_groups_0 [1, 2, 3, 4] (encG g) [.fz T, .no, .no, .no, .no, .no] = some (.nx [.fz T, .no, .no, .no, .no, .no]) := by
  obtain ⟨h1, h2, -, h4⟩ := h
  have f1 : phi tbl gls (n+2) 1 [.str g.1] = _ := phi_is_name (n+1) g.1 h1
  have f4 : phi tbl gls (n+2) 1 [.str g.2.2.2] = _ := phi_is_name (n+1) g.2.2.2 h4
  have i2 := inN ways5 g.2.1
  rw [decide_eq_true h2] at i2
  have hg := gl2
  simp [b_are_groups_0, als, alsO, alsI, alss, mods, modsO, modsI, modss, encG, f1, f4, isT, hg, i2]
theorem all_T4 (xs : List PyData) (n : Nat) (hl : xs.length ≤ 100) : compE (phi tbl gls (n+1)) gls [5] (.nm 5) (.bl true) e_are_groups_1 xs [] [.fz (.tuple xs), .no, .no, .no, .no, .no] = some (xs.map fun d => .bool (isT4 d), [.fz (.tuple xs), .no, .no, .no, .no, .no]) := by
  have hz : (10000 : Nat) < sizeLine := by decide
  have c1 := compE_f (Φ := phi tbl gls (n+1)) (gl := gls) (vs := [5]) (g := .nm 5) (e := e_are_groups_1) (ρ := [.fz (.tuple xs), .no, .no, .no, .no, .no]) (fun d : PyData => d) (fun d => .bool (isT4 d)) xs [] (by simp; omega) (fun d hd => ⟨[.fz (.tuple xs), .no, .no, .no, .no, .fz d], .sh, by simp, by
    have : phi tbl gls (n+1) 0 [d, .int 4] = _ := phi_is_tuple_of n d
    simp [e_are_groups_1, this], by simp⟩)
  rw [List.map_id', List.nil_append] at c1
  exact c1
theorem phi_are_groups_no (n : Nat) (d : PyData) (h : ∀ xs, d ≠ .tuple xs) : phi tbl gls (n+3) F_are_groups [d] = some (.bool false, []) := by
  rw [phi_eq (D := D_are_groups) (ρ := [.fz (d), .no, .no, .no, .no, .no]) rfl rfl rfl]
  show (runs _ _ _ b_are_groups _).bind _ = _
  unfold b_are_groups
  cases d with
  | tuple xs => exact absurd rfl (h xs)
  | _ => simp [als, alsO, alsI, alss, mods, modsO, modsI, modss, isT, D_are_groups]
theorem phi_are_groups (n : Nat) (gs : List Grp) (h : okGs gs) : phi tbl gls (n+3) F_are_groups [encGs gs] = some (.bool true, []) := by
  have hl := h.1
  have c1 := all_T4 (gs.map encG) (n+1) (by simp; omega)
  have v1 := v_all_m isT4 (gs.map encG)
  have hall : (gs.map encG).all isT4 = true := by
    rw [List.all_eq_true]
    intro x hx
    obtain ⟨a, _, rfl⟩ := List.mem_map.mp hx
    rfl
  rw [hall] at v1
  have e := forE_foldN (Φ := phi tbl gls (n+2)) (gl := gls) (ios := []) (g := .tp [.nm 1, .nm 2, .nm 3, .nm 4]) (b := b_are_groups_0) (dead := [1, 2, 3, 4]) (fun _ : Unit => [.fz (encGs gs), .no, .no, .no, .no, .no]) encG (fun s _ => s) (fun _ _ => True) gs () [.fz (encGs gs), .no, .no, .no, .no, .no] rfl trivial (fun s a m ha _ => ⟨turn_grp n _ a (h.2 a ha), trivial⟩)
  change compE _ _ _ _ _ _ _ _ [.fz (encGs gs), .no, .no, .no, .no, .no] = some (_, [.fz (encGs gs), .no, .no, .no, .no, .no]) at c1
  have ht : isT "tuple" (encGs gs) = some true := rfl
  rw [phi_eq (D := D_are_groups) (ρ := [.fz (encGs gs), .no, .no, .no, .no, .no]) rfl rfl rfl]
  show (runs _ _ _ b_are_groups _).bind _ = _
  unfold b_are_groups
  rw [runs_step (ρ1 := [.fz (encGs gs), .no, .no, .no, .no, .no]) (by simp [als, alsO, alsI, alss, mods, modsO, modsI, modss, D_are_groups, ht, c1, v1, -List.map_map])]
  rw [runs_step (by
    rw [run_for, evIt_eq]
    simp [als, alsO, alsI, alss, mods, modsO, modsI, modss, D_are_groups]
    exact e)]
  simp [als, alsO, alsI, alss, mods, modsO, modsI, modss, D_are_groups]
def gsBad (gs : List Grp) (b : PyData) : PyData := .tuple (gs.map encG ++ [b])
theorem phi_are_groups_4 (n : Nat) (gs : List Grp) (h : okGs gs) (b : PyData) (hb : isT4 b = false) : phi tbl gls (n+3) F_are_groups [gsBad gs b] = some (.bool false, []) := by
  have hl := h.1
  have c1 := all_T4 (gs.map encG ++ [b]) (n+1) (by simp; omega)
  have v1 := v_all_m isT4 (gs.map encG ++ [b])
  have hall : (gs.map encG ++ [b]).all isT4 = false := by
    rw [List.all_append]; simp [hb]
  rw [hall] at v1
  generalize hX : gs.map encG ++ [b] = X at *
  have ht : isT "tuple" (.tuple X) = some true := rfl
  rw [gsBad, hX]
  rw [phi_eq (D := D_are_groups) (ρ := [.fz (.tuple X), .no, .no, .no, .no, .no]) rfl rfl rfl]
  show (runs _ _ _ b_are_groups _).bind _ = _
  unfold b_are_groups
  simp [als, alsO, alsI, alss, mods, modsO, modsI, modss, D_are_groups, ht, c1, v1, -List.map_map]
theorem phi_are_groups_x (n : Nat) (gs : List Grp) (h : okGs gs) (b : PyData) (h4 : isT4 b = true) (ok : PyData → Bool) (hok : ∀ g, g ∈ gs → ok (encG g) = true) (hb : ok b = false) (ht : ∀ T, ∃ ρ', turnE (phi tbl gls (n+2)) gls [] (.tp [.nm 1, .nm 2, .nm 3, .nm 4]) b_are_groups_0 [1, 2, 3, 4] b [.fz T, .no, .no, .no, .no, .no] = some (.rt (.bool false) ρ')) : phi tbl gls (n+3) F_are_groups [gsBad gs b] = some (.bool false, []) := by
  have hl := h.1
  have c1 := all_T4 (gs.map encG ++ [b]) (n+1) (by simp; omega)
  have v1 := v_all_m isT4 (gs.map encG ++ [b])
  have hall : (gs.map encG ++ [b]).all isT4 = true := by
    rw [List.all_eq_true]
    intro x hx
    rcases List.mem_append.mp hx with hx | hx
    · obtain ⟨a, _, rfl⟩ := List.mem_map.mp hx
      rfl
    · rw [List.mem_singleton] at hx; rw [hx]; exact h4
  rw [hall] at v1
  have hX : ∀ x, x ∈ gs.map encG ++ [b] → (∃ a, a ∈ gs ∧ x = encG a) ∨ x = b := fun x hx => by
    rcases List.mem_append.mp hx with hx | hx
    · obtain ⟨a, ha, rfl⟩ := List.mem_map.mp hx
      exact .inl ⟨a, ha, rfl⟩
    · exact .inr (List.mem_singleton.mp hx)
  have hbx : b ∈ gs.map encG ++ [b] := by simp
  have ha : gsBad gs b = .tuple (gs.map encG ++ [b]) := rfl
  generalize gs.map encG ++ [b] = X at *
  have e := forE_find (Φ := phi tbl gls (n+2)) (gl := gls) (ios := []) (g := .tp [.nm 1, .nm 2, .nm 3, .nm 4]) (b := b_are_groups_0) (dead := [1, 2, 3, 4]) [.fz (.tuple X), .no, .no, .no, .no, .no] (fun d : PyData => d) (fun d => if ok d then none else some (.bool false)) X rfl (fun x hx hn => by
    rcases hX x hx with ⟨a, ha, rfl⟩ | rfl
    · exact turn_grp n _ a (h.2 a ha)
    · simp [hb] at hn) (fun x v hx hv => by
    rcases hX x hx with ⟨a, ha, rfl⟩ | rfl
    · rw [hok a ha] at hv; simp at hv
    · simp [hb] at hv; subst hv; exact ht _) [.fz (.tuple X), .no, .no, .no, .no, .no] rfl
  rw [List.map_id'] at e
  have hf : X.findSome? (fun d => if ok d then none else some (PyData.bool false)) = some (.bool false) := by
    cases hq : X.findSome? (fun d => if ok d then none else some (PyData.bool false)) with
    | none =>
      have := List.findSome?_eq_none_iff.mp hq b hbx
      simp [hb] at this
    | some v =>
      obtain ⟨x, _, hx⟩ := List.exists_of_findSome?_eq_some hq
      split at hx
      · cases hx
      · exact congrArg some (Option.some.inj hx).symm
  rw [hf] at e
  obtain ⟨ρ', e⟩ := e
  have hi : isT "tuple" (.tuple X) = some true := rfl
  rw [ha]
  rw [phi_eq (D := D_are_groups) (ρ := [.fz (.tuple X), .no, .no, .no, .no, .no]) rfl rfl rfl]
  show (runs _ _ _ b_are_groups _).bind _ = _
  unfold b_are_groups
  rw [runs_step (ρ1 := [.fz (.tuple X), .no, .no, .no, .no, .no]) (by simp [als, alsO, alsI, alss, mods, modsO, modsI, modss, D_are_groups, hi, c1, v1, -List.map_map])]
  rw [runs_rt (d := .bool false) (ρ1 := ρ') (by simp [als, alsO, alsI, alss, mods, modsO, modsI, modss, D_are_groups]; exact e)]
  simp [D_are_groups]
def okE : PyData → Bool
  | .tuple [.str a, .str b, .str _, .str d] => decide (a ∈ nms) && decide (b ∈ ways5) && decide (d ∈ nms)
  | _ => false
theorem okE_enc {g : Grp} (h : okG g) : okE (encG g) = true := by
  simp [okE, encG, h.1, h.2.1, h.2.2.2]
def sF : Str := Str.ofString "f"
def sX : Str := Str.ofString "x"
def sOne : Str := Str.ofString "one"
def sAny : Str := Str.ofString "any"
def b1 : PyData := .tuple [.str (Str.ofString "f"), .str (Str.ofString "some"), .str (Str.ofString "x"), .str (Str.ofString "one")]
def b2 : PyData := .tuple [.str (Str.ofString "f"), .str (Str.ofString "any"), .int 1, .str (Str.ofString "one")]
def b3 : PyData := .tuple [.str (Str.ofString "f"), .str (Str.ofString "any"), .str (Str.ofString "x")]
def b4 : PyData := .tuple [.str (Str.ofString ""), .str (Str.ofString "any"), .str (Str.ofString "x"), .str (Str.ofString "one")]
def b5 : PyData := .tuple [.str (Str.ofString "f"), .str (Str.ofString "any"), .str (Str.ofString "x"), .none]
def b6 : PyData := .tuple [.int 1, .str (Str.ofString "any"), .str (Str.ofString "x"), .str (Str.ofString "one")]
def bads (gs : List Grp) : List PyData := [.list (gs.map encG), .none, gsBad gs b1, gsBad gs b2, gsBad gs b3, gsBad gs b4, gsBad gs b5, gsBad gs b6]
theorem bads_no (n : Nat) (gs : List Grp) (h : okGs gs) : ∀ d, d ∈ bads gs → phi tbl gls (n+3) 3 [d] = some (.bool false, []) := by
  have nf : phi tbl gls (n+2) 1 [.str (Str.ofString "f")] = _ := phi_is_name (n+1) (Str.ofString "f") (by simp [nms])
  have n0 : phi tbl gls (n+2) 1 [.str (Str.ofString "")] = _ := phi_is_name_0 (n+1)
  have nn : phi tbl gls (n+2) 1 [.none] = _ := phi_is_name_no (n+1) .none nofun
  have ni : phi tbl gls (n+2) 1 [.int 1] = _ := phi_is_name_no (n+1) (.int 1) nofun
  have hg := gl2
  have i1 : PP.inV (.str (Str.ofString "some")) (encN ways5) = some false := by rw [inN]; congr 1
  have i2 : PP.inV (.str (Str.ofString "any")) (encN ways5) = some true := by rw [inN]; congr 1
  have hok : ∀ g, g ∈ gs → okE (encG g) = true := fun g hg => okE_enc (h.2 g hg)
  intro d hd
  simp only [bads, List.mem_cons, List.not_mem_nil, or_false] at hd
  rcases hd with rfl | rfl | rfl | rfl | rfl | rfl | rfl | rfl
  · exact phi_are_groups_no n _ nofun
  · exact phi_are_groups_no n _ nofun
  · exact phi_are_groups_x n gs h b1 rfl okE hok (by decide) fun T => ⟨_, by simp [b_are_groups_0, als, alsO, alsI, alss, mods, modsO, modsI, modss, b1, nf, isT, hg, i1]; rfl⟩
  · exact phi_are_groups_x n gs h b2 rfl okE hok (by decide) fun T => ⟨_, by simp [b_are_groups_0, als, alsO, alsI, alss, mods, modsO, modsI, modss, b2, nf, isT, hg, i2]; rfl⟩
  · exact phi_are_groups_4 n gs h b3 rfl
  · exact phi_are_groups_x n gs h b4 rfl okE hok (by decide) fun T => ⟨_, by simp [b_are_groups_0, als, alsO, alsI, alss, mods, modsO, modsI, modss, b4, n0, isT]; rfl⟩
  · exact phi_are_groups_x n gs h b5 rfl okE hok (by decide) fun T => ⟨_, by simp [b_are_groups_0, als, alsO, alsI, alss, mods, modsO, modsI, modss, b5, nf, nn, isT, hg, i2]; rfl⟩
  · exact phi_are_groups_x n gs h b6 rfl okE hok (by decide) fun T => ⟨_, by simp [b_are_groups_0, als, alsO, alsI, alss, mods, modsO, modsI, modss, b6, ni, isT]; rfl⟩
theorem loop_bad (n : Nat) (gs : List Grp) (h : okGs gs) (a0 a1 a2 a3 a4 a5 a6 a7 a8 a9 a10 a11 a12 a13 a14 a15 a17 a18 a19 a20 a21 a22 a23 a24 a25 : Sl) : forE (phi tbl gls (n+3)) gls [] (.nm 16) b_law_0 [16] (bads gs) [a0, a1, a2, a3, a4, a5, a6, a7, a8, a9, a10, a11, a12, a13, a14, a15, .no, a17, a18, a19, a20, a21, a22, a23, a24, a25] = some (.nx [a0, a1, a2, a3, a4, a5, a6, a7, a8, a9, a10, a11, a12, a13, a14, a15, .no, a17, a18, a19, a20, a21, a22, a23, a24, a25]) := by
  have ha : phi tbl gls (n+3) 21 [.bool false, .bool false] = _ := phi_alike 0 (n+2) (.bool false) (by simp)
  have e := forE_foldN (Φ := phi tbl gls (n+3)) (gl := gls) (ios := []) (g := .nm 16) (b := b_law_0) (dead := [16]) (fun _ : Unit => [a0, a1, a2, a3, a4, a5, a6, a7, a8, a9, a10, a11, a12, a13, a14, a15, .no, a17, a18, a19, a20, a21, a22, a23, a24, a25]) (fun d : PyData => d) (fun s _ => s) (fun _ _ => True) (bads gs) () [a0, a1, a2, a3, a4, a5, a6, a7, a8, a9, a10, a11, a12, a13, a14, a15, .no, a17, a18, a19, a20, a21, a22, a23, a24, a25] rfl trivial (fun s d m hd _ => ⟨by
    have hf := bads_no n gs h d hd
    simp [b_law_0, als, alsO, alsI, alss, mods, modsO, modsI, modss, hf, ha], trivial⟩)
  rw [List.map_id'] at e
  exact e
/-! draws -/
abbrev wS (ms : List Int) (k : Int) : PyData := wSt ms [] k
theorem csOk_0 : csOk [] := by unfold csOk; simp
theorem phi__law_next (n : Nat) (ms : List Int) (hm : ∀ z, z ∈ ms → 0 ≤ z) (k : Int) (hk : 0 ≤ k) (many : Int) (h0 : 0 < many) : ∃ v, 0 ≤ v ∧ v < many ∧ phi tbl gls (n+1) 19 [wS ms k, .int many] = some (.int v, [wS ms (k + 1)]) := by
  obtain ⟨v, v0, v1, e⟩ := nextR (Φ := phi tbl gls n) (gl := gls) ms [] csOk_0 hm k hk many h0
  refine ⟨v, v0, v1, ?_⟩
  rw [phi_eq (D := D__law_next) (ρ := [.ow (wS ms k), .fz (.int many)]) rfl rfl rfl]
  exact e
theorem phi__law_pick (n : Nat) (ms : List Int) (hm : ∀ z, z ∈ ms → 0 ≤ z) (k : Int) (hk : 0 ≤ k) (rows : List PyData) (h : rows ≠ []) : ∃ x, x ∈ rows ∧ phi tbl gls (n+2) 20 [wS ms k, .list rows] = some (x, [wS ms (k + 1)]) := by
  obtain ⟨v, v0, v1, e⟩ := phi__law_next n ms hm k hk rows.length (by have := List.length_pos_iff.mpr h; omega)
  obtain ⟨x, hx, e2⟩ := pickR (Φ := phi tbl gls (n+1)) (gl := gls) (f := 19) (wS ms k) (wS ms (k+1)) rows v v0 v1 e (.list rows) (.inl rfl)
  refine ⟨x, hx, ?_⟩
  rw [phi_eq (D := D__law_pick) (ρ := [.ow (wS ms k), .fz (.list rows)]) rfl rfl rfl]
  exact e2
theorem pick_S (n : Nat) (ms : List Int) (hm : ∀ z, z ∈ ms → 0 ≤ z) (k : Int) (hk : 0 ≤ k) (xs : List Str) (h : xs ≠ []) : ∃ s, s ∈ xs ∧ phi tbl gls (n+2) 20 [wS ms k, .list (xs.map .str)] = some (.str s, [wS ms (k + 1)]) := by
  obtain ⟨d, hd, e⟩ := phi__law_pick n ms hm k hk (xs.map .str) (by simpa using h)
  obtain ⟨s, hs, rfl⟩ := List.mem_map.mp hd
  exact ⟨s, hs, e⟩
def wy1 : List Str := [Str.ofString "any", Str.ofString "any", Str.ofString "same"]
def wy2 : List Str := [Str.ofString "any", Str.ofString "samesize", Str.ofString "same", Str.ofString "largest", Str.ofString "none"]
def wy3 : List Str := [Str.ofString "any", Str.ofString "largest"]
def okWy (ws : List Str) : Prop := ws ≠ [] ∧ ∀ w, w ∈ ws → w ∈ ways5
theorem pick_wy (n : Nat) (ms : List Int) (hm : ∀ z, z ∈ ms → 0 ≤ z) (k : Int) (hk : 0 ≤ k) : ∃ ws, okWy ws ∧ phi tbl gls (n+2) 20 [wS ms k, .list [.list (wy1.map .str), .list (wy2.map .str), .list (wy3.map .str)]] = some (.list (ws.map .str), [wS ms (k + 1)]) := by
  obtain ⟨d, hd, e⟩ := phi__law_pick n ms hm k hk [.list (wy1.map .str), .list (wy2.map .str), .list (wy3.map .str)] (by simp)
  simp only [List.mem_cons, List.not_mem_nil, or_false] at hd
  rcases hd with rfl | rfl | rfl
  · exact ⟨wy1, ⟨by simp [wy1], by decide⟩, e⟩
  · exact ⟨wy2, ⟨by simp [wy2], by decide⟩, e⟩
  · exact ⟨wy3, ⟨by simp [wy3], by decide⟩, e⟩
def drN : List Str := [Str.ofString "f", Str.ofString "g", Str.ofString "h"]
def drD : List Str := [Str.ofString "", Str.ofString "x", Str.ofString "x", Str.ofString "y", Str.ofString "xy", Str.ofString "xyz"]
def drO : List Str := [Str.ofString "one", Str.ofString "two", Str.ofString "three"]
theorem comp_groups (n : Nat) (ms : List Int) (hm : ∀ z, z ∈ ms → 0 ≤ z) (k : Int) (hk : 0 ≤ k) (ws : List Str) (hw : okWy ws) (m : Nat) (h8 : m ≤ 10) (x3 : Sl) (h3 : x3 = .ow (.list (ws.map .str)) ∨ x3 = .fz (.list (ws.map .str))) (a0 a2 a4 a5 a6 a7 a8 a9 a11 a12 a13 a14 a15 a16 a17 a18 a19 a20 a21 a22 a23 a24 a25 : Sl) : ∃ (gs : List Grp) (k' : Int), 0 ≤ k' ∧ okGs gs ∧ compE (phi tbl gls (n+2)) gls [10] (.nm 10) (.bl true) e_law_31 (iidx 0 m) [] [a0, .ow (wS ms k), a2, x3, a4, a5, a6, a7, a8, a9, .no, a11, a12, a13, a14, a15, a16, a17, a18, a19, a20, a21, a22, a23, a24, a25] = some (gs.map encG, [a0, .ow (wS ms k'), a2, x3, a4, a5, a6, a7, a8, a9, .no, a11, a12, a13, a14, a15, a16, a17, a18, a19, a20, a21, a22, a23, a24, a25]) := by
  have hz : (10000 : Nat) < sizeLine := by decide
  have s3 : (3 : Nat) ≤ sizeLine := by decide
  have s4 : (4 : Nat) ≤ sizeLine := by decide
  have s6 : (6 : Nat) ≤ sizeLine := by decide
  obtain ⟨gs, ρ', h1, ⟨k', hk', rfl⟩, hl, h4⟩ := compXr (Φ := phi tbl gls (n+2)) (gl := gls) (vs := [10]) (g := .nm 10) (e := e_law_31) (fun j : Nat => .int (0 + (j : Nat))) encG (fun ρ => ∃ k', 0 ≤ k' ∧ ρ = [a0, .ow (wS ms k'), a2, x3, a4, a5, a6, a7, a8, a9, .no, a11, a12, a13, a14, a15, a16, a17, a18, a19, a20, a21, a22, a23, a24, a25]) (fun _ g => okG g) (List.range m) [] [a0, .ow (wS ms k), a2, x3, a4, a5, a6, a7, a8, a9, .no, a11, a12, a13, a14, a15, a16, a17, a18, a19, a20, a21, a22, a23, a24, a25] ⟨_, hk, rfl⟩ (by
    rintro ρ d ⟨k', hk', rfl⟩ hd
    obtain ⟨a, ha, e1⟩ := pick_S n ms hm k' hk' drN (by simp [drN])
    obtain ⟨w, hw1, e2⟩ := pick_S n ms hm (k'+1) (by omega) ws hw.1
    obtain ⟨b, hb, e3⟩ := pick_S n ms hm (k'+1+1) (by omega) drD (by simp [drD])
    obtain ⟨o, ho, e4⟩ := pick_S n ms hm (k'+1+1+1) (by omega) drO (by simp [drO])
    have q1 : okG (a, w, b, o) := ⟨(show ∀ a, a ∈ drN → a ∈ nms by decide) a ha, hw.2 w hw1, (show ∀ b, b ∈ drD → b.length ≤ 10 by decide) b hb, (show ∀ o, o ∈ drO → o ∈ nms by decide) o ho⟩
    change phi tbl gls (n+2) 20 [_, .list [.str (Str.ofString "f"), .str (Str.ofString "g"), .str (Str.ofString "h")]] = _ at e1
    change phi tbl gls (n+2) 20 [_, .list [.str (Str.ofString ""), .str (Str.ofString "x"), .str (Str.ofString "x"), .str (Str.ofString "y"), .str (Str.ofString "xy"), .str (Str.ofString "xyz")]] = _ at e3
    change phi tbl gls (n+2) 20 [_, .list [.str (Str.ofString "one"), .str (Str.ofString "two"), .str (Str.ofString "three")]] = _ at e4
    exact ⟨[a0, .ow (wS ms k'), a2, x3, a4, a5, a6, a7, a8, a9, .fz (.int (d : Nat)), a11, a12, a13, a14, a15, a16, a17, a18, a19, a20, a21, a22, a23, a24, a25], (a, w, b, o), .sh, [a0, .ow (wS ms (k'+1+1+1+1)), a2, x3, a4, a5, a6, a7, a8, a9, .fz (.int (d : Nat)), a11, a12, a13, a14, a15, a16, a17, a18, a19, a20, a21, a22, a23, a24, a25], by simp, by rcases h3 with rfl | rfl <;> simp [e_law_31, e1, e2, e3, e4, s3, s4, s6, encG], q1, k'+1+1+1+1, by omega, by simp⟩) (by simp; omega)
  refine ⟨gs, k', hk', ⟨by simp at hl; omega, fun g hg => ?_⟩, h1⟩
  obtain ⟨x, hx, hp⟩ := zip_right hl hg
  exact h4 _ hp
end LW

namespace LW
open PySem PySem.Spec PyProof.Rows L2 PP
/-! the law's own rows -/
theorem comp_nmd (Φ : Nat → List PyData → Option (PyData × List PyData)) (gs : List Grp) (hl : gs.length ≤ 50) (a0 a1 a2 a3 a4 a5 a6 a7 a8 a9 a10 a11 a12 a13 a14 a15 a16 a17 a19 a20 a21 a22 a23 a24 a25 : Sl) : compE Φ gls [18] (.nm 18) (.bl true) e_law_29 (gs.map encG) [] [a0, a1, a2, a3, a4, a5, a6, a7, a8, a9, a10, a11, a12, a13, a14, a15, a16, a17, .no, a19, a20, a21, a22, a23, a24, a25] = some (((gs.map (·.1)).map fun x => (x, true)).map (fun p : Str × Bool => .tuple [.str p.1, .bool p.2]), [a0, a1, a2, a3, a4, a5, a6, a7, a8, a9, a10, a11, a12, a13, a14, a15, a16, a17, .no, a19, a20, a21, a22, a23, a24, a25]) := by
  have hz : (10000 : Nat) < sizeLine := by decide
  have s2 : (2 : Nat) ≤ sizeLine := by decide
  have hc := compE_f (Φ := Φ) (gl := gls) (vs := [18]) (g := .nm 18) (e := e_law_29) (ρ := [a0, a1, a2, a3, a4, a5, a6, a7, a8, a9, a10, a11, a12, a13, a14, a15, a16, a17, .no, a19, a20, a21, a22, a23, a24, a25]) encG (fun a => .tuple [.str a.1, .bool true]) gs [] (by simp; omega) (fun a _ => ⟨[a0, a1, a2, a3, a4, a5, a6, a7, a8, a9, a10, a11, a12, a13, a14, a15, a16, a17, .fz (encG a), a19, a20, a21, a22, a23, a24, a25], .sh, by simp, by simp [e_law_29, s2], by simp⟩)
  rw [List.map_map, List.map_map]
  exact hc
theorem comp_obd (Φ : Nat → List PyData → Option (PyData × List PyData)) (gs : List Grp) (hl : gs.length ≤ 50) (a0 a1 a2 a3 a4 a5 a6 a7 a8 a9 a10 a11 a12 a13 a14 a15 a16 a17 a19 a20 a21 a22 a23 a24 a25 : Sl) : compE Φ gls [18] (.nm 18) (.bl true) e_law_30 (gs.map encG) [] [a0, a1, a2, a3, a4, a5, a6, a7, a8, a9, a10, a11, a12, a13, a14, a15, a16, a17, .no, a19, a20, a21, a22, a23, a24, a25] = some (((gs.map (·.2.2.2)).map fun x => (x, true)).map (fun p : Str × Bool => .tuple [.str p.1, .bool p.2]), [a0, a1, a2, a3, a4, a5, a6, a7, a8, a9, a10, a11, a12, a13, a14, a15, a16, a17, .no, a19, a20, a21, a22, a23, a24, a25]) := by
  have hz : (10000 : Nat) < sizeLine := by decide
  have s2 : (2 : Nat) ≤ sizeLine := by decide
  have hc := compE_f (Φ := Φ) (gl := gls) (vs := [18]) (g := .nm 18) (e := e_law_30) (ρ := [a0, a1, a2, a3, a4, a5, a6, a7, a8, a9, a10, a11, a12, a13, a14, a15, a16, a17, .no, a19, a20, a21, a22, a23, a24, a25]) encG (fun a => .tuple [.str a.2.2.2, .bool true]) gs [] (by simp; omega) (fun a _ => ⟨[a0, a1, a2, a3, a4, a5, a6, a7, a8, a9, a10, a11, a12, a13, a14, a15, a16, a17, .fz (encG a), a19, a20, a21, a22, a23, a24, a25], .sh, by simp, by simp [e_law_30, s2], by simp⟩)
  rw [List.map_map, List.map_map]
  exact hc
theorem comp_kept (n : Nat) (gs : List Grp) (hg : okGs gs) (a0 a1 a2 a3 a5 a6 a7 a8 a9 a10 a11 a12 a13 a14 a15 a16 a17 a18 a19 a20 a21 a23 a24 a25 : Sl) : compE (phi tbl gls (n+1)) gls [22] (.nm 22) (.bl true) e_law_28 ((names gs).map .str) [] [a0, a1, a2, a3, .fz (encGs gs), a5, a6, a7, a8, a9, a10, a11, a12, a13, a14, a15, a16, a17, a18, a19, a20, a21, .no, a23, a24, a25] = some ((keptZ gs).map .int, [a0, a1, a2, a3, .fz (encGs gs), a5, a6, a7, a8, a9, a10, a11, a12, a13, a14, a15, a16, a17, a18, a19, a20, a21, .no, a23, a24, a25]) := by
  have hz : (10000 : Nat) < sizeLine := by decide
  have hl := hg.1
  have hnl := names_len gs
  have he : (names gs).map (fun nm => PyData.int (keptI gs nm : Nat)) = (keptZ gs).map .int := by unfold keptZ; rw [List.map_map]; rfl
  rw [← he]
  exact compE_f (Φ := phi tbl gls (n+1)) (gl := gls) (vs := [22]) (g := .nm 22) (e := e_law_28) (ρ := [a0, a1, a2, a3, .fz (encGs gs), a5, a6, a7, a8, a9, a10, a11, a12, a13, a14, a15, a16, a17, a18, a19, a20, a21, .no, a23, a24, a25]) PyData.str (fun nm => .int (keptI gs nm : Nat)) (names gs) [] (by simp; omega) (fun nm hnm => by
    have h2 : phi tbl gls (n+1) 22 [encGs gs, .str nm] = _ := phi__law_kept n gs nm hg (own_ne.mpr hnm)
    exact ⟨[a0, a1, a2, a3, .fz (encGs gs), a5, a6, a7, a8, a9, a10, a11, a12, a13, a14, a15, a16, a17, a18, a19, a20, a21, .fz (.str nm), a23, a24, a25], .sh, by simp, by simp [e_law_28, h2], by simp⟩)
def wrow (gs : List Grp) (nm : Str) : PyData := .tuple [.str nm, encO (wrongO gs nm)]
def wrongL (gs : List Grp) : List Str := (names gs).filter fun nm => (wrongO gs nm).isSome
theorem comp_wrong (n : Nat) (gs : List Grp) (hg : okGs gs) (a0 a1 a2 a3 a5 a6 a7 a8 a9 a10 a11 a12 a13 a14 a15 a16 a17 a18 a19 a20 a21 a23 a24 a25 : Sl) : compE (phi tbl gls (n+1)) gls [22] (.nm 22) c_law_26 e_law_27 ((names gs).map .str) [] [a0, a1, a2, a3, .fz (encGs gs), a5, a6, a7, a8, a9, a10, a11, a12, a13, a14, a15, a16, a17, a18, a19, a20, a21, .no, a23, a24, a25] = some ((wrongL gs).map (wrow gs), [a0, a1, a2, a3, .fz (encGs gs), a5, a6, a7, a8, a9, a10, a11, a12, a13, a14, a15, a16, a17, a18, a19, a20, a21, .no, a23, a24, a25]) := by
  have hz : (10000 : Nat) < sizeLine := by decide
  have s2 : (2 : Nat) ≤ sizeLine := by decide
  have hl := hg.1
  have hnl := names_len gs
  exact compE_pf (Φ := phi tbl gls (n+1)) (gl := gls) (vs := [22]) (g := .nm 22) (c := c_law_26) (e := e_law_27) (ρ := [a0, a1, a2, a3, .fz (encGs gs), a5, a6, a7, a8, a9, a10, a11, a12, a13, a14, a15, a16, a17, a18, a19, a20, a21, .no, a23, a24, a25]) PyData.str (fun nm => (wrongO gs nm).isSome) (wrow gs) (names gs) [] (by simp; omega) (fun nm hnm => by
    have h2 : phi tbl gls (n+1) 23 [encGs gs, .str nm] = _ := phi__law_wrong n gs nm hg (own_ne.mpr hnm)
    refine ⟨[a0, a1, a2, a3, .fz (encGs gs), a5, a6, a7, a8, a9, a10, a11, a12, a13, a14, a15, a16, a17, a18, a19, a20, a21, .fz (.str nm), a23, a24, a25], .sh, by simp, ?_, fun _ => by simp [e_law_27, h2, wrow, s2], by simp⟩
    cases ho : wrongO gs nm <;> simp [c_law_26, h2, ho])
theorem ix_N {xs : List Str} {k : Nat} {x : Str} (h : xs[k]? = some x) : ixV (.list (xs.map .str)) (.int (k : Nat)) = some (.str x) := by
  rw [ixV_l]
  exact atI_nat (by simp [h])
theorem ix_K {gs : List Grp} {k : Nat} {nm : Str} (h : (names gs)[k]? = some nm) : ixV (.list ((keptZ gs).map .int)) (.int (k : Nat)) = some (.int (keptI gs nm : Nat)) := by
  rw [ixV_l]
  exact atI_nat (by simp [keptZ, h])
theorem comp_lot (Φ : Nat → List PyData → Option (PyData × List PyData)) (gs : List Grp) (k : Nat) (nm : Str) (hk : (names gs)[k]? = some nm) (hl : gs.length ≤ 50) (x5 : Sl) (h5 : x5 = .ow (.list ((names gs).map .str)) ∨ x5 = .fz (.list ((names gs).map .str))) (a0 a1 a2 a3 a6 a7 a8 a9 a11 a12 a13 a14 a15 a16 a17 a18 a19 a20 a21 a22 a23 a25 : Sl) : compE Φ gls [24] (.nm 24) c_law_24 (.var 24) (iidx 0 gs.length) [] [a0, a1, a2, a3, .fz (encGs gs), x5, a6, a7, a8, a9, .fz (.int (k : Nat)), a11, a12, a13, a14, a15, a16, a17, a18, a19, a20, a21, a22, a23, .no, a25] = some ((lotL gs nm).map .int, [a0, a1, a2, a3, .fz (encGs gs), x5, a6, a7, a8, a9, .fz (.int (k : Nat)), a11, a12, a13, a14, a15, a16, a17, a18, a19, a20, a21, a22, a23, .no, a25]) := by
  have hz : (10000 : Nat) < sizeLine := by decide
  have hn := ix_N hk
  have hc := compE_pf (Φ := Φ) (gl := gls) (vs := [24]) (g := .nm 24) (c := c_law_24) (e := .var 24) (ρ := [a0, a1, a2, a3, .fz (encGs gs), x5, a6, a7, a8, a9, .fz (.int (k : Nat)), a11, a12, a13, a14, a15, a16, a17, a18, a19, a20, a21, a22, a23, .no, a25]) (fun z : Grp × Nat => .int (0 + (z.2 : Nat))) (fun z => decide (z.1.1 = nm)) (fun z => .int (z.2 : Nat)) gs.zipIdx [] (by simp; omega) (fun z hz => by
    have h1 := ix_Gs (zipIdx_get hz)
    exact ⟨[a0, a1, a2, a3, .fz (encGs gs), x5, a6, a7, a8, a9, .fz (.int (k : Nat)), a11, a12, a13, a14, a15, a16, a17, a18, a19, a20, a21, a22, a23, .fz (.int (z.2 : Nat)), a25], .sh, by simp, by rcases h5 with rfl | rfl <;> simp [c_law_24, h1, hn, -ixV_l], fun _ => by simp, by simp⟩)
  rw [← iidx_zip, List.nil_append] at hc
  have he : (gs.zipIdx.filter (fun z => decide (z.1.1 = nm))).map (fun z => PyData.int (z.2 : Nat)) = (lotL gs nm).map .int := by unfold lotL ownZ; rw [List.map_map]; rfl
  rw [he] at hc
  exact hc
theorem comp_strict (Φ : Nat → List PyData → Option (PyData × List PyData)) (gs : List Grp) (nm : Str) (hl : gs.length ≤ 50) (a0 a1 a2 a3 a5 a6 a7 a8 a9 a10 a12 a13 a14 a15 a16 a17 a18 a19 a20 a21 a22 a23 : Sl) : compE Φ gls [25] (.nm 25) c_law_23 (.var 25) (order5.map .str) [] [a0, a1, a2, a3, .fz (encGs gs), a5, a6, a7, a8, a9, a10, .fz (encI (lotL gs nm)), a12, a13, a14, a15, a16, a17, a18, a19, a20, a21, a22, a23, .no, .no] = some ((strictL gs nm).map .str, [a0, a1, a2, a3, .fz (encGs gs), a5, a6, a7, a8, a9, a10, .fz (encI (lotL gs nm)), a12, a13, a14, a15, a16, a17, a18, a19, a20, a21, a22, a23, .no, .no]) := by
  have hz : (10000 : Nat) < sizeLine := by decide
  have hol := own_len gs nm
  have hit : itemsD (encI (lotL gs nm)) = some ((ownZ gs nm).map fun z => .int (z.2 : Nat)) := by rw [items_I, lot_ks]
  exact compE_pf (Φ := Φ) (gl := gls) (vs := [25]) (g := .nm 25) (c := c_law_23) (e := .var 25) (ρ := [a0, a1, a2, a3, .fz (encGs gs), a5, a6, a7, a8, a9, a10, .fz (encI (lotL gs nm)), a12, a13, a14, a15, a16, a17, a18, a19, a20, a21, a22, a23, .no, .no]) PyData.str (fun w => decide (w ∈ wysL gs nm)) PyData.str order5 [] (by simp [order5]; omega) (fun w _ => by
    have hc1 := compE_f (Φ := Φ) (gl := gls) (vs := [24]) (g := .nm 24) (e := e_law_22) (ρ := [a0, a1, a2, a3, .fz (encGs gs), a5, a6, a7, a8, a9, a10, .fz (encI (lotL gs nm)), a12, a13, a14, a15, a16, a17, a18, a19, a20, a21, a22, a23, .no, .fz (.str w)]) (fun z : Grp × Nat => .int (z.2 : Nat)) (fun z => .str z.1.2.1) (ownZ gs nm) [] (by simp; omega) (fun z hz => by
      have h1 := ix_Gs (own_get hz).1
      exact ⟨[a0, a1, a2, a3, .fz (encGs gs), a5, a6, a7, a8, a9, a10, .fz (encI (lotL gs nm)), a12, a13, a14, a15, a16, a17, a18, a19, a20, a21, a22, a23, .fz (.int (z.2 : Nat)), .fz (.str w)], .sh, by simp, by simp [e_law_22, h1], by simp⟩)
    have he : (ownZ gs nm).map (fun z => PyData.str z.1.2.1) = (wysL gs nm).map .str := by unfold wysL; rw [List.map_map]; rfl
    rw [List.nil_append, he] at hc1
    exact ⟨[a0, a1, a2, a3, .fz (encGs gs), a5, a6, a7, a8, a9, a10, .fz (encI (lotL gs nm)), a12, a13, a14, a15, a16, a17, a18, a19, a20, a21, a22, a23, .no, .fz (.str w)], .sh, by simp, by simp [c_law_23, hit, hc1, -items_I], fun _ => by simp, by simp⟩)
theorem alike_n (n : Nat) (gs : List Grp) (nm : Str) (hl : gs.length ≤ 50) : phi tbl gls (n+3) 21 [.tuple [encI (lotL gs nm), .int (keptI gs nm : Nat), encO (wrongO gs nm), .str (strictS gs nm)], .tuple [encI (lotL gs nm), .int (keptI gs nm : Nat), encO (wrongO gs nm), .str (strictS gs nm)]] = some (.bool true, []) := phi_alike 2 n _ (by
  have h1 := own_len gs nm
  rw [aOk_t]
  refine ⟨by simp, fun x hx => ?_⟩
  simp only [List.mem_cons, List.not_mem_nil, or_false] at hx
  rcases hx with rfl | rfl | rfl | rfl
  · exact aOk_ints 0 _ (by unfold lotL; rw [List.length_map]; omega)
  · simp
  · simp
  · simp)
theorem turn_name (n : Nat) (gs : List Grp) (hg : okGs gs) (k : Nat) (nm : Str) (hk : (names gs)[k]? = some nm) (a0 a1 a2 a3 a6 a8 a9 a13 a14 a15 a16 a17 a18 a19 a20 a21 a22 a23 : Sl) : turnE (phi tbl gls (n+3)) gls [] (.nm 10) b_law_25 [10, 11, 12] (.int (k : Nat)) [a0, a1, a2, a3, .fz (encGs gs), .ow (.list ((names gs).map .str)), a6, .ow (.list ((keptZ gs).map .int)), a8, a9, .no, .no, .no, a13, a14, a15, a16, a17, a18, a19, a20, a21, a22, a23, .no, .no] = some (.nx [a0, a1, a2, a3, .fz (encGs gs), .ow (.list ((names gs).map .str)), a6, .ow (.list ((keptZ gs).map .int)), a8, a9, .no, .no, .no, a13, a14, a15, a16, a17, a18, a19, a20, a21, a22, a23, .no, .no]) := by
  have hz : (10000 : Nat) < sizeLine := by decide
  have s4 : (4 : Nat) ≤ sizeLine := by decide
  have s5 : (5 : Nat) ≤ sizeLine := by decide
  have hl : gs.length ≤ 50 := by have := hg.1; omega
  have hne : ownZ gs nm ≠ [] := own_ne.mpr (List.mem_of_getElem? hk)
  have hr := rngD_n (n := gs.length) (by omega)
  have hn := ix_N hk
  have hkk := ix_K hk
  have c1 := comp_lot (phi tbl gls (n+3)) gs k nm hk hl (.ow (.list ((names gs).map .str))) (.inl rfl) a0 a1 a2 a3 a6 (.ow (.list ((keptZ gs).map .int))) a8 a9 (.no) (.no) a13 a14 a15 a16 a17 a18 a19 a20 a21 a22 a23 (.no)
  have c2 := comp_strict (phi tbl gls (n+3)) gs nm hl a0 a1 a2 a3 (.ow (.list ((names gs).map .str))) a6 (.ow (.list ((keptZ gs).map .int))) a8 a9 (.fz (.int (k : Nat))) (.no) a13 a14 a15 a16 a17 a18 a19 a20 a21 a22 a23
  obtain ⟨x, xs, t1, t2⟩ := strict_ne hg hne
  rw [t1, List.map_cons] at c2
  have ho : [PyData.str (Str.ofString "none"), .str (Str.ofString "same"), .str (Str.ofString "samesize"), .str (Str.ofString "largest"), .str (Str.ofString "any")] = order5.map .str := rfl
  have hi : itemsD (.tuple (order5.map PyData.str)) = some (order5.map PyData.str) := rfl
  have s5' : order5.length ≤ sizeLine := s5
  have f4 : phi tbl gls (n+3) 4 [encGs gs, .str nm] = _ := phi_lot_of (n+2) gs nm hl
  have f6 : phi tbl gls (n+3) 6 [encGs gs, .str nm] = _ := phi_kept_of (n+1) gs nm hg hne
  have f7 : phi tbl gls (n+3) 7 [encGs gs, .str nm] = _ := phi_wrong_in (n+1) gs nm hg hne
  have f15 : phi tbl gls (n+3) 15 [encGs gs, .str nm] = _ := phi_strictest (n+1) gs nm hg hne
  have f23 : phi tbl gls (n+3) 23 [encGs gs, .str nm] = _ := phi__law_wrong (n+2) gs nm hg hne
  have fa := alike_n n gs nm hl
  rw [t2] at f15 fa
  have hrun : runs (phi tbl gls (n+3)) gls [] b_law_25 [a0, a1, a2, a3, .fz (encGs gs), .ow (.list ((names gs).map .str)), a6, .ow (.list ((keptZ gs).map .int)), a8, a9, .fz (.int (k : Nat)), .no, .no, a13, a14, a15, a16, a17, a18, a19, a20, a21, a22, a23, .no, .no] = some (.nx [a0, a1, a2, a3, .fz (encGs gs), .ow (.list ((names gs).map .str)), a6, .ow (.list ((keptZ gs).map .int)), a8, a9, .fz (.int (k : Nat)), .fz (encI (lotL gs nm)), .fz (.str x), a13, a14, a15, a16, a17, a18, a19, a20, a21, a22, a23, .no, .no]) := by
    unfold b_law_25
    rw [runs_step (ρ1 := [a0, a1, a2, a3, .fz (encGs gs), .ow (.list ((names gs).map .str)), a6, .ow (.list ((keptZ gs).map .int)), a8, a9, .fz (.int (k : Nat)), .fz (encI (lotL gs nm)), .no, a13, a14, a15, a16, a17, a18, a19, a20, a21, a22, a23, .no, .no]) (by simp [als, alsO, alsI, alss, mods, modsO, modsI, modss, len_Gs, hr, c1, tup_I])]
    rw [runs_step (ρ1 := [a0, a1, a2, a3, .fz (encGs gs), .ow (.list ((names gs).map .str)), a6, .ow (.list ((keptZ gs).map .int)), a8, a9, .fz (.int (k : Nat)), .fz (encI (lotL gs nm)), .fz (.str x), a13, a14, a15, a16, a17, a18, a19, a20, a21, a22, a23, .no, .no]) (by simp [als, alsO, alsI, alss, mods, modsO, modsI, modss, s5, s5', ho, hi, c2])]
    simp [als, alsO, alsI, alss, mods, modsO, modsI, modss, hn, hkk, f4, f6, f7, f15, f23, fa, s4, -ixV_l]
  simp [hrun]
theorem loop_name (n : Nat) (gs : List Grp) (hg : okGs gs) (a0 a1 a2 a3 a6 a8 a9 a13 a14 a15 a16 a17 a18 a19 a20 a21 a22 a23 : Sl) : forE (phi tbl gls (n+3)) gls [] (.nm 10) b_law_25 [10, 11, 12] (iidx 0 (names gs).length) [a0, a1, a2, a3, .fz (encGs gs), .ow (.list ((names gs).map .str)), a6, .ow (.list ((keptZ gs).map .int)), a8, a9, .no, .no, .no, a13, a14, a15, a16, a17, a18, a19, a20, a21, a22, a23, .no, .no] = some (.nx [a0, a1, a2, a3, .fz (encGs gs), .ow (.list ((names gs).map .str)), a6, .ow (.list ((keptZ gs).map .int)), a8, a9, .no, .no, .no, a13, a14, a15, a16, a17, a18, a19, a20, a21, a22, a23, .no, .no]) := by
  have e := forE_idx (Φ := phi tbl gls (n+3)) (gl := gls) (ios := []) (g := .nm 10) (b := b_law_25) (dead := [10, 11, 12]) (fun _ : Unit => [a0, a1, a2, a3, .fz (encGs gs), .ow (.list ((names gs).map .str)), a6, .ow (.list ((keptZ gs).map .int)), a8, a9, .no, .no, .no, a13, a14, a15, a16, a17, a18, a19, a20, a21, a22, a23, .no, .no]) (fun s _ _ => s) (fun _ _ => True) (names gs) () [a0, a1, a2, a3, .fz (encGs gs), .ow (.list ((names gs).map .str)), a6, .ow (.list ((keptZ gs).map .int)), a8, a9, .no, .no, .no, a13, a14, a15, a16, a17, a18, a19, a20, a21, a22, a23, .no, .no] rfl trivial (fun s nm k m hk _ => ⟨turn_name n gs hg k nm hk a0 a1 a2 a3 a6 a8 a9 a13 a14 a15 a16 a17 a18 a19 a20 a21 a22 a23, trivial⟩)
  exact e
theorem comp_hang (n : Nat) (gs : List Grp) (hg : okGs gs) (a0 a1 a2 a3 a6 a8 a9 a11 a12 a14 a15 a16 a17 a18 a19 a20 a21 a22 a23 a24 a25 : Sl) : compE (phi tbl gls (n+1)) gls [10] (.nm 10) c_law_20 e_law_21 (iidx 0 (names gs).length) [] [a0, a1, a2, a3, .fz (encGs gs), .ow (.list ((names gs).map .str)), a6, .ow (.list ((keptZ gs).map .int)), a8, a9, .no, a11, a12, .fz (encGs gs.reverse), a14, a15, a16, a17, a18, a19, a20, a21, a22, a23, a24, a25] = some ((hangL gs).map .str, [a0, a1, a2, a3, .fz (encGs gs), .ow (.list ((names gs).map .str)), a6, .ow (.list ((keptZ gs).map .int)), a8, a9, .no, a11, a12, .fz (encGs gs.reverse), a14, a15, a16, a17, a18, a19, a20, a21, a22, a23, a24, a25]) := by
  have hz : (10000 : Nat) < sizeLine := by decide
  have hl := hg.1
  have hnl := names_len gs
  have hc := compE_pf (Φ := phi tbl gls (n+1)) (gl := gls) (vs := [10]) (g := .nm 10) (c := c_law_20) (e := e_law_21) (ρ := [a0, a1, a2, a3, .fz (encGs gs), .ow (.list ((names gs).map .str)), a6, .ow (.list ((keptZ gs).map .int)), a8, a9, .no, a11, a12, .fz (encGs gs.reverse), a14, a15, a16, a17, a18, a19, a20, a21, a22, a23, a24, a25]) (fun z : Str × Nat => .int (0 + (z.2 : Nat))) (fun z => hangB gs z.1) (fun z => .str z.1) (names gs).zipIdx [] (by simp; omega) (fun z hz => by
    have hk := zipIdx_get hz
    have hnm := List.mem_of_getElem? hk
    have hn := ix_N hk
    have hkk := ix_K hk
    have h2 : phi tbl gls (n+1) 22 [encGs gs.reverse, .str z.1] = _ := phi__law_kept n gs.reverse z.1 (okGs_rev hg) (names_rev hnm)
    obtain ⟨d1, i1, i2⟩ := ix_data (own_ne.mpr hnm)
    obtain ⟨d2, j1, j2⟩ := ix_data (names_rev hnm)
    exact ⟨[a0, a1, a2, a3, .fz (encGs gs), .ow (.list ((names gs).map .str)), a6, .ow (.list ((keptZ gs).map .int)), a8, a9, .fz (.int (z.2 : Nat)), a11, a12, .fz (encGs gs.reverse), a14, a15, a16, a17, a18, a19, a20, a21, a22, a23, a24, a25], .sh, by simp, by simp [c_law_20, hn, hkk, h2, i1, i2, j1, j2, hangB, -ixV_l], fun _ => by simp [e_law_21, hn, -ixV_l], by simp⟩)
  rw [← iidx_zip, List.nil_append] at hc
  have he : ((names gs).zipIdx.filter (fun z => hangB gs z.1)).map (fun z => PyData.str z.1) = (hangL gs).map .str := by
    unfold hangL
    have : ∀ (l : List Str) (i : Nat), ((l.zipIdx i).filter fun z => hangB gs z.1).map (fun z => PyData.str z.1) = (l.filter (hangB gs)).map .str := fun l => by
      induction l with
      | nil => intro i; rfl
      | cons x l ih =>
        intro i
        rw [List.zipIdx_cons, List.filter_cons, List.filter_cons]
        by_cases h : hangB gs x = true <;> simp [h, ih]
    exact this _ 0
  rw [he] at hc
  exact hc
end LW

namespace LW
open PySem PySem.Spec PyProof.Rows L2 PP
theorem ne_ones {α : Type} (xs : List α) : cmpV .NotEq (.list (xs.map fun _ => PyData.int 1)) (.list []) = some (!xs.isEmpty) := by rw [cmpV_ne0]; cases xs <;> rfl
theorem eq_ones {α : Type} (xs : List α) : cmpV .Eq (.list (xs.map fun _ => PyData.int 1)) (.list []) = some xs.isEmpty := by cases xs <;> rfl
theorem any_filter {α : Type} (p : α → Bool) (xs : List α) : (!(xs.filter p).isEmpty) = xs.any p := by
  induction xs with
  | nil => rfl
  | cons x xs ih =>
    rw [List.filter_cons, List.any_cons]
    cases h : p x with
    | true => simp
    | false => simpa using ih
def srow (gs : List Grp) (o : Str) : PyData := .tuple [.str o, dB (lawS gs o)]
theorem comp_one (n : Nat) (gs : List Grp) (hg : okGs gs) (o nm : Str) (hnm : nm ∈ names gs) (a0 a1 a2 a3 a5 a6 a7 a8 a9 a10 a11 a12 a13 a14 a15 a16 a17 a19 a20 a21 a24 a25 : Sl) : compE (phi tbl gls (n+1)) gls [23] (.nm 23) c_law_15 (.int 1) (gs.map encG) [] [a0, a1, a2, a3, .fz (encGs gs), a5, a6, a7, a8, a9, a10, a11, a12, a13, a14, a15, a16, a17, .fz (.str o), a19, a20, a21, .fz (.str nm), .no, a24, a25] = some ((gs.filter fun g => decide (g.2.2.2 = o) && decide (g.1 = nm)).map (fun _ => .int 1), [a0, a1, a2, a3, .fz (encGs gs), a5, a6, a7, a8, a9, a10, a11, a12, a13, a14, a15, a16, a17, .fz (.str o), a19, a20, a21, .fz (.str nm), .no, a24, a25]) ∧ compE (phi tbl gls (n+1)) gls [23] (.nm 23) c_law_16 (.int 1) (gs.map encG) [] [a0, a1, a2, a3, .fz (encGs gs), a5, a6, a7, a8, a9, a10, a11, a12, a13, a14, a15, a16, a17, .fz (.str o), a19, a20, a21, .fz (.str nm), .no, a24, a25] = some ((gs.filter fun g => decide (g.2.2.2 = o) && (decide (g.1 = nm) && !decide (g.2.2.1 = dataAt gs (keptI gs nm)))).map (fun _ => .int 1), [a0, a1, a2, a3, .fz (encGs gs), a5, a6, a7, a8, a9, a10, a11, a12, a13, a14, a15, a16, a17, .fz (.str o), a19, a20, a21, .fz (.str nm), .no, a24, a25]) := by
  have hz : (10000 : Nat) < sizeLine := by decide
  have hl := hg.1
  have h2 : phi tbl gls (n+1) 22 [encGs gs, .str nm] = _ := phi__law_kept n gs nm hg (own_ne.mpr hnm)
  obtain ⟨d1, i1, i2⟩ := ix_data (own_ne.mpr hnm)
  refine ⟨?_, ?_⟩
  · exact compE_pf (Φ := phi tbl gls (n+1)) (gl := gls) (vs := [23]) (g := .nm 23) (c := c_law_15) (e := .int 1) (ρ := [a0, a1, a2, a3, .fz (encGs gs), a5, a6, a7, a8, a9, a10, a11, a12, a13, a14, a15, a16, a17, .fz (.str o), a19, a20, a21, .fz (.str nm), .no, a24, a25]) encG (fun g => decide (g.2.2.2 = o) && decide (g.1 = nm)) (fun _ => .int 1) gs [] (by simp; omega) (fun g _ => ⟨[a0, a1, a2, a3, .fz (encGs gs), a5, a6, a7, a8, a9, a10, a11, a12, a13, a14, a15, a16, a17, .fz (.str o), a19, a20, a21, .fz (.str nm), .fz (encG g), a24, a25], .sh, by simp, by by_cases h : g.2.2.2 = o <;> simp [c_law_15, h], fun _ => by simp, by simp⟩)
  · exact compE_pf (Φ := phi tbl gls (n+1)) (gl := gls) (vs := [23]) (g := .nm 23) (c := c_law_16) (e := .int 1) (ρ := [a0, a1, a2, a3, .fz (encGs gs), a5, a6, a7, a8, a9, a10, a11, a12, a13, a14, a15, a16, a17, .fz (.str o), a19, a20, a21, .fz (.str nm), .no, a24, a25]) encG (fun g => decide (g.2.2.2 = o) && (decide (g.1 = nm) && !decide (g.2.2.1 = dataAt gs (keptI gs nm)))) (fun _ => .int 1) gs [] (by simp; omega) (fun g _ => ⟨[a0, a1, a2, a3, .fz (encGs gs), a5, a6, a7, a8, a9, a10, a11, a12, a13, a14, a15, a16, a17, .fz (.str o), a19, a20, a21, .fz (.str nm), .fz (encG g), a24, a25], .sh, by simp, by by_cases h : g.2.2.2 = o <;> by_cases h' : g.1 = nm <;> simp [c_law_16, h, h', h2, i1, i2], fun _ => by simp, by simp⟩)
theorem comp_sees (n : Nat) (gs : List Grp) (hg : okGs gs) (x5 : Sl) (h5 : x5 = .ow (.list ((names gs).map .str)) ∨ x5 = .fz (.list ((names gs).map .str))) (a0 a1 a2 a3 a6 a7 a8 a9 a10 a11 a12 a13 a14 a15 a16 a17 a19 a20 a21 a24 a25 : Sl) : compE (phi tbl gls (n+1)) gls [18] (.nm 18) (.bl true) e_law_19 ((objs gs).map .str) [] [a0, a1, a2, a3, .fz (encGs gs), x5, a6, a7, a8, a9, a10, a11, a12, a13, a14, a15, a16, a17, .no, a19, a20, a21, .no, .no, a24, a25] = some ((objs gs).map (srow gs), [a0, a1, a2, a3, .fz (encGs gs), x5, a6, a7, a8, a9, a10, a11, a12, a13, a14, a15, a16, a17, .no, a19, a20, a21, .no, .no, a24, a25]) := by
  have hz : (10000 : Nat) < sizeLine := by decide
  have s2 : (2 : Nat) ≤ sizeLine := by decide
  have hl := hg.1
  have hnl := names_len gs
  have hol := objs_len gs
  exact compE_f (Φ := phi tbl gls (n+1)) (gl := gls) (vs := [18]) (g := .nm 18) (e := e_law_19) (ρ := [a0, a1, a2, a3, .fz (encGs gs), x5, a6, a7, a8, a9, a10, a11, a12, a13, a14, a15, a16, a17, .no, a19, a20, a21, .no, .no, a24, a25]) PyData.str (srow gs) (objs gs) [] (by simp; omega) (fun o _ => by
    have hc := compE_pf (Φ := phi tbl gls (n+1)) (gl := gls) (vs := [22]) (g := .nm 22) (c := c_law_17) (e := e_law_18) (ρ := [a0, a1, a2, a3, .fz (encGs gs), x5, a6, a7, a8, a9, a10, a11, a12, a13, a14, a15, a16, a17, .fz (.str o), a19, a20, a21, .no, .no, a24, a25]) PyData.str (hasB gs o) (fun nm => .tuple [.str nm, .bool (goodB gs o nm)]) (names gs) [] (by simp; omega) (fun nm hnm => by
      obtain ⟨c1, c2⟩ := comp_one n gs hg o nm hnm a0 a1 a2 a3 (x5) a6 a7 a8 a9 a10 a11 a12 a13 a14 a15 a16 a17 a19 a20 a21 a24 a25
      have q1 := ne_ones (gs.filter fun g => decide (g.2.2.2 = o) && decide (g.1 = nm))
      rw [any_filter] at q1
      change _ = some (hasB gs o nm) at q1
      have q2 := eq_ones (gs.filter fun g => decide (g.2.2.2 = o) && (decide (g.1 = nm) && !decide (g.2.2.1 = dataAt gs (keptI gs nm))))
      change _ = some (goodB gs o nm) at q2
      have s0 : (0 : Nat) ≤ sizeLine := by decide
      exact ⟨[a0, a1, a2, a3, .fz (encGs gs), x5, a6, a7, a8, a9, a10, a11, a12, a13, a14, a15, a16, a17, .fz (.str o), a19, a20, a21, .fz (.str nm), .no, a24, a25], .sh, by simp, by simp [c_law_17, c1, q1, s0], fun _ => by simp [e_law_18, c2, q2, s0, s2], by simp⟩)
    have he : ((names gs).filter (hasB gs o)).map (fun nm => PyData.tuple [.str nm, .bool (goodB gs o nm)]) = (((names gs).filter (hasB gs o)).map fun nm => (nm, goodB gs o nm)).map fun p => .tuple [.str p.1, .bool p.2] := by rw [List.map_map]; rfl
    rw [List.nil_append, he] at hc
    have hv := v_dict_A (κ := Str) PyData.bool (fun _ => rfl) (((names gs).filter (hasB gs o)).map fun nm => (nm, goodB gs o nm))
    replace hv : v_dict [.list ((((names gs).filter (hasB gs o)).map fun nm => (nm, goodB gs o nm)).map fun p => .tuple [.str p.1, .bool p.2])] = some (dB (lawS gs o), .fr) := hv
    exact ⟨[a0, a1, a2, a3, .fz (encGs gs), x5, a6, a7, a8, a9, a10, a11, a12, a13, a14, a15, a16, a17, .fz (.str o), a19, a20, a21, .no, .no, a24, a25], .sh, by simp, by rcases h5 with rfl | rfl <;> simp [e_law_19, hc, hv, srow, s2, -List.map_map], by simp⟩)
theorem comp_bad (Φ : Nat → List PyData → Option (PyData × List PyData)) (gs : List Grp) (hl : gs.length ≤ 50) (a0 a1 a2 a3 a4 a5 a6 a7 a8 a9 a10 a11 a12 a13 a14 a15 a16 a17 a20 a21 a22 a23 a24 a25 : Sl) : compE Φ gls [18, 19] (.tp [.nm 18, .nm 19]) c_law_14 (.var 18) ((objs gs).map (srow gs)) [] [a0, a1, a2, a3, a4, a5, a6, a7, a8, a9, a10, a11, a12, a13, a14, a15, a16, a17, .no, .no, a20, a21, a22, a23, a24, a25] = some (((objs gs).filter fun o => badB (seenA gs o)).map .str, [a0, a1, a2, a3, a4, a5, a6, a7, a8, a9, a10, a11, a12, a13, a14, a15, a16, a17, .no, .no, a20, a21, a22, a23, a24, a25]) := by
  have hz : (10000 : Nat) < sizeLine := by decide
  have hol := objs_len gs
  exact compE_pf (Φ := Φ) (gl := gls) (vs := [18, 19]) (g := .tp [.nm 18, .nm 19]) (c := c_law_14) (e := .var 18) (ρ := [a0, a1, a2, a3, a4, a5, a6, a7, a8, a9, a10, a11, a12, a13, a14, a15, a16, a17, .no, .no, a20, a21, a22, a23, a24, a25]) (srow gs) (fun o => badB (seenA gs o)) PyData.str (objs gs) [] (by simp; omega) (fun o _ => by
    have h1 := vals_dB (lawS gs o)
    have h2 := in_bools (lawS gs o)
    rw [bad_same] at h2
    exact ⟨[a0, a1, a2, a3, a4, a5, a6, a7, a8, a9, a10, a11, a12, a13, a14, a15, a16, a17, .fz (.str o), .fz (dB (lawS gs o)), a20, a21, a22, a23, a24, a25], .sh, by simp [srow], by simp [c_law_14, h1, h2], fun _ => by simp, by simp⟩)
theorem comp_gone (Φ : Nat → List PyData → Option (PyData × List PyData)) (gs : List Grp) (hg : okGs gs) (a0 a1 a2 a3 a5 a6 a8 a9 a11 a12 a13 a14 a15 a16 a17 a18 a19 a20 a21 a22 a23 a24 a25 : Sl) : compE Φ gls [10] (.nm 10) c_law_12 e_law_13 (iidx 0 gs.length) [] [a0, a1, a2, a3, .fz (encGs gs), a5, a6, .ow (.list ((keptZ gs).map .int)), a8, a9, .no, a11, a12, a13, a14, a15, a16, a17, a18, a19, a20, a21, a22, a23, a24, a25] = some (((gs.zipIdx.filter fun z => !decide ((z.2 : Int) ∈ keptZ gs)).map fun z => (z.1.2.2.1.length : Int)).map .int, [a0, a1, a2, a3, .fz (encGs gs), a5, a6, .ow (.list ((keptZ gs).map .int)), a8, a9, .no, a11, a12, a13, a14, a15, a16, a17, a18, a19, a20, a21, a22, a23, a24, a25]) := by
  have hz : (10000 : Nat) < sizeLine := by decide
  have hl := hg.1
  have hc2 := compE_pf (Φ := Φ) (gl := gls) (vs := [10]) (g := .nm 10) (c := c_law_12) (e := e_law_13) (ρ := [a0, a1, a2, a3, .fz (encGs gs), a5, a6, .ow (.list ((keptZ gs).map .int)), a8, a9, .no, a11, a12, a13, a14, a15, a16, a17, a18, a19, a20, a21, a22, a23, a24, a25]) (fun z : Grp × Nat => .int (0 + (z.2 : Nat))) (fun z => !decide ((z.2 : Int) ∈ keptZ gs)) (fun z => .int (z.1.2.2.1.length : Nat)) gs.zipIdx [] (by simp; omega) (fun z hz => by
    have h1 := ix_Gs (zipIdx_get hz)
    have hs := len_S (hg.2 z.1 (List.mem_of_getElem? (zipIdx_get hz))).2.2.1
    exact ⟨[a0, a1, a2, a3, .fz (encGs gs), a5, a6, .ow (.list ((keptZ gs).map .int)), a8, a9, .fz (.int (z.2 : Nat)), a11, a12, a13, a14, a15, a16, a17, a18, a19, a20, a21, a22, a23, a24, a25], .sh, by simp, by simp [c_law_12], fun _ => by simp [e_law_13, h1, hs], by simp⟩)
  have he2 : (gs.zipIdx.filter (fun z => !decide ((z.2 : Int) ∈ keptZ gs))).map (fun z => PyData.int (z.1.2.2.1.length : Nat)) = ((gs.zipIdx.filter fun z => !decide ((z.2 : Int) ∈ keptZ gs)).map fun z => (z.1.2.2.1.length : Int)).map .int := by rw [List.map_map]; rfl
  rw [← iidx_zip, List.nil_append, he2] at hc2
  exact hc2
theorem loop_sees (n : Nat) (gs : List Grp) (hg : okGs gs) (D15 : PyData) (a0 a1 a2 a3 a5 a6 a7 a8 a9 a10 a11 a12 a13 a14 a16 a17 a20 a21 a22 a23 a24 a25 : Sl) : forE (phi tbl gls (n+3)) gls [] (.tp [.nm 18, .nm 19]) b_law_11 [18, 19] ((objs gs).map (srow gs)) [a0, a1, a2, a3, .fz (encGs gs), a5, a6, a7, a8, a9, a10, a11, a12, a13, a14, .fz D15, a16, a17, .no, .no, a20, a21, a22, a23, a24, a25] = some (.nx [a0, a1, a2, a3, .fz (encGs gs), a5, a6, a7, a8, a9, a10, a11, a12, a13, a14, .fz D15, a16, a17, .no, .no, a20, a21, a22, a23, a24, a25]) :=
  forE_foldN (Φ := phi tbl gls (n+3)) (gl := gls) (ios := []) (g := .tp [.nm 18, .nm 19]) (b := b_law_11) (dead := [18, 19]) (fun _ : Unit => [a0, a1, a2, a3, .fz (encGs gs), a5, a6, a7, a8, a9, a10, a11, a12, a13, a14, .fz D15, a16, a17, .no, .no, a20, a21, a22, a23, a24, a25]) (srow gs) (fun s _ => s) (fun _ _ => True) (objs gs) () [a0, a1, a2, a3, .fz (encGs gs), a5, a6, a7, a8, a9, a10, a11, a12, a13, a14, .fz D15, a16, a17, .no, .no, a20, a21, a22, a23, a24, a25] rfl trivial (fun s o m _ _ => ⟨by
    have h12 : phi tbl gls (n+3) 12 [encGs gs, .str o] = _ := phi_seen_by n gs o hg
    have hne := ne_seen gs o
    simp [b_law_11, als, alsO, alsI, alss, mods, modsO, modsI, modss, srow, h12, hne], trivial⟩)
theorem comp_kd (Φ : Nat → List PyData → Option (PyData × List PyData)) (gs : List Grp) (hl : gs.length ≤ 50) (a0 a1 a2 a3 a5 a6 a8 a9 a11 a12 a13 a14 a15 a16 a17 a19 a20 a21 a22 a23 a24 a25 : Sl) : ∃ L, compE Φ gls [18] (.nm 18) (.bl true) e_law_10 ((objs gs).map .str) [] [a0, a1, a2, a3, .fz (encGs gs), a5, a6, .ow (.list ((keptZ gs).map .int)), a8, a9, .no, a11, a12, a13, a14, a15, a16, a17, .no, a19, a20, a21, a22, a23, a24, a25] = some (L, [a0, a1, a2, a3, .fz (encGs gs), a5, a6, .ow (.list ((keptZ gs).map .int)), a8, a9, .no, a11, a12, a13, a14, a15, a16, a17, .no, a19, a20, a21, a22, a23, a24, a25]) ∧ v_dict [.list L] = some (keptByD gs, .fr) := by
  have hz : (10000 : Nat) < sizeLine := by decide
  have s2 : (2 : Nat) ≤ sizeLine := by decide
  have hol := objs_len gs
  have hkl := keptZ_len gs
  have hc3 := compE_f (Φ := Φ) (gl := gls) (vs := [18]) (g := .nm 18) (e := e_law_10) (ρ := [a0, a1, a2, a3, .fz (encGs gs), a5, a6, .ow (.list ((keptZ gs).map .int)), a8, a9, .no, a11, a12, a13, a14, a15, a16, a17, .no, a19, a20, a21, a22, a23, a24, a25]) PyData.str (fun o => .tuple [.str o, .int (cntK gs o)]) (objs gs) [] (by simp; omega) (fun o _ => by
    have hc := compE_pf (Φ := Φ) (gl := gls) (vs := [10]) (g := .nm 10) (c := c_law_9) (e := .var 10) (ρ := [a0, a1, a2, a3, .fz (encGs gs), a5, a6, .ow (.list ((keptZ gs).map .int)), a8, a9, .no, a11, a12, a13, a14, a15, a16, a17, .fz (.str o), a19, a20, a21, a22, a23, a24, a25]) PyData.int (fun k => decide (((gs[k.toNat]?).map (·.2.2.2)) = some o)) PyData.int (keptZ gs) [] (by simp; omega) (fun k hk => by
      obtain ⟨g, i1, i2⟩ := kept_ix hk
      exact ⟨[a0, a1, a2, a3, .fz (encGs gs), a5, a6, .ow (.list ((keptZ gs).map .int)), a8, a9, .fz (.int k), a11, a12, a13, a14, a15, a16, a17, .fz (.str o), a19, a20, a21, a22, a23, a24, a25], .sh, by simp, by simp [c_law_9, i1, i2], fun _ => by simp, by simp⟩)
    rw [List.nil_append] at hc
    have hv : v_len [.list (((keptZ gs).filter fun k => decide (((gs[k.toNat]?).map (·.2.2.2)) = some o)).map PyData.int)] = some (.int (cntK gs o), .sh) := by simp [cntK]
    exact ⟨[a0, a1, a2, a3, .fz (encGs gs), a5, a6, .ow (.list ((keptZ gs).map .int)), a8, a9, .no, a11, a12, a13, a14, a15, a16, a17, .fz (.str o), a19, a20, a21, a22, a23, a24, a25], .sh, by simp, by simp [e_law_10, hc, hv, s2, -List.length_map], by simp⟩)
  have he3 : (objs gs).map (fun o => PyData.tuple [.str o, .int (cntK gs o)]) = ((objs gs).map fun o => (o, cntK gs o)).map fun p => .tuple [.str p.1, .int p.2] := by rw [List.map_map]; rfl
  rw [List.nil_append, he3] at hc3
  exact ⟨_, hc3, v_dict_A (κ := Str) PyData.int (fun _ => rfl) ((objs gs).map fun o => (o, cntK gs o))⟩
theorem comp_bd (Φ : Nat → List PyData → Option (PyData × List PyData)) (gs : List Grp) (hl : gs.length ≤ 50) (x5 : Sl) (h5 : x5 = .ow (.list ((names gs).map .str)) ∨ x5 = .fz (.list ((names gs).map .str))) (a0 a1 a2 a3 a6 a7 a8 a9 a10 a11 a12 a13 a14 a15 a16 a17 a19 a20 a21 a24 a25 : Sl) : ∃ L, compE Φ gls [18] (.nm 18) (.bl true) e_law_8 ((objs gs).map .str) [] [a0, a1, a2, a3, .fz (encGs gs), x5, a6, a7, a8, a9, a10, a11, a12, a13, a14, a15, a16, a17, .no, a19, a20, a21, .no, .no, a24, a25] = some (L, [a0, a1, a2, a3, .fz (encGs gs), x5, a6, a7, a8, a9, a10, a11, a12, a13, a14, a15, a16, a17, .no, a19, a20, a21, .no, .no, a24, a25]) ∧ v_dict [.list L] = some (broughtD gs, .fr) := by
  have hz : (10000 : Nat) < sizeLine := by decide
  have s0 : (0 : Nat) ≤ sizeLine := by decide
  have s2 : (2 : Nat) ≤ sizeLine := by decide
  have hol := objs_len gs
  have hnl := names_len gs
  have hc3 := compE_f (Φ := Φ) (gl := gls) (vs := [18]) (g := .nm 18) (e := e_law_8) (ρ := [a0, a1, a2, a3, .fz (encGs gs), x5, a6, a7, a8, a9, a10, a11, a12, a13, a14, a15, a16, a17, .no, a19, a20, a21, .no, .no, a24, a25]) PyData.str (fun o => .tuple [.str o, encN (bringL gs o)]) (objs gs) [] (by simp; omega) (fun o _ => by
    have hc := compE_pf (Φ := Φ) (gl := gls) (vs := [22]) (g := .nm 22) (c := c_law_7) (e := .var 22) (ρ := [a0, a1, a2, a3, .fz (encGs gs), x5, a6, a7, a8, a9, a10, a11, a12, a13, a14, a15, a16, a17, .fz (.str o), a19, a20, a21, .no, .no, a24, a25]) PyData.str (fun nm => gs.any fun g => decide (g.1 = nm) && decide (g.2.2.2 = o)) PyData.str (names gs) [] (by simp; omega) (fun nm _ => by
      have hc := compE_pf (Φ := Φ) (gl := gls) (vs := [23]) (g := .nm 23) (c := c_law_6) (e := .int 1) (ρ := [a0, a1, a2, a3, .fz (encGs gs), x5, a6, a7, a8, a9, a10, a11, a12, a13, a14, a15, a16, a17, .fz (.str o), a19, a20, a21, .fz (.str nm), .no, a24, a25]) encG (fun g => decide (g.1 = nm) && decide (g.2.2.2 = o)) (fun _ => .int 1) gs [] (by simp; omega) (fun g _ => ⟨[a0, a1, a2, a3, .fz (encGs gs), x5, a6, a7, a8, a9, a10, a11, a12, a13, a14, a15, a16, a17, .fz (.str o), a19, a20, a21, .fz (.str nm), .fz (encG g), a24, a25], .sh, by simp, by by_cases h : g.1 = nm <;> simp [c_law_6, h], fun _ => by simp, by simp⟩)
      rw [List.nil_append] at hc
      have q1 := ne_ones (gs.filter fun g => decide (g.1 = nm) && decide (g.2.2.2 = o))
      rw [any_filter] at q1
      exact ⟨[a0, a1, a2, a3, .fz (encGs gs), x5, a6, a7, a8, a9, a10, a11, a12, a13, a14, a15, a16, a17, .fz (.str o), a19, a20, a21, .fz (.str nm), .no, a24, a25], .sh, by simp, by simp [c_law_7, hc, q1, s0], fun _ => by simp, by simp⟩)
    rw [List.nil_append, bring_names] at hc
    exact ⟨[a0, a1, a2, a3, .fz (encGs gs), x5, a6, a7, a8, a9, a10, a11, a12, a13, a14, a15, a16, a17, .fz (.str o), a19, a20, a21, .no, .no, a24, a25], .sh, by simp, by rcases h5 with rfl | rfl <;> simp [e_law_8, hc, tup_N, s2], by simp⟩)
  have he3 : (objs gs).map (fun o => PyData.tuple [.str o, encN (bringL gs o)]) = ((objs gs).map fun o => (o, bringL gs o)).map fun p => .tuple [.str p.1, encN p.2] := by rw [List.map_map]; rfl
  rw [List.nil_append, he3] at hc3
  exact ⟨_, hc3, v_dict_A (κ := Str) encN (fun _ => rfl) ((objs gs).map fun o => (o, bringL gs o))⟩
/-! sets of objects -/
theorem loop_sets (Φ : Nat → List PyData → Option (PyData × List PyData)) (gs : List Grp) (hl : gs.length ≤ 10) (a0 a1 a2 a3 a4 a5 a6 a7 a8 a9 a10 a11 a12 a13 a14 a15 a16 a17 a19 a21 a22 a24 a25 : Sl) : forE Φ gls [] (.nm 18) b_law_5 [18] ((objs gs).map .str) [a0, a1, a2, a3, a4, a5, a6, a7, a8, a9, a10, a11, a12, a13, a14, a15, a16, a17, .no, a19, .ow (.list [.tuple []]), a21, a22, .no, a24, a25] = some (.nx [a0, a1, a2, a3, a4, a5, a6, a7, a8, a9, a10, a11, a12, a13, a14, a15, a16, a17, .no, a19, .ow (.list ((rowsF (objs gs)).map encN)), a21, a22, .no, a24, a25]) := by
  have hz : (10000 : Nat) < sizeLine := by decide
  have s1 : (1 : Nat) ≤ sizeLine := by decide
  have e1 := forE_foldN (Φ := Φ) (gl := gls) (ios := []) (g := .nm 18) (b := b_law_5) (dead := [18]) (fun rows : List Row => [a0, a1, a2, a3, a4, a5, a6, a7, a8, a9, a10, a11, a12, a13, a14, a15, a16, a17, .no, a19, .ow (.list (rows.map encN)), a21, a22, .no, a24, a25]) PyData.str stepW okW (objs gs) [[]] [a0, a1, a2, a3, a4, a5, a6, a7, a8, a9, a10, a11, a12, a13, a14, a15, a16, a17, .no, a19, .ow (.list [.tuple []]), a21, a22, .no, a24, a25] rfl (okW_0 gs hl) (fun rows o m _ hi => by
    have hwl := okW_len hi
    have hc := compE_f (Φ := Φ) (gl := gls) (vs := [23]) (g := .nm 23) (e := e_law_4) (ρ := [a0, a1, a2, a3, a4, a5, a6, a7, a8, a9, a10, a11, a12, a13, a14, a15, a16, a17, .fz (.str o), a19, .ow (.list (rows.map encN)), a21, a22, .no, a24, a25]) encN (fun r => encN (r ++ [o])) rows [] (by simp; omega) (fun r hr => by
      have ha := add_row r o (by have := hi.2.2 r hr; omega)
      exact ⟨[a0, a1, a2, a3, a4, a5, a6, a7, a8, a9, a10, a11, a12, a13, a14, a15, a16, a17, .fz (.str o), a19, .ow (.list (rows.map encN)), a21, a22, .fz (encN r), a24, a25], .sh, by simp, by simp [e_law_4, s1, ha], by simp⟩)
    have he : rows.map (fun r => encN (r ++ [o])) = (rows.map fun r => r ++ [o]).map encN := by rw [List.map_map]; rfl
    rw [List.nil_append, he] at hc
    have hadd : binV .Add (.list (rows.map encN)) (.list ((rows.map fun r => r ++ [o]).map encN)) = some (.list ((stepW rows o).map encN), .fr) := by
      rw [addLL _ _ (by simp; omega), ← List.map_append]; rfl
    exact ⟨by simp [b_law_5, als, alsO, alsI, alss, mods, modsO, modsI, modss, hc, hadd, -List.map_map], okW_step o hi⟩)
  exact e1
theorem comp_able (n : Nat) (gs : List Grp) (hl : gs.length ≤ 10) (a0 a1 a2 a3 a5 a6 a7 a8 a9 a10 a11 a12 a13 a14 a15 a16 a17 a19 a21 a22 a24 a25 : Sl) : compE (phi tbl gls (n+1)) gls [23] (.nm 23) c_law_2 e_law_3 ((rowsF (objs gs)).map encN) [] [a0, a1, a2, a3, .fz (encGs gs), a5, a6, a7, a8, a9, a10, a11, a12, a13, a14, a15, a16, a17, .no, a19, .ow (.list ((rowsF (objs gs)).map encN)), a21, a22, .no, a24, a25] = some (((rowsF (objs gs)).filter (clearB gs)).map keyR, [a0, a1, a2, a3, .fz (encGs gs), a5, a6, a7, a8, a9, a10, a11, a12, a13, a14, a15, a16, a17, .no, a19, .ow (.list ((rowsF (objs gs)).map encN)), a21, a22, .no, a24, a25]) := by
  have hz : (10000 : Nat) < sizeLine := by decide
  have s0 : (0 : Nat) ≤ sizeLine := by decide
  have s2 : (2 : Nat) ≤ sizeLine := by decide
  have hrl := rows_le gs hl
  generalize rowsF (objs gs) = RW at *
  exact compE_pf (Φ := phi tbl gls (n+1)) (gl := gls) (vs := [23]) (g := .nm 23) (c := c_law_2) (e := e_law_3) (ρ := [a0, a1, a2, a3, .fz (encGs gs), a5, a6, a7, a8, a9, a10, a11, a12, a13, a14, a15, a16, a17, .no, a19, .ow (.list (RW.map encN)), a21, a22, .no, a24, a25]) encN (clearB gs) keyR RW [] (by simp; omega) (fun r _ => by
    have hc := compE_pf (Φ := phi tbl gls (n+1)) (gl := gls) (vs := [18]) (g := .nm 18) (c := c_law_1) (e := .var 18) (ρ := [a0, a1, a2, a3, .fz (encGs gs), a5, a6, a7, a8, a9, a10, a11, a12, a13, a14, a15, a16, a17, .no, a19, .ow (.list (RW.map encN)), a21, a22, .fz (encN r), a24, a25]) encG (fun g => !decide (g.2.2.2 ∈ r)) encG gs [] (by simp; omega) (fun g _ => by
      have hin := in_N r g.2.2.2
      exact ⟨[a0, a1, a2, a3, .fz (encGs gs), a5, a6, a7, a8, a9, a10, a11, a12, a13, a14, a15, a16, a17, .fz (encG g), a19, .ow (.list (RW.map encN)), a21, a22, .fz (encN r), a24, a25], .sh, by simp, by simp [c_law_1, hin], fun _ => by simp, by simp⟩)
    rw [List.nil_append] at hc
    change compE _ _ _ _ _ _ _ _ _ = some ((leftG gs r).map encG, _) at hc
    have hll : (leftG gs r).length ≤ gs.length := List.length_filter_le ..
    have h24 : phi tbl gls (n+1) 24 [.list ((leftG gs r).map encG)] = _ := phi__law_twins n (leftG gs r) _ rfl (by omega)
    have heq : cmpV .Eq (.list ((twL (leftG gs r)).map PyData.str)) (.list []) = some (clearB gs r) := by
      unfold clearB
      cases twL (leftG gs r) <;> rfl
    exact ⟨[a0, a1, a2, a3, .fz (encGs gs), a5, a6, a7, a8, a9, a10, a11, a12, a13, a14, a15, a16, a17, .no, a19, .ow (.list (RW.map encN)), a21, a22, .fz (encN r), a24, a25], .sh, by simp, by simp [c_law_2, hc, h24, heq, s0], fun _ => by simp [e_law_3, len_N, keyR, s2], by simp⟩)
end LW

namespace LW
open PySem PySem.Spec PyProof.Rows L2 PP
theorem aOk_choose (gs : List Grp) (hl : gs.length ≤ 10) : aOk 2 (chooseV gs) := by
  have h1 := keptZ_len gs
  have h2 := sortI_len (keptZ gs)
  unfold chooseV
  cases badO gs with
  | none =>
    dsimp only
    rw [aOk_t]
    refine ⟨by simp, fun x hx => ?_⟩
    simp only [List.mem_cons, List.not_mem_nil, or_false] at hx
    rcases hx with rfl | rfl
    · simp
    · exact aOk_ints 0 _ (by omega)
  | some nm =>
    dsimp only
    rw [aOk_t]
    refine ⟨by simp, fun x hx => ?_⟩
    simp only [List.mem_cons, List.not_mem_nil, or_false] at hx
    rcases hx with rfl | rfl | rfl <;> simp
theorem imm_choose (gs : List Grp) : immD (chooseV gs) = true := by
  unfold chooseV
  cases badO gs <;> simp
theorem alike_1 (n : Nat) (gs : List Grp) (hl : gs.length ≤ 10) : phi tbl gls (n+4) 21 [.tuple [encN (names gs), chooseV gs, .bool true], .tuple [encN (names gs), chooseV gs, .bool true]] = some (.bool true, []) := phi_alike 3 n _ (by
  have h1 := names_len gs
  rw [aOk_t]
  refine ⟨by simp, fun x hx => ?_⟩
  simp only [List.mem_cons, List.not_mem_nil, or_false] at hx
  rcases hx with rfl | rfl | rfl
  · exact aOk_strs 1 _ (by omega)
  · exact aOk_choose gs hl
  · simp)
theorem alike_2 (n : Nat) (gs : List Grp) (hl : gs.length ≤ 10) : phi tbl gls (n+3) 21 [.tuple [encN (hangL gs), encN ((objs gs).filter fun o => badB (seenA gs o)), encN (twL gs), .int (dropI gs)], .tuple [encN (hangL gs), encN ((objs gs).filter fun o => badB (seenA gs o)), encN (twL gs), .int (dropI gs)]] = some (.bool true, []) := phi_alike 2 n _ (by
  have h1 := names_len gs
  have h2 := objs_len gs
  have h3 : (hangL gs).length ≤ (names gs).length := List.length_filter_le ..
  have h4 : (twL gs).length ≤ (names gs).length := List.length_filter_le ..
  have h5 : ((objs gs).filter fun o => badB (seenA gs o)).length ≤ (objs gs).length := List.length_filter_le ..
  rw [aOk_t]
  refine ⟨by simp, fun x hx => ?_⟩
  simp only [List.mem_cons, List.not_mem_nil, or_false] at hx
  rcases hx with rfl | rfl | rfl | rfl
  · exact aOk_strs 0 _ (by omega)
  · exact aOk_strs 0 _ (by omega)
  · exact aOk_strs 0 _ (by omega)
  · simp)
theorem due_case (gs : List Grp) : (wrongL gs = [] ∧ chooseV gs = .tuple [.str (Str.ofString "yes"), encI (sortI (keptZ gs))]) ∨ ∃ nm rest, wrongL gs = nm :: rest ∧ chooseV gs = .tuple [.str (Str.ofString "no"), .str nm, encO (wrongO gs nm)] := by
  have h : (wrongL gs).head? = badO gs := List.head?_filter
  unfold chooseV
  cases hw : wrongL gs with
  | nil => rw [hw] at h; rw [← h]; exact .inl ⟨rfl, rfl⟩
  | cons nm rest => rw [hw] at h; rw [← h]; exact .inr ⟨nm, rest, rfl, rfl⟩
theorem imm_wrows (gs : List Grp) : ∀ xs : List Str, immAll (xs.map (wrow gs)) = true := fun xs => by induction xs <;> simp [*, wrow]
theorem turn_law (n : Nat) (ms : List Int) (hm : ∀ z, z ∈ ms → 0 ≤ z) (k : Int) (hk : 0 ≤ k) (x0 : Sl) (i : Int) : ∃ k', 0 ≤ k' ∧ turnE (phi tbl gls (n+10)) gls [] (.nm 2) b_law_32 [2, 3, 4, 5, 6, 7, 8, 9, 10, 11, 12, 13, 14, 15, 16, 17, 18, 19, 20, 21] (.int i) [x0, .ow (wS ms k), .no, .no, .no, .no, .no, .no, .no, .no, .no, .no, .no, .no, .no, .no, .no, .no, .no, .no, .no, .no, .no, .no, .no, .no] = some (.nx [x0, .ow (wS ms k'), .no, .no, .no, .no, .no, .no, .no, .no, .no, .no, .no, .no, .no, .no, .no, .no, .no, .no, .no, .no, .no, .no, .no, .no]) := by
  have hz : (10000 : Nat) < sizeLine := by decide
  have s0 : (0 : Nat) ≤ sizeLine := by decide
  have s1 : (1 : Nat) ≤ sizeLine := by decide
  have s2 : (2 : Nat) ≤ sizeLine := by decide
  have s3 : (3 : Nat) ≤ sizeLine := by decide
  have s4 : (4 : Nat) ≤ sizeLine := by decide
  have s5 : (5 : Nat) ≤ sizeLine := by decide
  have s8 : (8 : Nat) ≤ sizeLine := by decide
  obtain ⟨ws, hws, e1⟩ := pick_wy (n+8) ms hm k hk
  change phi tbl gls (n+10) 20 [_, .list [.list [.str (Str.ofString "any"), .str (Str.ofString "any"), .str (Str.ofString "same")], .list [.str (Str.ofString "any"), .str (Str.ofString "samesize"), .str (Str.ofString "same"), .str (Str.ofString "largest"), .str (Str.ofString "none")], .list [.str (Str.ofString "any"), .str (Str.ofString "largest")]]] = _ at e1
  obtain ⟨m, m0, m1, e2⟩ := phi__law_next (n+9) ms hm (k+1) (by omega) 8 (by omega)
  have hr2 := rngD_1 (j := m) m0 (by omega)
  obtain ⟨gs, k1, hk1, hg, hc2⟩ := comp_groups (n+8) ms hm (k+1+1) (by omega) ws hws m.toNat (by omega) (.fz (.list (ws.map .str))) (.inr rfl) (x0) (.fz (.int i)) .no .no .no .no .no .no .no .no .no .no .no .no .no .no .no .no .no .no .no .no .no
  have hl := hg.1
  have hl5 : gs.length ≤ 50 := by omega
  have hc3 := comp_nmd (phi tbl gls (n+10)) gs hl5 (x0) (.ow (wS ms k1)) (.fz (.int i)) (.fz (.list (ws.map .str))) (.fz (encGs gs)) .no .no .no .no .no .no .no .no .no .no .no .no .no .no .no .no .no .no .no .no
  obtain ⟨D1, d11, d12, -⟩ := sorted_dict (gs.map (·.1)) (by simpa using hl5)
  change v_sorted _ = some (.list ((names gs).map .str), _) at d12
  have hc3b := comp_obd (phi tbl gls (n+10)) gs hl5 (x0) (.ow (wS ms k1)) (.fz (.int i)) (.fz (.list (ws.map .str))) (.fz (encGs gs)) .no .no .no .no .no .no .no .no .no .no .no .no .no .no .no .no .no .no .no .no
  obtain ⟨D2, d21, d22, -⟩ := sorted_dict (gs.map (·.2.2.2)) (by simpa using hl5)
  change v_sorted _ = some (.list ((objs gs).map .str), _) at d22
  have hc4 := comp_kept (n+9) gs hg (x0) (.ow (wS ms k1)) (.fz (.int i)) (.fz (.list (ws.map .str))) (.ow (.list ((names gs).map .str))) (.ow (.list ((objs gs).map .str))) .no .no .no .no .no .no .no .no .no .no .no .no .no .no .no .no .no .no
  have hc5 := comp_wrong (n+9) gs hg (x0) (.ow (wS ms k1)) (.fz (.int i)) (.fz (.list (ws.map .str))) (.ow (.list ((names gs).map .str))) (.ow (.list ((objs gs).map .str))) (.ow (.list ((keptZ gs).map .int))) .no .no .no .no .no .no .no .no .no .no .no .no .no .no .no .no .no
  have hiw := imm_wrows gs (wrongL gs)
  have hkl := keptZ_len gs
  have hsk := v_sorted_ints (keptZ gs) (by omega)
  have hdc := due_case gs
  have hadd : ∀ nm, binV .Add (.tuple [.str (Str.ofString "no")]) (wrow gs nm) = some (.tuple [.str (Str.ofString "no"), .str nm, encO (wrongO gs nm)], .sh) := fun nm => by
    rw [wrow, binV_addT]; exact if_pos s3
  have f5 : phi tbl gls (n+10) 5 [encGs gs] = _ := phi_group_names (n+8) gs hl5
  have f8 : phi tbl gls (n+10) 8 [encGs gs] = _ := phi_choose_groups (n+7) gs hg
  have f3 : phi tbl gls (n+10) 3 [encGs gs] = _ := phi_are_groups (n+7) gs hg
  have fa1 : phi tbl gls (n+10) 21 _ = _ := alike_1 (n+6) gs hl
  have hnl := names_len gs
  have hol := objs_len gs
  have hr8 := rngD_n (n := (names gs).length) (by omega)
  have hl8 := loop_name (n+7) gs hg (x0) (.ow (wS ms k1)) (.fz (.int i)) (.fz (.list (ws.map .str))) (.ow (.list ((objs gs).map .str))) (.ow (.list ((wrongL gs).map (wrow gs)))) (.fz (chooseV gs)) .no .no .no .no .no .no .no .no .no .no .no
  have hrv := rev_Gs gs
  have hc10 := comp_hang (n+9) gs hg (x0) (.ow (wS ms k1)) (.fz (.int i)) (.fz (.list (ws.map .str))) (.ow (.list ((objs gs).map .str))) (.ow (.list ((wrongL gs).map (wrow gs)))) (.fz (chooseV gs)) .no .no .no .no .no .no .no .no .no .no .no .no .no .no
  have hc11 := comp_sees (n+9) gs hg (.ow (.list ((names gs).map .str))) (.inl rfl) (x0) (.ow (wS ms k1)) (.fz (.int i)) (.fz (.list (ws.map .str))) (.ow (.list ((objs gs).map .str))) (.ow (.list ((keptZ gs).map .int))) (.ow (.list ((wrongL gs).map (wrow gs)))) (.fz (chooseV gs)) .no .no .no (.fz (encGs gs.reverse)) (.fz (encN (hangL gs))) .no .no .no .no .no .no .no .no
  obtain ⟨x5, x6, h5, h6, h11⟩ : ∃ x5 x6 : Sl, (x5 = .ow (.list ((names gs).map .str)) ∨ x5 = .fz (.list ((names gs).map .str))) ∧ (x6 = .ow (.list ((objs gs).map .str)) ∨ x6 = .fz (.list ((objs gs).map .str))) ∧ PP.run (phi tbl gls (n+10)) gls [] (.asg 15 (.comp [18] (.nm 18) (.seq (.var 6)) (.bl true) (e_law_19))) [x0, .ow (wS ms k1), .fz (.int i), .fz (.list (ws.map .str)), .fz (encGs gs), .ow (.list ((names gs).map .str)), .ow (.list ((objs gs).map .str)), .ow (.list ((keptZ gs).map .int)), .ow (.list ((wrongL gs).map (wrow gs))), .fz (chooseV gs), .no, .no, .no, .fz (encGs gs.reverse), .fz (encN (hangL gs)), .no, .no, .no, .no, .no, .no, .no, .no, .no, .no, .no] = some (.nx [x0, .ow (wS ms k1), .fz (.int i), .fz (.list (ws.map .str)), .fz (encGs gs), x5, x6, .ow (.list ((keptZ gs).map .int)), .ow (.list ((wrongL gs).map (wrow gs))), .fz (chooseV gs), .no, .no, .no, .fz (encGs gs.reverse), .fz (encN (hangL gs)), .ow (.list ((objs gs).map (srow gs))), .no, .no, .no, .no, .no, .no, .no, .no, .no, .no]) := by
    by_cases hi : immAll ((objs gs).map (srow gs)) = true
    · exact ⟨_, _, .inl rfl, .inl rfl, by simp [als, alsO, alsI, alss, mods, modsO, modsI, modss, hc11, hi]⟩
    · exact ⟨_, _, .inr rfl, .inr rfl, by simp [als, alsO, alsI, alss, mods, modsO, modsI, modss, hc11, hi]⟩
  have hc12 := comp_bad (phi tbl gls (n+10)) gs hl5 (x0) (.ow (wS ms k1)) (.fz (.int i)) (.fz (.list (ws.map .str))) (.fz (encGs gs)) (x5) (x6) (.ow (.list ((keptZ gs).map .int))) (.ow (.list ((wrongL gs).map (wrow gs)))) (.fz (chooseV gs)) .no .no .no (.fz (encGs gs.reverse)) (.fz (encN (hangL gs))) (.ow (.list ((objs gs).map (srow gs)))) .no .no .no .no .no .no .no .no
  have hr13 := rngD_n (n := gs.length) (by omega)
  have hc13 := comp_gone (phi tbl gls (n+10)) gs hg (x0) (.ow (wS ms k1)) (.fz (.int i)) (.fz (.list (ws.map .str))) (x5) (x6) (.ow (.list ((wrongL gs).map (wrow gs)))) (.fz (chooseV gs)) .no .no (.fz (encGs gs.reverse)) (.fz (encN (hangL gs))) (.ow (.list ((objs gs).map (srow gs)))) (.fz (encN ((objs gs).filter fun o => badB (seenA gs o)))) .no .no .no .no .no .no .no .no .no
  have hv13 := v_sum_m ((gs.zipIdx.filter fun z => !decide ((z.2 : Int) ∈ keptZ gs)).map fun z => (z.1.2.2.1.length : Int))
  change PP.v_sum _ = some (.int (dropI gs), _) at hv13
  have f11 : phi tbl gls (n+10) 11 [encGs gs] = _ := phi_groups_hang (n+7) gs hg
  have f13 : phi tbl gls (n+10) 13 [encGs gs] = _ := phi_misled (n+6) gs hg
  have f10 : phi tbl gls (n+10) 10 [encGs gs] = _ := phi_unlike_twins (n+7) gs hl5
  have f9 : phi tbl gls (n+10) 9 [encGs gs] = _ := phi_signs_dropped (n+7) gs hg
  have f24 : phi tbl gls (n+10) 24 [encGs gs] = _ := phi__law_twins (n+9) gs _ rfl hl5
  have fa2 : phi tbl gls (n+10) 21 _ = _ := alike_2 (n+7) gs hl
  have hl15 := loop_sees (n+7) gs hg (.list ((objs gs).map (srow gs))) (x0) (.ow (wS ms k1)) (.fz (.int i)) (.fz (.list (ws.map .str))) (x5) (x6) (.ow (.list ((keptZ gs).map .int))) (.ow (.list ((wrongL gs).map (wrow gs)))) (.fz (chooseV gs)) .no .no .no (.fz (encGs gs.reverse)) (.fz (encN (hangL gs))) (.fz (encN ((objs gs).filter fun o => badB (seenA gs o)))) (.fz (.int (dropI gs))) .no .no .no .no .no .no
  obtain ⟨L16, hc16, hv16⟩ := comp_kd (phi tbl gls (n+10)) gs hl5 (x0) (.ow (wS ms k1)) (.fz (.int i)) (.fz (.list (ws.map .str))) (x5) (x6) (.ow (.list ((wrongL gs).map (wrow gs)))) (.fz (chooseV gs)) .no .no (.fz (encGs gs.reverse)) (.fz (encN (hangL gs))) (.fz (.list ((objs gs).map (srow gs)))) (.fz (encN ((objs gs).filter fun o => badB (seenA gs o)))) (.fz (.int (dropI gs))) .no .no .no .no .no .no .no
  have f17 : phi tbl gls (n+10) 17 [encGs gs] = _ := phi_kept_by_objects (n+7) gs hg
  have hn16 := ne_kept gs
  obtain ⟨L17, hc17, hv17⟩ := comp_bd (phi tbl gls (n+10)) gs hl5 x5 h5 (x0) (.ow (wS ms k1)) (.fz (.int i)) (.fz (.list (ws.map .str))) (x6) (.ow (.list ((keptZ gs).map .int))) (.ow (.list ((wrongL gs).map (wrow gs)))) (.fz (chooseV gs)) .no .no .no (.fz (encGs gs.reverse)) (.fz (encN (hangL gs))) (.fz (.list ((objs gs).map (srow gs)))) (.fz (encN ((objs gs).filter fun o => badB (seenA gs o)))) (.fz (.int (dropI gs))) .no .no .no .no .no
  have f16 : phi tbl gls (n+10) 16 [encGs gs] = _ := phi_brought_by (n+8) gs hl5
  have hn17 := ne_brought gs
  have hl19 := loop_sets (phi tbl gls (n+10)) gs hl (x0) (.ow (wS ms k1)) (.fz (.int i)) (.fz (.list (ws.map .str))) (.fz (encGs gs)) (x5) (.fz (.list ((objs gs).map .str))) (.ow (.list ((keptZ gs).map .int))) (.ow (.list ((wrongL gs).map (wrow gs)))) (.fz (chooseV gs)) .no .no .no (.fz (encGs gs.reverse)) (.fz (encN (hangL gs))) (.fz (.list ((objs gs).map (srow gs)))) (.fz (encN ((objs gs).filter fun o => badB (seenA gs o)))) (.fz (.int (dropI gs))) .no .no .no .no .no
  have hc20 := comp_able (n+9) gs hl (x0) (.ow (wS ms k1)) (.fz (.int i)) (.fz (.list (ws.map .str))) (x5) (.fz (.list ((objs gs).map .str))) (.ow (.list ((keptZ gs).map .int))) (.ow (.list ((wrongL gs).map (wrow gs)))) (.fz (chooseV gs)) .no .no .no (.fz (encGs gs.reverse)) (.fz (encN (hangL gs))) (.fz (.list ((objs gs).map (srow gs)))) (.fz (encN ((objs gs).filter fun o => badB (seenA gs o)))) (.fz (.int (dropI gs))) .no .no .no .no .no
  have hrl := rows_le gs hl
  have hfl : ((rowsF (objs gs)).filter (clearB gs)).length ≤ (rowsF (objs gs)).length := List.length_filter_le ..
  have hso := v_sorted_rows ((rowsF (objs gs)).filter (clearB gs)) (by omega)
  obtain ⟨rest, hrh⟩ := rest_head gs
  rw [sortR_filter, hrh] at hso
  have hrr : (restR gs).length ≤ 10 := by
    have : restR gs ∈ (sortR (rowsF (objs gs))).filter (clearB gs) := by rw [hrh]; exact List.mem_cons_self ..
    exact okW_rows gs hl _ ((sortR_perm _).mem_iff.mp (List.mem_filter.mp this).1)
  have f14 : phi tbl gls (n+10) 14 [encGs gs] = _ := phi_fewest_rebuilt (n+6) gs hg
  have fa3 : phi tbl gls (n+10) 21 [encN (restR gs), encN (restR gs)] = _ := phi_alike 1 (n+8) _ (aOk_strs 0 _ (by omega))
  have ik : ixV (keyR (restR gs)) (.int 1) = some (encN (restR gs)) := by simp [keyR]
  have hadd2 : ∀ b : PyData, binV .Add (encGs gs) (.tuple [b]) = some (gsBad gs b, .sh) := fun b => by rw [encGs, binV_addT, if_pos (by simp; omega)]; rfl
  have hlst : biV .list [encGs gs] = some (.list (gs.map encG), .fr) := rfl
  have hl22 := loop_bad (n+7) gs hg (x0) (.ow (wS ms k1)) (.fz (.int i)) (.fz (.list (ws.map .str))) (.fz (encGs gs)) (x5) (.fz (.list ((objs gs).map .str))) (.ow (.list ((keptZ gs).map .int))) (.ow (.list ((wrongL gs).map (wrow gs)))) (.fz (chooseV gs)) .no .no .no (.fz (encGs gs.reverse)) (.fz (encN (hangL gs))) (.fz (.list ((objs gs).map (srow gs)))) (.fz (.int (dropI gs))) .no .no (.ow (.list ((rowsF (objs gs)).map encN))) (.ow (.list ((restR gs :: rest).map keyR))) .no .no .no .no
  refine ⟨k1, by omega, ?_⟩
  rw [turnE_eq, asgG_nm]
  simp only [List.length_cons, List.length_nil, List.set]
  rw [if_pos (by decide), runA_some]
  unfold b_law_32
  rw [runs_step (ρ1 := [x0, .ow (wS ms (k+1)), .fz (.int i), .fz (.list (ws.map .str)), .no, .no, .no, .no, .no, .no, .no, .no, .no, .no, .no, .no, .no, .no, .no, .no, .no, .no, .no, .no, .no, .no]) (by simp [als, alsO, alsI, alss, mods, modsO, modsI, modss, e1, s2, s3, s5])]
  rw [runs_step (ρ1 := [x0, .ow (wS ms k1), .fz (.int i), .fz (.list (ws.map .str)), .fz (encGs gs), .no, .no, .no, .no, .no, .no, .no, .no, .no, .no, .no, .no, .no, .no, .no, .no, .no, .no, .no, .no, .no]) (by simp [als, alsO, alsI, alss, mods, modsO, modsI, modss, e2, hr2, hc2, tup_Gs])]
  rw [runs_step (ρ1 := [x0, .ow (wS ms k1), .fz (.int i), .fz (.list (ws.map .str)), .fz (encGs gs), .ow (.list ((names gs).map .str)), .ow (.list ((objs gs).map .str)), .no, .no, .no, .no, .no, .no, .no, .no, .no, .no, .no, .no, .no, .no, .no, .no, .no, .no, .no]) (by simp [als, alsO, alsI, alss, mods, modsO, modsI, modss, hc3, d11, d12, hc3b, d21, d22, -List.map_map])]
  rw [runs_step (ρ1 := [x0, .ow (wS ms k1), .fz (.int i), .fz (.list (ws.map .str)), .fz (encGs gs), .ow (.list ((names gs).map .str)), .ow (.list ((objs gs).map .str)), .ow (.list ((keptZ gs).map .int)), .no, .no, .no, .no, .no, .no, .no, .no, .no, .no, .no, .no, .no, .no, .no, .no, .no, .no]) (by simp [als, alsO, alsI, alss, mods, modsO, modsI, modss, hc4])]
  rw [runs_step (ρ1 := [x0, .ow (wS ms k1), .fz (.int i), .fz (.list (ws.map .str)), .fz (encGs gs), .ow (.list ((names gs).map .str)), .ow (.list ((objs gs).map .str)), .ow (.list ((keptZ gs).map .int)), .ow (.list ((wrongL gs).map (wrow gs))), .no, .no, .no, .no, .no, .no, .no, .no, .no, .no, .no, .no, .no, .no, .no, .no, .no]) (by simp [als, alsO, alsI, alss, mods, modsO, modsI, modss, hc5, hiw])]
  rw [runs_step (ρ1 := [x0, .ow (wS ms k1), .fz (.int i), .fz (.list (ws.map .str)), .fz (encGs gs), .ow (.list ((names gs).map .str)), .ow (.list ((objs gs).map .str)), .ow (.list ((keptZ gs).map .int)), .ow (.list ((wrongL gs).map (wrow gs))), .fz (chooseV gs), .no, .no, .no, .no, .no, .no, .no, .no, .no, .no, .no, .no, .no, .no, .no, .no]) (by 
    rcases hdc with ⟨w1, w2⟩ | ⟨nm, rest, w1, w2⟩
    · rw [w1, w2]; simp [als, alsO, alsI, alss, mods, modsO, modsI, modss, hsk, s2, tup_I]
    · rw [w1, w2]; simp [als, alsO, alsI, alss, mods, modsO, modsI, modss, hadd, s1])]
  rw [runs_step (ρ1 := [x0, .ow (wS ms k1), .fz (.int i), .fz (.list (ws.map .str)), .fz (encGs gs), .ow (.list ((names gs).map .str)), .ow (.list ((objs gs).map .str)), .ow (.list ((keptZ gs).map .int)), .ow (.list ((wrongL gs).map (wrow gs))), .fz (chooseV gs), .no, .no, .no, .no, .no, .no, .no, .no, .no, .no, .no, .no, .no, .no, .no, .no]) (by simp [als, alsO, alsI, alss, mods, modsO, modsI, modss, f5, f8, f3, fa1, s3, tup_N])]
  rw [runs_step (by
    rw [run_for, evIt_eq]
    simp [als, alsO, alsI, alss, mods, modsO, modsI, modss, hr8]
    exact hl8)]
  rw [runs_step (ρ1 := [x0, .ow (wS ms k1), .fz (.int i), .fz (.list (ws.map .str)), .fz (encGs gs), .ow (.list ((names gs).map .str)), .ow (.list ((objs gs).map .str)), .ow (.list ((keptZ gs).map .int)), .ow (.list ((wrongL gs).map (wrow gs))), .fz (chooseV gs), .no, .no, .no, .fz (encGs gs.reverse), .no, .no, .no, .no, .no, .no, .no, .no, .no, .no, .no, .no]) (by simp [als, alsO, alsI, alss, mods, modsO, modsI, modss, hrv])]
  rw [runs_step (ρ1 := [x0, .ow (wS ms k1), .fz (.int i), .fz (.list (ws.map .str)), .fz (encGs gs), .ow (.list ((names gs).map .str)), .ow (.list ((objs gs).map .str)), .ow (.list ((keptZ gs).map .int)), .ow (.list ((wrongL gs).map (wrow gs))), .fz (chooseV gs), .no, .no, .no, .fz (encGs gs.reverse), .fz (encN (hangL gs)), .no, .no, .no, .no, .no, .no, .no, .no, .no, .no, .no]) (by simp [als, alsO, alsI, alss, mods, modsO, modsI, modss, hr8, hc10, tup_N])]
  rw [runs_step h11]
  rw [runs_step (ρ1 := [x0, .ow (wS ms k1), .fz (.int i), .fz (.list (ws.map .str)), .fz (encGs gs), x5, x6, .ow (.list ((keptZ gs).map .int)), .ow (.list ((wrongL gs).map (wrow gs))), .fz (chooseV gs), .no, .no, .no, .fz (encGs gs.reverse), .fz (encN (hangL gs)), .ow (.list ((objs gs).map (srow gs))), .fz (encN ((objs gs).filter fun o => badB (seenA gs o))), .no, .no, .no, .no, .no, .no, .no, .no, .no]) (by simp [als, alsO, alsI, alss, mods, modsO, modsI, modss, hc12, tup_N])]
  rw [runs_step (ρ1 := [x0, .ow (wS ms k1), .fz (.int i), .fz (.list (ws.map .str)), .fz (encGs gs), x5, x6, .ow (.list ((keptZ gs).map .int)), .ow (.list ((wrongL gs).map (wrow gs))), .fz (chooseV gs), .no, .no, .no, .fz (encGs gs.reverse), .fz (encN (hangL gs)), .ow (.list ((objs gs).map (srow gs))), .fz (encN ((objs gs).filter fun o => badB (seenA gs o))), .fz (.int (dropI gs)), .no, .no, .no, .no, .no, .no, .no, .no]) (by simp [als, alsO, alsI, alss, mods, modsO, modsI, modss, len_Gs, hr13, hc13, hv13, -List.map_map])]
  rw [runs_step (ρ1 := [x0, .ow (wS ms k1), .fz (.int i), .fz (.list (ws.map .str)), .fz (encGs gs), x5, x6, .ow (.list ((keptZ gs).map .int)), .ow (.list ((wrongL gs).map (wrow gs))), .fz (chooseV gs), .no, .no, .no, .fz (encGs gs.reverse), .fz (encN (hangL gs)), .ow (.list ((objs gs).map (srow gs))), .fz (encN ((objs gs).filter fun o => badB (seenA gs o))), .fz (.int (dropI gs)), .no, .no, .no, .no, .no, .no, .no, .no]) (by simp [als, alsO, alsI, alss, mods, modsO, modsI, modss, f11, f13, f10, f9, f24, fa2, s4, tup_N])]
  rw [runs_step (by
    rw [run_for, evIt_eq]
    simp [als, alsO, alsI, alss, mods, modsO, modsI, modss]
    exact hl15)]
  rw [runs_step (ρ1 := [x0, .ow (wS ms k1), .fz (.int i), .fz (.list (ws.map .str)), .fz (encGs gs), x5, x6, .ow (.list ((keptZ gs).map .int)), .ow (.list ((wrongL gs).map (wrow gs))), .fz (chooseV gs), .no, .no, .no, .fz (encGs gs.reverse), .fz (encN (hangL gs)), .fz (.list ((objs gs).map (srow gs))), .fz (encN ((objs gs).filter fun o => badB (seenA gs o))), .fz (.int (dropI gs)), .no, .no, .no, .no, .no, .no, .no, .no]) (by rcases h6 with rfl | rfl <;> simp [als, alsO, alsI, alss, mods, modsO, modsI, modss, f17, hc16, hv16, hn16])]
  rw [runs_step (ρ1 := [x0, .ow (wS ms k1), .fz (.int i), .fz (.list (ws.map .str)), .fz (encGs gs), x5, x6, .ow (.list ((keptZ gs).map .int)), .ow (.list ((wrongL gs).map (wrow gs))), .fz (chooseV gs), .no, .no, .no, .fz (encGs gs.reverse), .fz (encN (hangL gs)), .fz (.list ((objs gs).map (srow gs))), .fz (encN ((objs gs).filter fun o => badB (seenA gs o))), .fz (.int (dropI gs)), .no, .no, .no, .no, .no, .no, .no, .no]) (by rcases h6 with rfl | rfl <;> simp [als, alsO, alsI, alss, mods, modsO, modsI, modss, f16, hc17, hv17, hn17])]
  rw [runs_step (ρ1 := [x0, .ow (wS ms k1), .fz (.int i), .fz (.list (ws.map .str)), .fz (encGs gs), x5, x6, .ow (.list ((keptZ gs).map .int)), .ow (.list ((wrongL gs).map (wrow gs))), .fz (chooseV gs), .no, .no, .no, .fz (encGs gs.reverse), .fz (encN (hangL gs)), .fz (.list ((objs gs).map (srow gs))), .fz (encN ((objs gs).filter fun o => badB (seenA gs o))), .fz (.int (dropI gs)), .no, .no, .ow (.list [.tuple []]), .no, .no, .no, .no, .no]) (by simp [als, alsO, alsI, alss, mods, modsO, modsI, modss, s0, s1])]
  rw [runs_step (ρ1 := [x0, .ow (wS ms k1), .fz (.int i), .fz (.list (ws.map .str)), .fz (encGs gs), x5, .fz (.list ((objs gs).map .str)), .ow (.list ((keptZ gs).map .int)), .ow (.list ((wrongL gs).map (wrow gs))), .fz (chooseV gs), .no, .no, .no, .fz (encGs gs.reverse), .fz (encN (hangL gs)), .fz (.list ((objs gs).map (srow gs))), .fz (encN ((objs gs).filter fun o => badB (seenA gs o))), .fz (.int (dropI gs)), .no, .no, .ow (.list ((rowsF (objs gs)).map encN)), .no, .no, .no, .no, .no]) (by rcases h6 with rfl | rfl <;> (rw [run_for, evIt_eq]; simp [als, alsO, alsI, alss, mods, modsO, modsI, modss]; exact hl19))]
  rw [runs_step (ρ1 := [x0, .ow (wS ms k1), .fz (.int i), .fz (.list (ws.map .str)), .fz (encGs gs), x5, .fz (.list ((objs gs).map .str)), .ow (.list ((keptZ gs).map .int)), .ow (.list ((wrongL gs).map (wrow gs))), .fz (chooseV gs), .no, .no, .no, .fz (encGs gs.reverse), .fz (encN (hangL gs)), .fz (.list ((objs gs).map (srow gs))), .fz (encN ((objs gs).filter fun o => badB (seenA gs o))), .fz (.int (dropI gs)), .no, .no, .ow (.list ((rowsF (objs gs)).map encN)), .ow (.list ((restR gs :: rest).map keyR)), .no, .no, .no, .no]) (by simp [als, alsO, alsI, alss, mods, modsO, modsI, modss, hc20, hso])]
  rw [runs_step (ρ1 := [x0, .ow (wS ms k1), .fz (.int i), .fz (.list (ws.map .str)), .fz (encGs gs), x5, .fz (.list ((objs gs).map .str)), .ow (.list ((keptZ gs).map .int)), .ow (.list ((wrongL gs).map (wrow gs))), .fz (chooseV gs), .no, .no, .no, .fz (encGs gs.reverse), .fz (encN (hangL gs)), .fz (.list ((objs gs).map (srow gs))), .fz (encN ((objs gs).filter fun o => badB (seenA gs o))), .fz (.int (dropI gs)), .no, .no, .ow (.list ((rowsF (objs gs)).map encN)), .ow (.list ((restR gs :: rest).map keyR)), .no, .no, .no, .no]) (by simp [als, alsO, alsI, alss, mods, modsO, modsI, modss, f14, fa3, ik])]
  rw [runs_step (by
    rw [run_for, evIt_eq]
    simp [als, alsO, alsI, alss, mods, modsO, modsI, modss, hadd2, hlst, s1, s3, s4, s8, -biV_list]
    exact hl22)]
  simp [runs_nil]
end LW

namespace LW
open PySem PySem.Spec PyProof.Rows L2 PP
theorem dict0 (ms : List Int) : dictOf (wD ms "draws" [("at", 0)]) = some (wKvs ms [] 0) := rfl
theorem plainN (n : Nat) (ms : List Int) (hm0 : ∀ z, z ∈ ms → 0 ≤ z) (x0 : Sl) : ∃ ρ', runs (phi tbl gls (n+10)) gls [] b_law [x0, .ow (wS ms 0), .no, .no, .no, .no, .no, .no, .no, .no, .no, .no, .no, .no, .no, .no, .no, .no, .no, .no, .no, .no, .no, .no, .no, .no] = some (.rt (.bool true) ρ') := by
  obtain ⟨ρ', e, k', h1, rfl⟩ := forE_rel (Φ := phi tbl gls (n+10)) (gl := gls) (ios := []) (g := .nm 2) (b := b_law_32) (dead := [2, 3, 4, 5, 6, 7, 8, 9, 10, 11, 12, 13, 14, 15, 16, 17, 18, 19, 20, 21]) PyData.int (fun _ ρ => ∃ k, 0 ≤ k ∧ ρ = [x0, .ow (wS ms k), .no, .no, .no, .no, .no, .no, .no, .no, .no, .no, .no, .no, .no, .no, .no, .no, .no, .no, .no, .no, .no, .no, .no, .no]) (by
    rintro i is ρ ⟨k, h1, rfl⟩
    obtain ⟨k', g1, e⟩ := turn_law n ms hm0 k h1 x0 i
    exact ⟨_, e, k', g1, rfl⟩) (rangeI 0 8) [x0, .ow (wS ms 0), .no, .no, .no, .no, .no, .no, .no, .no, .no, .no, .no, .no, .no, .no, .no, .no, .no, .no, .no, .no, .no, .no, .no, .no] ⟨0, by omega, by simp⟩
  rw [← iidx_eq] at e
  refine ⟨[x0, .ow (wS ms k'), .no, .no, .no, .no, .no, .no, .no, .no, .no, .no, .no, .no, .no, .no, .no, .no, .no, .no, .no, .no, .no, .no, .no, .no], ?_⟩
  unfold b_law
  rw [runs_step (by
    rw [run_for, evIt_eq]
    simp [als, alsO, alsI, alss, mods, modsO, modsI, modss, show rngD [PyData.int 8] = some (iidx 0 8) from rfl]
    exact e)]
  simp [als, alsO, alsI, alss, mods, modsO, modsI, modss]
theorem plain : Plain 199 := by
  intro ms hlen hm
  obtain ⟨ρ', e⟩ := plainN 189 ms (fun z h => (hm z h).1) _
  exact ⟨wKvs ms [] 0, ρ', dict0 ms, e⟩
end LW

open PySem PySem.W PySem.Calls PyProof.Rows
theorem PySem.Challenge.cw_linkwright_k25_groups_that_many_bring_holds : PySem.Challenge.rw_linkwright_k25_groups_that_many_bring.Holds := by
  w_on; o_law
  refine HandSHeadRun.head_any (r := OpenLaw.row PySem.Challenge.rw_linkwright_k25_groups_that_many_bring) (q := view (OpenLaw.row PySem.Challenge.rw_linkwright_k25_groups_that_many_bring).prog [31]) (H := LW.hk) (ob := LW.ob) (M := 4000) (loose := LW.loose1) (d := HandSHeadRun.topDef (OpenLaw.row PySem.Challenge.rw_linkwright_k25_groups_that_many_bring).prog 31) (kwd := []) LW.ob_eq
    (by kernel_rfl) (fun s => by kernel_rfl) LW.run (by kernel_rfl) (by kernel_rfl) (by kernel_rfl) (by rfl) (by first | assumption | decide +kernel) (by decide +kernel) ⟨rfl, rfl, rfl, rfl, rfl, by decide +kernel⟩ ?hw ?hc
  case hw => w_witness2
  case hc =>
    refine L2.walk_ofE (l := PySem.Challenge.rw_linkwright_k25_groups_that_many_bring) (n := 63) (k := 200) (x := "script") (CX := L2.CX0) rfl (by decide) (by kernel_rfl) ⟨rfl, by decide, by decide⟩ ?F (fun _ _ _ _ z => z)
    intro w mg fa h Y G hmg0
    obtain ⟨K, KX, ct, c⟩ := Y
    have hmg : mg ("law" : PySem.Str) = some (.ref fa) := by
      have e : (HandSHeadRun.topDef (OpenLaw.row PySem.Challenge.rw_linkwright_k25_groups_that_many_bring).prog 31).name = ("law" : PySem.Str) := by kernel_rfl
      rw [← e]
      exact hmg0
    obtain ⟨fd, hb, hF⟩ := LW.ends (P := (PySem.Challenge.rw_linkwright_k25_groups_that_many_bring).prog) (w := w) LW.plain KX G hmg ct c
    exact ⟨K, fd, PP.spLaw K, KX, hb, fun H a ns hl _ hS => ⟨a, ns, rfl, hS, hl, fun _ => rfl⟩, hF⟩
