import PyProof.Rows.All
import Wide.All
import OpenK.AllK
import Wide.FinOn
import KE.DataEq
import KE.DataFind
import KE.SortData
import KE.DataMinMax
import HandS.ForMost
import HandS.TupAny
import HandS.Text
import HandS.Style
import HandS.DictComp
import HandS.TupLen
import HandS.IsInst
import HandS.Conv
import HandS.More
import HandS.ListItems
import KE.KTupSum
import HandS.Words
import HandS.Defaults
import HandS.Zip
import HandS.Ends
import HandS.HeadHook1
import HandS.HeadHook2
import HandS.SetFor
import HandS.SetKeys
import KE.KStateDown
import Lean
import HandS.Base
import HandS.Call
import HandS.WordsExc
import HandS.Head0
import HandS.Head1
import HandS.Head2
import HandS.HeadEnd
import PySem.Challenge.RW_linkwright_k26_rooms_that_many_ask_for
set_option Elab.async false
set_option linter.all false
set_option maxRecDepth 100000
set_option maxHeartbeats 0
/-! PP1: a pure evaluator over plain data (PyData) for a small part of Python: deep syntax E, S. -/
namespace PP
open PySem PySem.Spec PyProof.Rows L2

inductive Fl where | sh | fr
  deriving DecidableEq
inductive Sl where | no | fz (d : PyData) | ow (d : PyData)
abbrev PEnv := List Sl

/-- built-in calls, fused forms too -/
inductive BI where
  | len | abs | int | str | sum | any | all | sorted | min | max | tuple | list | dict
  | isI (t : String)
  | lenSet | sortedSet | listRange | listItems | listVals | notInRange
  | get | index | join | mk (n : Nat)
  deriving DecidableEq

inductive G where
  | nm (i : Nat)
  | tp (gs : List G)

mutual
inductive E where
  | non | bl (b : Bool) | int (i : Int) | str (s : Str)
  | var (i : Nat) | io (i : Nat) | glob (g : Nat)
  | inG (neg : Bool) (a : E) (g : Nat) | ixG (g : Nat) (k : E)
  | box (e : E)
  | un (op : UnaryOp) (a : E)
  | bin (op : Operator) (a b : E)
  | cmp (op : CmpOp) (a b : E)
  | chain (op op' : CmpOp) (a b c : E)
  | bop (op : BoolOp) (a b : E)
  | ite (c a b : E)
  | tup (es : Es) | lst (es : Es) | dic (es : Es)
  | ix (a b : E)
  | sl (a : E) (lo hi : O)
  | rev (a : E)
  | bi (f : BI) (es : Es)
  | call (f : Nat) (es : Es)
  | comp (vs : List Nat) (g : G) (it : I) (c e : E)
  | comp2 (vs vs1 : List Nat) (g : G) (it : I) (c : E) (g1 : G) (it1 : I) (c1 e : E)
inductive O where | no | so (e : E)
inductive Es where | nil | cons (e : E) (es : Es)
inductive I where | seq (e : E) | dk (i : Nat) | glob (g : Nat) | rng (es : Es) | zip (a b : E) | enum (e : E)
end

mutual
inductive S where
  | asg (i : Nat) (e : E)
  | asgT (g : G) (e : E)
  | asgO (i j f : Nat) (es : Es)
  | asgD (is : List Nat) (es : Es)
  | setIx (i : Nat) (k e : E)
  | asgDS (i : Nat) (k : E) (j : Nat) (a b : E)
  | aug (i : Nat) (op : Operator) (e : E)
  | augIx (i : Nat) (k : E) (op : Operator) (e : E)
  | mut (m : String) (i : Nat) (e : E)
  | pop (g : G) (i : Nat)
  | ifs (c : E) (a b : Ss)
  | for_ (g : G) (it : I) (b : Ss) (dead : List Nat)
  | whil (c : E) (b : Ss) (dead : List Nat)
  | ret (e : E) | brk | frz (is : List Nat)
inductive Ss where | nil | cons (s : S) (ss : Ss)
end

/-! ### data -/
abbrev mxD : Nat := 40
/-- no dict within, not deep -/
def okD (d : PyData) : Bool := d.plain && decide (d.depth ≤ mxD)
mutual
/-- nothing mutable within -/
def immD : PyData → Bool
  | .none | .bool _ | .int _ | .str _ => true
  | .tuple xs => immAll xs
  | _ => false
def immAll : List PyData → Bool
  | [] => true
  | x :: xs => immD x && immAll xs
end
mutual
/-- no list within that begins with an int, no dict -/
def noIL : PyData → Bool
  | .list (.int _ :: _) => false
  | .list xs => noILs xs
  | .tuple xs => noILs xs
  | .dict _ => false
  | _ => true
def noILs : List PyData → Bool
  | [] => true
  | x :: xs => noIL x && noILs xs
end
def immTop : PyData → Bool
  | .list xs => immAll xs
  | .dict kvs => immAll (kvs.map (·.2))
  | d => immD d

def unV : UnaryOp → PyData → Option PyData
  | .USub, .int i => some (.int (-i))
  | .Not, .bool b => some (.bool (!b))
  | _, _ => none
def mulOk (i j : Int) : Bool := (decide (-(2 ^ 64) < i) && decide (i < 2 ^ 64)) || (decide (-(2 ^ 64) < j) && decide (j < 2 ^ 64))
def binV : Operator → PyData → PyData → Option (PyData × Fl)
  | .Add, .int i, .int j => some (.int (i + j), .sh)
  | .Add, .str a, .str b => if a.length + b.length ≤ sizeLine then some (.str (a ++ b), .sh) else none
  | .Add, .tuple xs, .tuple ys => if xs.length + ys.length ≤ sizeLine then some (.tuple (xs ++ ys), .sh) else none
  | .Add, .list xs, .list ys => if xs.length + ys.length ≤ sizeLine then some (.list (xs ++ ys), .fr) else none
  | .Sub, .int i, .int j => some (.int (i - j), .sh)
  | .Mult, .int i, .int j => if mulOk i j then some (.int (i * j), .sh) else none
  | .Mult, .list xs, .int j => if decide (-(2 ^ 63) ≤ j) && decide (j < 2 ^ 63) && decide (xs.length * j.toNat ≤ sizeLine) then some (.list (List.replicate j.toNat xs).flatten, .fr) else none
  | .FloorDiv, .int i, .int j => if decide (0 < j) && decide (j < 1073741824) then some (.int (i / j), .sh) else none
  | .Mod, .int i, .int j => if 0 < j then some (.int (i % j), .sh) else none
  | .Pow, .int i, .int j => if decide (0 ≤ j) && decide (j ≤ 1000000) && decide (i.natAbs < 2 ^ 64) then some (.int (i ^ j.toNat), .sh) else none
  | _, _, _ => none

/-! keys of dicts -/
def keyD : PyData → Option (Sum Int Str)
  | .int i => some (.inl i)
  | .str s => some (.inr s)
  | _ => none
def keysD : List PyData → Option (List (Sum Int Str))
  | [] => some []
  | x :: xs => do return (← keyD x) :: (← keysD xs)
abbrev DK := (Sum Int Str) ⊕ (List (Sum Int Str))
def dkey : PyData → Option DK
  | .tuple xs => (keysD xs).map .inr
  | d => (keyD d).map .inl
def dlook (kvs : List (PyData × PyData)) (k : DK) : Option PyData := (kvs.find? fun p => decide (dkey p.1 = some k)).map (·.2)
def dhas (kvs : List (PyData × PyData)) (k : DK) : Bool := kvs.any fun p => decide (dkey p.1 = some k)
def dput (kvs : List (PyData × PyData)) (k : DK) (kd v : PyData) : List (PyData × PyData) :=
  if dhas kvs k then kvs.map fun p => if dkey p.1 = some k then (p.1, v) else p else kvs ++ [(kd, v)]
/-- all keys of one kind with k -/
def dfits (kvs : List (PyData × PyData)) (k : DK) : Bool := kvs.all fun p => match dkey p.1, k with
  | some (.inl _), .inl _ => true
  | some (.inr _), .inr _ => true
  | _, _ => false

def eqV (a b : PyData) : Option Bool := if okD a && okD b then some (PyData.eqv a b) else none
/-- a key that is an int or a text -/
def plainKey (p : PyData × PyData) : Bool := match dkey p.1 with
  | some (.inl _) => true
  | _ => false
def dictEq (xs ys : List (PyData × PyData)) : Option Bool :=
  if xs.length = ys.length && xs.all plainKey && ys.all plainKey && xs.all (fun p => match dkey p.1 with
    | some k => (match dlook ys k with
      | some v => okD v && okD p.2 && PyData.eqv p.2 v
      | none => false)
    | none => false) then some true else none
def notNone : PyData → Bool
  | .none => false
  | _ => true
def ordOk (a b : PyData) : Bool := PySem.W.alike a b && okD a && okD b && notNone a
def inV (x : PyData) : PyData → Option Bool
  | .list xs => if okD x && okD (.list xs) then some (xs.any fun y => PyData.eqv y x) else none
  | .tuple xs => if okD x && okD (.list xs) then some (xs.any fun y => PyData.eqv y x) else none
  | .str s => (match x with
    | .str t => some (!(Builtin.Str.occurrences s t 0 s.length 1).isEmpty)
    | _ => none)
  | .dict kvs => (match dkey x with
    | some k => if dfits kvs k then some (dhas kvs k) else none
    | none => none)
  | _ => none
def cmpV : CmpOp → PyData → PyData → Option Bool
  | .Is, a, .none => some (match a with | .none => true | _ => false)
  | .IsNot, a, .none => some (match a with | .none => false | _ => true)
  | .Eq, .dict xs, .dict ys => dictEq xs ys
  | .NotEq, .dict xs, .dict ys => (dictEq xs ys).map (!·)
  | .Eq, .list (_ :: _), .list [] => some false
  | .NotEq, .list (_ :: _), .list [] => some true
  | .Eq, a, b => eqV a b
  | .NotEq, a, b => (eqV a b).map (!·)
  | .In, a, b => inV a b
  | .NotIn, a, b => (inV a b).map (!·)
  | .Lt, .int i, .int j => some (decide (i < j))
  | .LtE, .int i, .int j => some (decide (i ≤ j))
  | .Gt, .int i, .int j => some (decide (j < i))
  | .GtE, .int i, .int j => some (decide (j ≤ i))
  | .Lt, .str a, .str b => some (decide (a.cps.toList < b.cps.toList))
  | .GtE, .str a, .str b => some (!decide (a.cps.toList < b.cps.toList))
  | .Lt, a, b => if ordOk a b then some (PySem.W.dataLt a b) else none
  | _, _, _ => none

def ixV : PyData → PyData → Option PyData
  | .list xs, .int i => atI xs i
  | .tuple xs, .int i => atI xs i
  | .str s, .int i => if s.length ≤ sizeLine then (atI s.cps.toList i).map fun c => .str ⟨#[c]⟩ else none
  | .dict kvs, k => (match dkey k with
    | some kk => if dfits kvs kk then dlook kvs kk else none
    | none => none)
  | _, _ => none
def cutL {α : Type} (xs : List α) (lo hi : Option Int) : List α := (xs.drop (HT.sIx xs.length 0 lo)).take (HT.sIx xs.length xs.length hi - HT.sIx xs.length 0 lo)
def optI : Option PyData → Option (Option Int)
  | none => some none
  | some (.int i) => some (some i)
  | _ => none
def slV : PyData → Option Int → Option Int → Option (PyData × Fl)
  | .list xs, lo, hi => some (.list (cutL xs lo hi), .fr)
  | .tuple xs, lo, hi => some (.tuple (cutL xs lo hi), .sh)
  | .str s, lo, hi => if s.length ≤ sizeLine then some (.str ⟨(cutL s.cps.toList lo hi).toArray⟩, .sh) else none
  | _, _, _ => none
def revV : PyData → Option (PyData × Fl)
  | .list xs => some (.list xs.reverse, .fr)
  | .tuple xs => some (.tuple xs.reverse, .sh)
  | _ => none

def intsD : List PyData → Option (List Int)
  | [] => some []
  | .int i :: xs => (intsD xs).map (i :: ·)
  | _ => none
def boolsD : List PyData → Option (List Bool)
  | [] => some []
  | .bool i :: xs => (boolsD xs).map (i :: ·)
  | _ => none
def strsD : List PyData → Option (List Str)
  | [] => some []
  | .str i :: xs => (strsD xs).map (i :: ·)
  | _ => none
/-- what is walked: a list, tuple, the signs of a text, the keys of a dict -/
def itemsD : PyData → Option (List PyData)
  | .list xs => some xs
  | .tuple xs => some xs
  | .str s => some (s.cps.toList.map fun c => .str ⟨#[c]⟩)
  | _ => none
def lenD : PyData → Option Nat
  | .list xs => some xs.length
  | .tuple xs => some xs.length
  | .str s => if s.length ≤ sizeLine then some s.length else none
  | .dict kvs => some kvs.length
  | _ => none
def rngOk (i j : Int) : Bool := decide (-(2 ^ 62) ≤ i) && decide (i < 2 ^ 62) && decide (-(2 ^ 62) ≤ j) && decide (j < 2 ^ 62)
def rngD : List PyData → Option (List PyData)
  | [.int j] => if rngOk 0 j then some ((List.range j.toNat).map fun k => .int ((0 : Int) + (k : Nat))) else none
  | [.int i, .int j] => if rngOk i j then some ((List.range (j - i).toNat).map fun k => .int (i + (k : Nat))) else none
  | [.int i, .int j, .int c] => if rngOk i j && decide (c = -1) then some ((List.range (i - j).toNat).map fun k => .int (i + (k : Nat) * (-1))) else none
  | _ => none
def strV (s : Str) : PyData := .str s
/-- pairwise alike, all -/
def alikeAllD : List PyData → Bool
  | xs => xs.all fun x => xs.all fun y => PySem.W.alike x y
/-- may be sorted -/
def sortOk (xs : List PyData) : Bool := alikeAllD xs && okD (.list xs) && (xs.all (fun x => match x with | .tuple (_ :: _) => true | _ => false) || xs.all (fun x => match x with | .none => false | .tuple _ => false | _ => true)) && decide (xs.length ≤ sizeLine)
def leD (x y : PyData) : Bool := !PySem.W.dataLt y x
def sortD (xs : List PyData) : List PyData := xs.mergeSort leD
def pairsD : List PyData → Option (List (PyData × PyData))
  | [] => some []
  | .tuple [k, v] :: xs => (pairsD xs).map ((k, v) :: ·)
  | _ => none
def dictOf (ps : List (PyData × PyData)) : Option (List (PyData × PyData)) := ps.foldlM (init := []) fun acc p => do
  match dkey p.1 with
  | some (.inl k) => some (dput acc (.inl k) p.1 p.2)
  | _ => none
def pairUp : List PyData → List (PyData × PyData)
  | k :: v :: r => (k, v) :: pairUp r
  | _ => []
def isT (t : String) : PyData → Option Bool
  | .none => if t ∈ ["int", "str", "tuple", "list", "dict", "bool"] then some false else none
  | .bool _ => if t ∈ ["int", "str", "tuple", "list", "dict", "bool"] then some (t == "bool" || t == "int") else none
  | .int _ => if t ∈ ["int", "str", "tuple", "list", "dict", "bool"] then some (t == "int") else none
  | .str _ => if t ∈ ["int", "str", "tuple", "list", "dict", "bool"] then some (t == "str") else none
  | .tuple _ => if t ∈ ["int", "str", "tuple", "list", "dict", "bool"] then some (t == "tuple") else none
  | .list _ => if t ∈ ["int", "str", "tuple", "list", "dict", "bool"] then some (t == "list") else none
  | .dict _ => if t ∈ ["int", "str", "tuple", "list", "dict", "bool"] then some (t == "dict") else none
def mmV (b : Bool) : List PyData → Option (PyData × Fl)
  | [.list (x :: xs)] => if sortOk (x :: xs) then some (if b then PySem.W.minD x xs else PySem.W.maxD x xs, .sh) else none
  | [.tuple (x :: xs)] => if sortOk (x :: xs) then some (if b then PySem.W.minD x xs else PySem.W.maxD x xs, .sh) else none
  | [.int i, .int j] => some (if b then .int (if j < i then j else i) else .int (if j > i then j else i), .sh)
  | _ => none
def v_len : List PyData → Option (PyData × Fl)
  | [d] => (lenD d).map fun n => (.int n, .sh)
  | _ => none
def v_abs : List PyData → Option (PyData × Fl)
  | [.int i] => some (.int (if i < 0 then -i else i), .sh)
  | _ => none
def v_int : List PyData → Option (PyData × Fl)
  | [.int i] => some (.int i, .sh)
  | _ => none
def v_str : List PyData → Option (PyData × Fl)
  | [.int i] => if i.natAbs.log2 < 1920 then some (.str (toString i), .sh) else none
  | _ => none
def v_sum : List PyData → Option (PyData × Fl)
  | [.list xs] => (intsD xs).map fun ns => (.int ns.sum, .sh)
  | [.tuple xs] => (intsD xs).map fun ns => (.int ns.sum, .sh)
  | _ => none
def v_any : List PyData → Option (PyData × Fl)
  | [.list xs] => (boolsD xs).map fun bs => (.bool (bs.any id), .sh)
  | _ => none
def v_all : List PyData → Option (PyData × Fl)
  | [.list xs] => (boolsD xs).map fun bs => (.bool (bs.all id), .sh)
  | _ => none
def v_sorted : List PyData → Option (PyData × Fl)
  | [.list xs] => if sortOk xs then some (.list (sortD xs), .fr) else none
  | [.tuple xs] => if sortOk xs then some (.list (sortD xs), .fr) else none
  | [.dict kvs] => if sortOk (kvs.map (·.1)) then some (.list (sortD (kvs.map (·.1))), .fr) else none
  | _ => none
def v_tuple : List PyData → Option (PyData × Fl)
  | [.list xs] => some (.tuple xs, .sh)
  | [.tuple xs] => some (.tuple xs, .sh)
  | _ => none
def v_list : List PyData → Option (PyData × Fl)
  | [.list xs] => some (.list xs, .fr)
  | [.tuple xs] => some (.list xs, .fr)
  | [.dict kvs] => some (.list (kvs.map (·.1)), .fr)
  | _ => none
def v_dict : List PyData → Option (PyData × Fl)
  | [.dict kvs] => if kvs.all plainKey then some (.dict kvs, .fr) else none
  | [.list xs] => do return (.dict (← dictOf (← pairsD xs)), .fr)
  | _ => none
def v_isI (t : String) : List PyData → Option (PyData × Fl)
  | [d] => (isT t d).map fun b => (.bool b, .sh)
  | _ => none
/-- one of each, as first met -/
def dedupI (ns : List Int) : List Int := ns.foldl (fun acc x => if acc.any (· == x) then acc else acc ++ [x]) []
def v_lenSet : List PyData → Option (PyData × Fl)
  | [.list xs] => do
    let ns ← intsD xs
    if ns.length ≤ 4000 then some (.int (dedupI ns).length, .sh) else none
  | _ => none
def keyDat : Sum Int Str → PyData
  | .inl i => .int i
  | .inr s => .str s
def dedupK : List (Sum Int Str) → List (Sum Int Str)
  | [] => []
  | k :: ks => k :: (dedupK ks).filter fun j => !decide (j = k)
/-- sorted(set(xs)) of ints or texts -/
def v_sortedSet : List PyData → Option (PyData × Fl)
  | [.list xs] => do
    let ks ← keysD xs
    if sortOk xs && decide (xs.length < 4000) then some (.list (sortD ((dedupK ks).map keyDat)), .fr) else none
  | _ => none
def v_listRange : List PyData → Option (PyData × Fl)
  | ds => do
    let xs ← rngD ds
    if xs.length ≤ sizeLine then some (.list xs, .fr) else none
def v_listItems : List PyData → Option (PyData × Fl)
  | [.dict kvs] => some (.list (kvs.map fun p => .tuple [p.1, p.2]), .fr)
  | _ => none
def v_listVals : List PyData → Option (PyData × Fl)
  | [.dict kvs] => some (.list (kvs.map (·.2)), .fr)
  | _ => none
def v_notInRange : List PyData → Option (PyData × Fl)
  | [.int i, .int n] => if rngOk 0 n then some (.bool (!(decide (0 ≤ i) && decide (i < n))), .sh) else none
  | _ => none
def v_get : List PyData → Option (PyData × Fl)
  | [.dict kvs, k] => do
    let kk ← dkey k
    if dfits kvs kk then some ((dlook kvs kk).getD .none, .sh) else none
  | [.dict kvs, k, v] => do
    let kk ← dkey k
    if dfits kvs kk then some ((dlook kvs kk).getD v, .sh) else none
  | _ => none
def v_index : List PyData → Option (PyData × Fl)
  | [.tuple xs, x] => if okD (.list xs) && okD x then (xs.findIdx? fun y => PyData.eqv y x).map fun j => (.int (j : Nat), .sh) else none
  | [.list xs, x] => if okD (.list xs) && okD x then (xs.findIdx? fun y => PyData.eqv y x).map fun j => (.int (j : Nat), .sh) else none
  | _ => none
def v_join : List PyData → Option (PyData × Fl)
  | [.str sep, .list xs] => do
    let ss ← strsD xs
    if (ss.map (·.length)).sum + ss.length * sep.length ≤ 16777216 then some (.str (Str.join sep ss), .sh) else none
  | _ => none
def biV : BI → List PyData → Option (PyData × Fl)
  | .len, ds => v_len ds
  | .abs, ds => v_abs ds
  | .int, ds => v_int ds
  | .str, ds => v_str ds
  | .sum, ds => v_sum ds
  | .any, ds => v_any ds
  | .all, ds => v_all ds
  | .sorted, ds => v_sorted ds
  | .min, ds => mmV true ds
  | .max, ds => mmV false ds
  | .tuple, ds => v_tuple ds
  | .list, ds => v_list ds
  | .dict, ds => v_dict ds
  | .isI t, ds => v_isI t ds
  | .lenSet, ds => v_lenSet ds
  | .sortedSet, ds => v_sortedSet ds
  | .listRange, ds => v_listRange ds
  | .listItems, ds => v_listItems ds
  | .listVals, ds => v_listVals ds
  | .notInRange, ds => v_notInRange ds
  | .get, ds => v_get ds
  | .index, ds => v_index ds
  | .join, ds => v_join ds
  | .mk _, _ => none

/-! ### environments -/
def getS (ρ : PEnv) (i : Nat) : Option PyData := match ρ[i]? with
  | some (.fz d) => some d
  | some (.ow d) => some d
  | _ => none
def getO (ρ : PEnv) (i : Nat) : Option PyData := match ρ[i]? with
  | some (.ow d) => some d
  | _ => none
def setF (ρ : PEnv) (i : Nat) (d : PyData) (f : Fl) : PEnv := ρ.set i (match f with | .sh => .fz d | .fr => .ow d)
def wipeP (ρ : PEnv) : List Nat → PEnv
  | [] => ρ
  | v :: vs => (wipeP ρ vs).set v .no
def noOwn (ρ : PEnv) (vs : List Nat) : Bool := vs.all fun i => match ρ[i]? with | some (.ow _) => false | _ => true
/-- the slots vs as in ρ, else as in ρ' -/
def backP (ρ ρ' : PEnv) : List Nat → PEnv
  | [] => ρ'
  | v :: vs => match ρ[v]? with
    | some x => (backP ρ ρ' vs).set v x
    | none => backP ρ ρ' vs
/-- all slots read only -/
def frzS : Sl → Sl
  | .ow d => .fz d
  | x => x
def frzAll (ρ : PEnv) : PEnv := ρ.map frzS
def frz (ρ : PEnv) (is : List Nat) : PEnv := is.foldl (fun (ρ : PEnv) (i : Nat) => match ρ[i]? with | some (.ow d) => ρ.set i (.fz d) | _ => ρ) ρ

mutual
def asgG : G → PyData → PEnv → Option PEnv
  | .nm i, d, ρ => if i < ρ.length then some (ρ.set i (.fz d)) else none
  | .tp gs, .tuple ds, ρ => asgGs gs ds ρ
  | .tp _, _, _ => none
def asgGs : List G → List PyData → PEnv → Option PEnv
  | [], [], ρ => some ρ
  | g :: gs, d :: ds, ρ => do asgGs gs ds (← asgG g d ρ)
  | _, _, _ => none
end

/-- a comprehension's loop over the items: inner hands on the list so far -/
def compL2 (asgn : PyData → PEnv → Option PEnv) (tst : PEnv → Option (PyData × Fl × PEnv)) (inner : List PyData → PEnv → Option (List PyData × PEnv)) (vs : List Nat) : List PyData → List PyData → PEnv → Option (List PyData × PEnv)
  | [], acc, ρ => some (acc, ρ)
  | d :: ds, acc, ρ => do
    let ρ1 ← asgn d ρ
    let (b, _, ρ2) ← tst ρ1
    match b with
    | .bool true => do
      let (acc', ρ3) ← inner acc ρ2
      compL2 asgn tst inner vs ds acc' (wipeP ρ3 vs)
    | .bool false => compL2 asgn tst inner vs ds acc (wipeP ρ2 vs)
    | _ => none

/-- .. of one clause -/
def addV (elt : PEnv → Option (PyData × Fl × PEnv)) (acc : List PyData) (ρ : PEnv) : Option (List PyData × PEnv) := do
  let (v, _, ρ') ← elt ρ
  if acc.length < sizeLine then some (acc ++ [v], ρ') else none
def compL (asgn : PyData → PEnv → Option PEnv) (tst : PEnv → Option (PyData × Fl × PEnv)) (elt : PEnv → Option (PyData × Fl × PEnv)) (vs : List Nat) (ds acc : List PyData) (ρ : PEnv) : Option (List PyData × PEnv) := compL2 asgn tst (addV elt) vs ds acc ρ

/-- the io arguments' contents behind all arguments -/
def fillIo (ρ : PEnv) : Es → List PyData → Option (List PyData)
  | .nil, [] => some []
  | .cons (.io i) es, _ :: ds => do return (← getO ρ i) :: (← fillIo ρ es ds)
  | .cons _ es, d :: ds => do return d :: (← fillIo ρ es ds)
  | _, _ => none
def ioSlots : Es → List Nat
  | .nil => []
  | .cons (.io i) es => i :: ioSlots es
  | .cons _ es => ioSlots es
def putIo : List Nat → List PyData → PEnv → Option PEnv
  | [], [], ρ => some ρ
  | i :: is, d :: ds, ρ => putIo is ds (ρ.set i (.ow d))
  | _, _, _ => none

section
variable (Φ : Nat → List PyData → Option (PyData × List PyData)) (gl : List PyData)
mutual
def ev : E → PEnv → Option (PyData × Fl × PEnv)
  | .non, ρ => some (.none, .sh, ρ)
  | .bl b, ρ => some (.bool b, .sh, ρ)
  | .int i, ρ => some (.int i, .sh, ρ)
  | .str s, ρ => some (.str s, .sh, ρ)
  | .var i, ρ => (getS ρ i).map fun d => (d, .sh, ρ)
  | .io i, ρ => (getO ρ i).map fun _ => (.none, .sh, ρ)
  | .glob g, ρ => (match gl[g]? with
    | some (.str s) => some (.str s, .sh, ρ)
    | _ => none)
  | .inG neg a g, ρ => do
    let (x, _, ρ1) ← ev a ρ
    let b ← inV x (← gl[g]?)
    return (.bool (if neg then !b else b), .sh, ρ1)
  | .ixG g k, ρ => do
    let (x, _, ρ1) ← ev k ρ
    return (← ixV (← gl[g]?) x, .sh, ρ1)
  | .box e, ρ => do
    let (d, f, _) ← ev e (frzAll ρ)
    match f with
    | .sh => if immD d then some (d, .sh, ρ) else none
    | .fr => if immTop d then some (d, .fr, ρ) else none
  | .un op a, ρ => do
    let (d, _, ρ1) ← ev a ρ
    return (← unV op d, .sh, ρ1)
  | .bin op a b, ρ => do
    let (x, _, ρ1) ← ev a ρ
    let (y, _, ρ2) ← ev b ρ1
    let (d, f) ← binV op x y
    return (d, f, ρ2)
  | .cmp op a b, ρ => do
    let (x, _, ρ1) ← ev a ρ
    let (y, _, ρ2) ← ev b ρ1
    return (.bool (← cmpV op x y), .sh, ρ2)
  | .chain op op' a b c, ρ => do
    let (x, _, ρ1) ← ev a ρ
    let (y, _, ρ2) ← ev b ρ1
    match ← cmpV op x y with
    | true => do
      let (z, _, ρ3) ← ev c ρ2
      return (.bool (← cmpV op' y z), .sh, ρ3)
    | false => some (.bool false, .sh, ρ2)
  | .bop .And a b, ρ => do
    let (x, _, ρ1) ← ev a ρ
    match x with
    | .bool true => ev b ρ1
    | .bool false => some (.bool false, .sh, ρ1)
    | _ => none
  | .bop .Or a b, ρ => do
    let (x, _, ρ1) ← ev a ρ
    match x with
    | .bool true => some (.bool true, .sh, ρ1)
    | .bool false => ev b ρ1
    | _ => none
  | .ite c a b, ρ => do
    let (x, _, ρ1) ← ev c ρ
    match x with
    | .bool true => ev a ρ1
    | .bool false => ev b ρ1
    | _ => none
  | .tup es, ρ => do
    let (ds, ρ1) ← evs es ρ
    if ds.length ≤ sizeLine then some (.tuple ds, .sh, ρ1) else none
  | .lst es, ρ => do
    let (ds, ρ1) ← evs es ρ
    if ds.length ≤ sizeLine then some (.list ds, .fr, ρ1) else none
  | .dic es, ρ => do
    let (ds, ρ1) ← evs es ρ
    if ds.length ≤ 30 then return (.dict (← dictOf (pairUp ds)), .fr, ρ1) else none
  | .ix a b, ρ => do
    let (x, _, ρ1) ← ev a ρ
    let (y, _, ρ2) ← ev b ρ1
    return (← ixV x y, .sh, ρ2)
  | .sl a lo hi, ρ => do
    let (x, _, ρ1) ← ev a ρ
    let (l, ρ2) ← evo lo ρ1
    let (h, ρ3) ← evo hi ρ2
    let (d, f) ← slV x (← optI l) (← optI h)
    return (d, f, ρ3)
  | .rev a, ρ => do
    let (x, _, ρ1) ← ev a ρ
    let (d, f) ← revV x
    return (d, f, ρ1)
  | .bi f es, ρ => do
    let (ds, ρ1) ← evs es ρ
    let (d, fl) ← biV f ds
    return (d, fl, ρ1)
  | .call f es, ρ => do
    let (ds, ρ1) ← evs es ρ
    let (d, outs) ← Φ f (← fillIo ρ1 es ds)
    return (d, .sh, ← putIo (ioSlots es) outs ρ1)
  | .comp vs g it c e, ρ => do
    let (ds, ρ1) ← evi it ρ
    if noOwn ρ1 vs then do
      let (acc, ρ2) ← compL (asgG g) (fun ρ => ev c ρ) (fun ρ => ev e ρ) vs ds [] (wipeP ρ1 vs)
      return (.list acc, .fr, backP ρ1 ρ2 vs)
    else none
  | .comp2 vs vs1 g it c g1 it1 c1 e, ρ => do
    let (ds, ρ1) ← evi it ρ
    if noOwn ρ1 vs then do
      let (acc, ρ2) ← compL2 (asgG g) (fun ρ => ev c ρ) (fun acc ρ => do
        let (ds1, ρ3) ← evi it1 ρ
        compL (asgG g1) (fun ρ => ev c1 ρ) (fun ρ => ev e ρ) vs1 ds1 acc (wipeP ρ3 vs1)) vs ds [] (wipeP ρ1 vs)
      return (.list acc, .fr, backP ρ1 ρ2 vs)
    else none
def evo : O → PEnv → Option (Option PyData × PEnv)
  | .no, ρ => some (none, ρ)
  | .so e, ρ => do
    let (d, _, ρ1) ← ev e ρ
    return (some d, ρ1)
def evs : Es → PEnv → Option (List PyData × PEnv)
  | .nil, ρ => some ([], ρ)
  | .cons e es, ρ => do
    let (d, _, ρ1) ← ev e ρ
    let (ds, ρ2) ← evs es ρ1
    return (d :: ds, ρ2)
def evi : I → PEnv → Option (List PyData × PEnv)
  | .glob g, ρ => do return (← itemsD (← gl[g]?), ρ)
  | .seq e, ρ => do
    let (d, _, ρ1) ← ev e ρ
    return (← itemsD d, ρ1)
  | .dk i, ρ => (match getS ρ i with
    | some (.dict kvs) => some (kvs.map (·.1), ρ)
    | _ => none)
  | .rng es, ρ => do
    let (ds, ρ1) ← evs es ρ
    return (← rngD ds, ρ1)
  | .zip a b, ρ => do
    let (x, _, ρ1) ← ev a ρ
    let (y, _, ρ2) ← ev b ρ1
    match x, y with
    | .list xs, .list ys => some ((xs.zip ys).map fun p => .tuple [p.1, p.2], ρ2)
    | .tuple xs, .tuple ys => some ((xs.zip ys).map fun p => .tuple [p.1, p.2], ρ2)
    | _, _ => none
  | .enum a, ρ => do
    let (x, _, ρ1) ← ev a ρ
    match x with
    | .list xs => some ((List.range xs.length).zipWith (fun k d => .tuple [.int (k : Nat), d]) xs, ρ1)
    | _ => none
end
end

/-! ### what an expression reads as it stands, what it changes -/
/-- a mark among the slots that are read: a dict is walked -/
abbrev lkM : Nat := 1000000
def notDict : PyData → Bool
  | .dict _ => false
  | _ => true
mutual
def als : E → List Nat
  | .var i => [i]
  | .un _ a | .rev a | .inG _ a _ | .ixG _ a => als a
  | .bin _ a b | .cmp _ a b | .bop _ a b | .ix a b => als a ++ als b
  | .chain _ _ a b c | .ite a b c => als a ++ (als b ++ als c)
  | .tup es | .lst es | .bi _ es | .call _ es | .dic es => alss es
  | .sl a lo hi => als a ++ (alsO lo ++ alsO hi)
  | .comp _ _ it c e => alsI it ++ (als c ++ als e)
  | .comp2 _ _ _ it c _ it1 c1 e => alsI it ++ (als c ++ (alsI it1 ++ (als c1 ++ als e)))
  | _ => []
def alsO : O → List Nat
  | .no => []
  | .so e => als e
def alss : Es → List Nat
  | .nil => []
  | .cons e es => als e ++ alss es
def alsI : I → List Nat
  | .glob _ => []
  | .seq e => als e
  | .dk i => [i, lkM]
  | .rng es => alss es
  | .zip a b => als a ++ als b
  | .enum a => als a
end
mutual
def mods : E → List Nat
  | .io i => [i]
  | .un _ a | .rev a | .inG _ a _ | .ixG _ a => mods a
  | .bin _ a b | .cmp _ a b | .bop _ a b | .ix a b => mods a ++ mods b
  | .chain _ _ a b c | .ite a b c => mods a ++ (mods b ++ mods c)
  | .tup es | .lst es | .bi _ es | .call _ es | .dic es => modss es
  | .sl a lo hi => mods a ++ (modsO lo ++ modsO hi)
  | .comp _ _ it c e => modsI it ++ (mods c ++ mods e)
  | .comp2 _ _ _ it c _ it1 c1 e => modsI it ++ (mods c ++ (modsI it1 ++ (mods c1 ++ mods e)))
  | _ => []
def modsO : O → List Nat
  | .no => []
  | .so e => mods e
def modss : Es → List Nat
  | .nil => []
  | .cons e es => mods e ++ modss es
def modsI : I → List Nat
  | .glob _ => []
  | .seq e => mods e
  | .dk _ => []
  | .rng es => modss es
  | .zip a b => mods a ++ mods b
  | .enum a => mods a
end
def isOwn (ρ : PEnv) (i : Nat) : Bool := match ρ[i]? with | some (.ow _) => true | _ => false
/-- what is changed is one's own, and not read as it stands -/
def okM (ρ : PEnv) (as ms : List Nat) : Bool := (ms.all fun i => isOwn ρ i && !as.contains i) &&
  (!as.contains lkM || as.all fun i => match ρ[i]? with | some (.ow d) => notDict d | _ => true)
def immF (d : PyData) : Fl → Bool
  | .sh => immD d
  | .fr => immTop d
/-- ρ: ahead of the expression, ρ1: behind it -/
def frzIf (ρ ρ1 : PEnv) (as ms : List Nat) (b : Bool) : PEnv := if b && ms.isEmpty then ρ else frz ρ1 as

/-- kvs, with all of more put into it -/
def mergeD (kvs more : List (PyData × PyData)) : List (PyData × PyData) := more.foldl (fun acc p => match dkey p.1 with
  | some k => dput acc k p.1 p.2
  | none => acc) kvs
def mutV : String → PyData → PyData → Option PyData
  | "append", .list xs, d => if xs.length < sizeLine then some (.list (xs ++ [d])) else none
  | "extend", .list xs, .list ys => if xs.length + ys.length ≤ sizeLine then some (.list (xs ++ ys)) else none
  | "update", .dict kvs, .dict more => if kvs.all plainKey && more.all plainKey && decide (kvs.length + more.length ≤ sizeLine) then some (.dict (mergeD kvs more)) else none
  | "remove", .list xs, d => if okD (.list xs) && okD d && (xs.any fun y => PyData.eqv y d) then some (.list (xs.eraseP fun y => PyData.eqv y d)) else none
  | _, _, _ => none
def augV : Operator → PyData → PyData → Option PyData
  | .Add, .int a, .int b => some (.int (a + b))
  | .Sub, .int a, .int b => some (.int (a - b))
  | _, _, _ => none
def mKind : String → PyData → Bool
  | "update", .dict _ => true
  | "update", _ => false
  | _, .list _ => true
  | _, _ => false
def setV : PyData → PyData → PyData → Option PyData
  | .list xs, .int i, v => (ixN xs.length i).map fun j => .list (xs.set j v)
  | .dict kvs, kd, v => do
    let k ← dkey kd
    if dfits kvs k && decide (kvs.length < sizeLine) then some (.dict (dput kvs k kd v)) else none
  | _, _, _ => none

inductive Out where
  | nx (ρ : PEnv) | bk (ρ : PEnv) | rt (d : PyData) (ρ : PEnv)
def forL (asgn : PyData → PEnv → Option PEnv) (body : PEnv → Option Out) (dead : List Nat) : List PyData → PEnv → Option Out
  | [], ρ => some (.nx (wipeP ρ dead))
  | d :: ds, ρ => do
    let ρ1 ← asgn d (wipeP ρ dead)
    match ← body ρ1 with
    | .nx ρ2 => forL asgn body dead ds ρ2
    | .bk ρ2 => some (.nx (wipeP ρ2 dead))
    | .rt d ρ2 => some (.rt d ρ2)
def whileL (tst : PEnv → Option (Bool × PEnv)) (body : PEnv → Option Out) (dead : List Nat) : Nat → PEnv → Option Out
  | 0, _ => none
  | n + 1, ρ => do
    let (b, ρ1) ← tst (wipeP ρ dead)
    match b with
    | false => some (.nx ρ1)
    | true => do
      match ← body ρ1 with
      | .nx ρ2 => whileL tst body dead n ρ2
      | .bk ρ2 => some (.nx (wipeP ρ2 dead))
      | .rt d ρ2 => some (.rt d ρ2)

section
variable (Φ : Nat → List PyData → Option (PyData × List PyData)) (gl : List PyData) (ios : List Nat)
/-- an expression of a statement: its value, its flag, the environment behind it -/
def evE (e : E) (ρ : PEnv) : Option (PyData × Fl × PEnv) := if okM ρ (als e) (mods e) then do
    let (d, f, ρ1) ← ev Φ gl e ρ
    return (d, f, frzIf ρ ρ1 (als e) (mods e) (immF d f))
  else none
def evT (e : E) (ρ : PEnv) : Option (Bool × PEnv) := do
  let (d, _, ρ1) ← evE Φ gl e ρ
  match d with
  | .bool b => some (b, ρ1)
  | _ => none
def evIt (it : I) (ρ : PEnv) : Option (List PyData × PEnv) := if okM ρ (alsI it) (modsI it) then do
    let (ds, ρ1) ← evi Φ gl it ρ
    return (ds, match it with | .rng _ => frzIf ρ ρ1 (alsI it) (modsI it) true | _ => frz ρ1 (alsI it))
  else none
def asgDs : List Nat → Es → PEnv → Option (List (PyData × Fl) × PEnv)
  | [], .nil, ρ => some ([], ρ)
  | _ :: is, .cons e es, ρ => do
    let (d, f, ρ1) ← evE Φ gl e ρ
    let (r, ρ2) ← asgDs is es ρ1
    return ((d, f) :: r, ρ2)
  | _, _, _ => none
def setAll : List Nat → List (PyData × Fl) → PEnv → PEnv
  | i :: is, (d, f) :: r, ρ => setAll is r (setF ρ i d f)
  | _, _, ρ => ρ
mutual
def run : S → PEnv → Option Out
  | .asg i e, ρ => do
    let (d, f, ρ1) ← evE Φ gl e ρ
    if decide (i < ρ.length) && !ios.contains i then some (.nx (setF ρ1 i d f)) else none
  | .asgT g e, ρ => do
    let (d, _, ρ1) ← evE Φ gl e ρ
    return .nx (← asgG g d ρ1)
  | .asgO i j f es, ρ => if okM ρ (alss es) [] && (modss es).isEmpty then do
      let (ds, _) ← evs Φ gl es ρ
      if noILs ds then do
        match ← Φ f ds with
        | (.tuple [.list (.int x :: xs), .int y], _) => if immAll xs && decide (i < ρ.length) && !ios.contains i && decide (j < ρ.length) && !ios.contains j && !decide (i = j) then some (.nx ((ρ.set i (.ow (.list (.int x :: xs)))).set j (.fz (.int y)))) else none
        | _ => none
      else none
    else none
  | .asgD is es, ρ => do
    let (r, ρ1) ← asgDs Φ gl is es ρ
    if is.all fun i => decide (i < ρ.length) && !ios.contains i then some (.nx (setAll is r ρ1)) else none
  | .setIx i k e, ρ => do
    let (v, _, ρ1) ← evE Φ gl e ρ
    let _ ← getO ρ1 i
    let (kd, _, ρ2) ← evE Φ gl k ρ1
    return .nx (ρ2.set i (.ow (← setV (← getO ρ2 i) kd v)))
  | .asgDS i k j a b, ρ => do
    let (x, _, ρ1) ← evE Φ gl a ρ
    let (y, _, ρ2) ← evE Φ gl b ρ1
    let _ ← getO ρ2 i
    let (kd, _, ρ3) ← evE Φ gl k ρ2
    let ρ4 := ρ3.set i (.ow (← setV (← getO ρ3 i) kd x))
    if decide (j < ρ.length) && !ios.contains j then some (.nx (ρ4.set j (.fz y))) else none
  | .aug i op e, ρ => do
    let (y, _, ρ1) ← evE Φ gl e ρ
    let d ← augV op (← getS ρ i) y
    if ios.contains i then none else some (.nx (ρ1.set i (.fz d)))
  | .augIx i k op e, ρ => do
    let _ ← getO ρ i
    let (kd, _, ρ1) ← evE Φ gl k ρ
    match ← getO ρ1 i, dkey kd with
    | .dict kvs, some (.inl _) => do
      match ← ixV (.dict kvs) kd with
      | .int a => do
        let (y, _, ρ2) ← evE Φ gl e ρ1
        match y with
        | .int b => do
          match ← getO ρ2 i with
          | .dict c => do
            let z ← augV op (.int a) (.int b)
            return .nx (ρ2.set i (.ow (← setV (.dict c) kd z)))
          | _ => none
        | _ => none
      | _ => none
    | _, _ => none
  | .mut m i e, ρ => do
    if mKind m (← getO ρ i) then do
      let (v, _, ρ1) ← evE Φ gl e ρ
      return .nx (ρ1.set i (.ow (← mutV m (← getO ρ1 i) v)))
    else none
  | .pop g i, ρ => do
    match ← getO ρ i with
    | .list xs => do
      let x ← xs[xs.length - 1]?
      return .nx (← asgG g x (ρ.set i (.ow (.list xs.dropLast))))
    | _ => none
  | .ifs c a b, ρ => do
    match ← evT Φ gl c ρ with
    | (true, ρ1) => runs a ρ1
    | (false, ρ1) => runs b ρ1
  | .for_ g it b dead, ρ => do
    let (ds, ρ1) ← evIt Φ gl it ρ
    forL (asgG g) (fun ρ => runs b ρ) dead ds ρ1
  | .whil c b dead, ρ => whileL (fun ρ => evT Φ gl c ρ) (fun ρ => runs b ρ) dead 1000000 ρ
  | .ret e, ρ => do
    let (d, _, ρ1) ← evE Φ gl e ρ
    return .rt d ρ1
  | .brk, ρ => some (.bk ρ)
  | .frz is, ρ => if is.contains lkM then none else some (.nx (frz ρ is))
def runs : Ss → PEnv → Option Out
  | .nil, ρ => some (.nx ρ)
  | .cons s ss, ρ => do
    match ← run s ρ with
    | .nx ρ1 => runs ss ρ1
    | o => some o
end
end

structure Def where
  np : Nat
  ns : Nat
  ios : List Nat
  body : Ss
def envOf (D : Def) (ds : List PyData) : PEnv := (ds.zipIdx.map fun p => if D.ios.contains p.2 then Sl.ow p.1 else .fz p.1) ++ List.replicate (D.ns - D.np) .no
def outsOf (ρ : PEnv) : List Nat → Option (List PyData)
  | [] => some []
  | i :: is => do return (← getO ρ i) :: (← outsOf ρ is)
def phi (tbl : List Def) (gl : List PyData) : Nat → Nat → List PyData → Option (PyData × List PyData)
  | 0, _, _ => none
  | n + 1, f, ds => match tbl[f]? with
    | some D => if ds.length = D.np then do
        match ← runs (phi tbl gl n) gl D.ios D.body (envOf D ds) with
        | .rt d ρ => return (d, ← outsOf ρ D.ios)
        | .nx ρ => return (.none, ← outsOf ρ D.ios)
        | .bk _ => none
      else none
    | none => none
end PP

/-! PP2: how plain data stands in the abstract heap; what is kept. -/
namespace PP
open PySem PySem.Spec PyProof.Rows L2

def keyPD : L2.Key → PyData
  | .inl i => .int i
  | .inr s => .str s
/-- a dict that is read: locked only if it is not empty -/
def RdK (H : Hp) (a : Addr) (kvs : List (L2.Key × V)) : Prop := H a = some (.dK kvs) ∨ (kvs ≠ [] ∧ ∃ o, H a = some (.frz o (.dK kvs)))
def RdT (H : Hp) (a : Addr) (kvs : List (List L2.Key × V)) : Prop := kvs ≠ [] ∧ Rd H a (.dT kvs)
theorem RdK.rd {H : Hp} {a : Addr} {kvs : List (L2.Key × V)} (h : RdK H a kvs) : Rd H a (.dK kvs) := h.elim .inl fun z => .inr z.2
theorem RdT.rd {H : Hp} {a : Addr} {kvs : List (List L2.Key × V)} (h : RdT H a kvs) : Rd H a (.dT kvs) := h.2
mutual
/-- v stands for d, all of it outside of P -/
inductive Rp (K : PySem.W.Frag) (H : Hp) (P : Addr → Prop) : V → PyData → Prop
  | non : Rp K H P .non .none
  | bl (b : Bool) : Rp K H P (.bl b) (.bool b)
  | int (i : Int) : Rp K H P (.int i) (.int i)
  | str (x : Str) : Rp K H P (.str x) (.str x)
  | lst {a : Addr} {xs : List V} {ds : List PyData} : ¬ P a → H a = some (.lst xs) → RpAll K H P xs ds → Rp K H P (.ref a) (.list ds)
  | tup {a : Addr} {xs : List V} {ds : List PyData} : H a = some (.tup xs) → RpAll K H P xs ds → Rp K H P (.ref a) (.tuple ds)
  | dk {a : Addr} {kvs : List (L2.Key × V)} {ds : List (PyData × PyData)} : ¬ P a → RdK H a kvs → RpK K H P kvs ds → Rp K H P (.ref a) (.dict ds)
  | dt {a : Addr} {kvs : List (List L2.Key × V)} {ds : List (PyData × PyData)} : ¬ P a → RdT H a kvs → RpT K H P kvs ds → Rp K H P (.ref a) (.dict ds)
inductive RpAll (K : PySem.W.Frag) (H : Hp) (P : Addr → Prop) : List V → List PyData → Prop
  | nil : RpAll K H P [] []
  | cons {v : V} {vs : List V} {d : PyData} {ds : List PyData} : Rp K H P v d → RpAll K H P vs ds → RpAll K H P (v :: vs) (d :: ds)
inductive RpK (K : PySem.W.Frag) (H : Hp) (P : Addr → Prop) : List (L2.Key × V) → List (PyData × PyData) → Prop
  | nil : RpK K H P [] []
  | cons {k : L2.Key} {v : V} {vs : List (L2.Key × V)} {d : PyData} {ds : List (PyData × PyData)} : Rp K H P v d → RpK K H P vs ds → RpK K H P ((k, v) :: vs) ((keyPD k, d) :: ds)
inductive RpT (K : PySem.W.Frag) (H : Hp) (P : Addr → Prop) : List (List L2.Key × V) → List (PyData × PyData) → Prop
  | nil : RpT K H P [] []
  | cons {k : List L2.Key} {v : V} {vs : List (List L2.Key × V)} {d : PyData} {ds : List (PyData × PyData)} : Rp K H P v d → RpT K H P vs ds → RpT K H P ((k, v) :: vs) ((.tuple (k.map keyPD), d) :: ds)
end

/-- what is kept: all that is tracked outside of P; P' hides no more than P and what is new -/
structure Ext (P P' : Addr → Prop) (H H' : Hp) : Prop where
  keep : ∀ a o, H a = some o → ¬ P a → H' a = some o
  tups : ∀ a xs, H a = some (.tup xs) → H' a = some (.tup xs)
  sub : ∀ a, P' a → P a ∨ H a = none
theorem Ext.rd {P P' : Addr → Prop} {H H' : Hp} (e : Ext P P' H H') {a : Addr} {u : HO} (h : ¬ P a) (r : Rd H a u) : Rd H' a u := by
  rcases r with r | ⟨o, r⟩
  · exact .inl (e.keep _ _ r h)
  · exact .inr ⟨o, e.keep _ _ r h⟩
theorem Ext.rdK {P P' : Addr → Prop} {H H' : Hp} (e : Ext P P' H H') {a : Addr} {u : List (L2.Key × V)} (h : ¬ P a) (r : RdK H a u) : RdK H' a u := by
  rcases r with r | ⟨n, o, r⟩
  · exact .inl (e.keep _ _ r h)
  · exact .inr ⟨n, o, e.keep _ _ r h⟩
theorem Ext.rdT {P P' : Addr → Prop} {H H' : Hp} (e : Ext P P' H H') {a : Addr} {u : List (List L2.Key × V)} (h : ¬ P a) (r : RdT H a u) : RdT H' a u := ⟨r.1, e.rd h r.2⟩
theorem Ext.not {P P' : Addr → Prop} {H H' : Hp} (e : Ext P P' H H') {a : Addr} {o : HO} (h : ¬ P a) (r : H a = some o) : ¬ P' a := fun q => by
  rcases e.sub a q with z | z
  · exact h z
  · rw [r] at z; cases z
theorem Ext.notR {P P' : Addr → Prop} {H H' : Hp} (e : Ext P P' H H') {a : Addr} {o : HO} (h : ¬ P a) (r : Rd H a o) : ¬ P' a := by
  rcases r with r | ⟨q, r⟩
  · exact e.not h r
  · exact e.not h r
theorem Ext.refl {P : Addr → Prop} {H : Hp} : Ext P P H H := ⟨fun _ _ h _ => h, fun _ _ h => h, fun _ h => .inl h⟩
theorem Ext.new {P : Addr → Prop} {H : Hp} {p : Addr} {o : HO} (h : H p = none) : Ext P P H (upd H p o) :=
  ⟨fun a u e _ => by rw [upd_ne (ne_of_none e h)]; exact e, fun a u e => by rw [upd_ne (ne_of_none e h)]; exact e, fun _ h => .inl h⟩
theorem Ext.newP {P : Addr → Prop} {H : Hp} {p : Addr} {o : HO} (h : H p = none) : Ext P (fun a => P a ∨ a = p) H (upd H p o) :=
  ⟨fun a u e _ => by rw [upd_ne (ne_of_none e h)]; exact e, fun a u e => by rw [upd_ne (ne_of_none e h)]; exact e, fun a z => z.elim .inl fun e => .inr (e ▸ h)⟩
theorem Ext.addP {P : Addr → Prop} {H : Hp} {p : Addr} (h : H p = none) : Ext P (fun a => P a ∨ a = p) H H :=
  ⟨fun a u e _ => e, fun a u e => e, fun a z => z.elim .inl fun e => .inr (e ▸ h)⟩
theorem Ext.less {P P' : Addr → Prop} {H : Hp} (h : ∀ a, P' a → P a) : Ext P P' H H := ⟨fun _ _ e _ => e, fun _ _ e => e, fun a z => .inl (h a z)⟩
theorem Ext.same {P : Addr → Prop} {H H' : Hp} (h : ∀ a o, H a = some o → H' a = some o) : Ext P P H H' := ⟨fun a o e _ => h a o e, fun a xs e => h a _ e, fun _ z => .inl z⟩
theorem immAll_cons {x : PyData} {xs : List PyData} (q : immAll (x :: xs) = true) : immD x = true ∧ immAll xs = true := by rw [immAll, Bool.and_eq_true] at q; exact q
theorem plainAll_cons {x : PyData} {xs : List PyData} (q : PyData.plainAll (x :: xs) = true) : x.plain = true ∧ PyData.plainAll xs = true := by rw [PyData.plainAll, Bool.and_eq_true] at q; exact q
section
variable {K : PySem.W.Frag} {P P' : Addr → Prop} {H H' : Hp}
mutual
theorem Rp.ext (e : Ext P P' H H') : ∀ {v : V} {d : PyData}, Rp K H P v d → Rp K H' P' v d
  | _, _, .non => .non
  | _, _, .bl b => .bl b
  | _, _, .int i => .int i
  | _, _, .str x => .str x
  | _, _, .lst n h r => .lst (e.not n h) (e.keep _ _ h n) (RpAll.ext e r)
  | _, _, .tup h r => .tup (e.tups _ _ h) (RpAll.ext e r)
  | _, _, .dk n h r => .dk (e.notR n h.rd) (e.rdK n h) (RpK.ext e r)
  | _, _, .dt n h r => .dt (e.notR n h.rd) (e.rdT n h) (RpT.ext e r)
theorem RpAll.ext (e : Ext P P' H H') : ∀ {v : List V} {d : List PyData}, RpAll K H P v d → RpAll K H' P' v d
  | _, _, .nil => .nil
  | _, _, .cons r rs => .cons (Rp.ext e r) (RpAll.ext e rs)
theorem RpK.ext (e : Ext P P' H H') : ∀ {v : List (L2.Key × V)} {d : List (PyData × PyData)}, RpK K H P v d → RpK K H' P' v d
  | _, _, .nil => .nil
  | _, _, .cons r rs => .cons (Rp.ext e r) (RpK.ext e rs)
theorem RpT.ext (e : Ext P P' H H') : ∀ {v : List (List L2.Key × V)} {d : List (PyData × PyData)}, RpT K H P v d → RpT K H' P' v d
  | _, _, .nil => .nil
  | _, _, .cons r rs => .cons (Rp.ext e r) (RpT.ext e rs)
end
mutual
/-- data with nothing mutable within stands wherever tuples stay -/
theorem Rp.imm (ht : ∀ a xs, H a = some (.tup xs) → H' a = some (.tup xs)) : ∀ {v : V} {d : PyData}, immD d = true → Rp K H P v d → Rp K H' P' v d
  | _, _, _, .non => .non
  | _, _, _, .bl b => .bl b
  | _, _, _, .int i => .int i
  | _, _, _, .str x => .str x
  | _, _, q, .lst n h r => by simp [immD] at q
  | _, _, q, .tup h r => .tup (ht _ _ h) (RpAll.imm ht (by simpa [immD] using q) r)
  | _, _, q, .dk n h r => by simp [immD] at q
  | _, _, q, .dt n h r => by simp [immD] at q
theorem RpAll.imm (ht : ∀ a xs, H a = some (.tup xs) → H' a = some (.tup xs)) : ∀ {v : List V} {d : List PyData}, immAll d = true → RpAll K H P v d → RpAll K H' P' v d
  | _, _, _, .nil => .nil
  | _, _, q, .cons r rs => by
    have q' := immAll_cons q
    exact .cons (Rp.imm ht q'.1 r) (RpAll.imm ht q'.2 rs)
end
theorem RpK.imm (ht : ∀ a xs, H a = some (.tup xs) → H' a = some (.tup xs)) : ∀ {v : List (L2.Key × V)} {d : List (PyData × PyData)}, immAll (d.map (·.2)) = true → RpK K H P v d → RpK K H' P' v d
  | _, _, _, .nil => .nil
  | _, _, q, .cons r rs => by
    have q' := immAll_cons q
    exact .cons (Rp.imm ht q'.1 r) (RpK.imm ht q'.2 rs)
theorem RpT.imm (ht : ∀ a xs, H a = some (.tup xs) → H' a = some (.tup xs)) : ∀ {v : List (List L2.Key × V)} {d : List (PyData × PyData)}, immAll (d.map (·.2)) = true → RpT K H P v d → RpT K H' P' v d
  | _, _, _, .nil => .nil
  | _, _, q, .cons r rs => by
    have q' := immAll_cons q
    exact .cons (Rp.imm ht q'.1 r) (RpT.imm ht q'.2 rs)

theorem RpAll.length : ∀ {vs : List V} {ds : List PyData}, RpAll K H P vs ds → vs.length = ds.length
  | _, _, .nil => rfl
  | _, _, .cons _ r => by simp [RpAll.length r]
theorem RpK.length : ∀ {vs : List (L2.Key × V)} {ds : List (PyData × PyData)}, RpK K H P vs ds → vs.length = ds.length
  | _, _, .nil => rfl
  | _, _, .cons _ r => by simp [RpK.length r]
theorem RpT.length : ∀ {vs : List (List L2.Key × V)} {ds : List (PyData × PyData)}, RpT K H P vs ds → vs.length = ds.length
  | _, _, .nil => rfl
  | _, _, .cons _ r => by simp [RpT.length r]
theorem RpAll.append : ∀ {vs ws : List V} {ds es : List PyData}, RpAll K H P vs ds → RpAll K H P ws es → RpAll K H P (vs ++ ws) (ds ++ es)
  | _, _, _, _, .nil, s => s
  | _, _, _, _, .cons r rs, s => .cons r (RpAll.append rs s)
theorem RpAll.get : ∀ {vs : List V} {ds : List PyData} {i : Nat} {d : PyData}, RpAll K H P vs ds → ds[i]? = some d → ∃ v, vs[i]? = some v ∧ Rp K H P v d
  | _, _, _, _, .nil, e => by simp at e
  | _, _, 0, _, .cons r rs, e => by simp at e; subst e; exact ⟨_, rfl, r⟩
  | _, _, i + 1, _, .cons r rs, e => by
    obtain ⟨v, h1, h2⟩ := RpAll.get (i := i) rs (by simpa using e)
    exact ⟨v, by simpa using h1, h2⟩
theorem RpAll.getV : ∀ {vs : List V} {ds : List PyData} {i : Nat} {v : V}, RpAll K H P vs ds → vs[i]? = some v → ∃ d, ds[i]? = some d ∧ Rp K H P v d
  | _, _, _, _, .nil, e => by simp at e
  | _, _, 0, _, .cons r rs, e => by simp at e; subst e; exact ⟨_, rfl, r⟩
  | _, _, i + 1, _, .cons r rs, e => by
    obtain ⟨v, h1, h2⟩ := RpAll.getV (i := i) rs (by simpa using e)
    exact ⟨v, by simpa using h1, h2⟩
theorem RpAll.take : ∀ {vs : List V} {ds : List PyData} (n : Nat), RpAll K H P vs ds → RpAll K H P (vs.take n) (ds.take n)
  | _, _, 0, _ => .nil
  | _, _, _ + 1, .nil => .nil
  | _, _, n + 1, .cons r rs => .cons r (RpAll.take n rs)
theorem RpAll.drop : ∀ {vs : List V} {ds : List PyData} (n : Nat), RpAll K H P vs ds → RpAll K H P (vs.drop n) (ds.drop n)
  | _, _, 0, r => r
  | _, _, _ + 1, .nil => .nil
  | _, _, n + 1, .cons r rs => RpAll.drop n rs
theorem RpAll.reverse {vs : List V} {ds : List PyData} (r : RpAll K H P vs ds) : RpAll K H P vs.reverse ds.reverse := by
  induction vs generalizing ds with
  | nil => cases r; exact .nil
  | cons v vs ih =>
    cases r with
    | cons r rs =>
      rw [List.reverse_cons, List.reverse_cons]
      exact (ih rs).append (.cons r .nil)
theorem RpAll.set : ∀ {vs : List V} {ds : List PyData} {v : V} {d : PyData} (i : Nat), RpAll K H P vs ds → Rp K H P v d → RpAll K H P (vs.set i v) (ds.set i d)
  | _, _, _, _, _, .nil, _ => .nil
  | _, _, _, _, 0, .cons _ rs, r => .cons r rs
  | _, _, _, _, i + 1, .cons q rs, r => .cons q (RpAll.set i rs r)
theorem RpAll.rep {vs : List V} {ds : List PyData} (r : RpAll K H P vs ds) : ∀ k : Nat, RpAll K H P (List.replicate k vs).flatten (List.replicate k ds).flatten
  | 0 => .nil
  | k + 1 => by
    rw [List.replicate_succ, List.replicate_succ, List.flatten_cons, List.flatten_cons]
    exact r.append (RpAll.rep r k)

/-! to the layer's own relation -/
mutual
theorem Rp.dp : ∀ {d : PyData} {v : V}, d.plain = true → Rp K H P v d → Dp K H v d
  | _, _, _, .non => .non
  | _, _, _, .bl b => .bl b
  | _, _, _, .int i => .int i
  | _, _, _, .str x => .str x
  | _, _, q, .lst n h r => .lst (.inl (.inl h)) (RpAll.dp (by simpa [PyData.plain] using q) r)
  | _, _, q, .tup h r => .tup (.inl (.inl h)) (RpAll.dp (by simpa [PyData.plain] using q) r)
  | _, _, q, .dk n h r => by simp [PyData.plain] at q
  | _, _, q, .dt n h r => by simp [PyData.plain] at q
theorem RpAll.dp : ∀ {ds : List PyData} {vs : List V}, PyData.plainAll ds = true → RpAll K H P vs ds → DpAll K H vs ds
  | _, _, _, .nil => .nil
  | _, _, q, .cons r rs => by
    have q' := plainAll_cons q
    exact .cons (Rp.dp q'.1 r) (RpAll.dp q'.2 rs)
end
end
section
variable {X : Cx} {pins : List (Addr × Obj)} {σ : L2.St} {H : Hp} {s : Shared} {P : Addr → Prop}
theorem Rp.reads (I : Inv X pins σ H s) {d : PyData} {v : V} {u : Value} (q : d.plain = true) (h : Rp X.K H P v d) (r : RelV v u) : ∃ as, Reads s.heap u d as := Dp.reads I d v u (h.dp q) r
theorem RpAll.readsAll (I : Inv X pins σ H s) {ds : List PyData} {vs : List V} {us : List Value} (q : PyData.plainAll ds = true) (h : RpAll X.K H P vs ds) (r : Vals vs us) : ∃ as, ReadsAll s.heap us ds as := Dp.readsAll I ds vs us (h.dp q) r
end

/-- one's own object at a -/
inductive Own (K : PySem.W.Frag) (H : Hp) (P : Addr → Prop) (a : Addr) : PyData → Prop
  | lst {xs : List V} {ds : List PyData} : H a = some (.lst xs) → RpAll K H P xs ds → Own K H P a (.list ds)
  | dk {kvs : List (L2.Key × V)} {ds : List (PyData × PyData)} : H a = some (.dK kvs) → RpK K H P kvs ds → Own K H P a (.dict ds)
  | dt {kvs : List (List L2.Key × V)} {ds : List (PyData × PyData)} : kvs ≠ [] → H a = some (.dT kvs) → RpT K H P kvs ds → Own K H P a (.dict ds)
section
variable {K : PySem.W.Frag} {P P' : Addr → Prop} {H H' : Hp} {a : Addr} {d : PyData}
theorem Own.rp (o : Own K H P a d) (h : ¬ P a) : Rp K H P (.ref a) d := by
  cases o with
  | lst e r => exact .lst h e r
  | dk e r => exact .dk h (.inl e) r
  | dt n e r => exact .dt h ⟨n, .inl e⟩ r
theorem Own.ext (e : Ext P P' H H') (ha : ∀ o, H a = some o → H' a = some o) (o : Own K H P a d) : Own K H' P' a d := by
  cases o with
  | lst h r => exact .lst (ha _ h) (r.ext e)
  | dk h r => exact .dk (ha _ h) (r.ext e)
  | dt n h r => exact .dt n (ha _ h) (r.ext e)
theorem Own.imm (ht : ∀ a xs, H a = some (.tup xs) → H' a = some (.tup xs)) (ha : ∀ o, H a = some o → H' a = some o) (q : immTop d = true) (o : Own K H P a d) : Own K H' P' a d := by
  cases o with
  | lst h r => exact .lst (ha _ h) (r.imm ht (by simpa [immTop] using q))
  | dk h r => exact .dk (ha _ h) (r.imm ht (by simpa [immTop] using q))
  | dt n h r => exact .dt n (ha _ h) (r.imm ht (by simpa [immTop] using q))
/-- what may be one's own: a list, a dict -/
def isM : HO → Prop
  | .lst _ => True
  | .dK _ => True
  | .dT _ => True
  | .frz _ _ => True
  | _ => False
theorem Own.there (o : Own K H P a d) : ∃ u, H a = some u ∧ isM u := by
  cases o with
  | lst h r => exact ⟨_, h, trivial⟩
  | dk h r => exact ⟨_, h, trivial⟩
  | dt n h r => exact ⟨_, h, trivial⟩
end

/-! ### readings over data: two values in -/
/-- a value handed on: shared, or a new object -/
inductive ValP (K : PySem.W.Frag) (P : Addr → Prop) (H H' : Hp) : V → PyData → Fl → Prop
  | sh {v : V} {d : PyData} : (∀ a o, H a = some o → H' a = some o) → Rp K H' P v d → ValP K P H H' v d .sh
  | fr {a : Addr} {d : PyData} {o : HO} : H a = none → H' = upd H a o → Own K H' (fun b => P b ∨ b = a) a d → ValP K P H H' (.ref a) d .fr
/-- the wish: Q at every such value -/
def WantP (K : PySem.W.Frag) (P : Addr → Prop) (H : Hp) (Q : VK) (d : PyData) (f : Fl) : Prop := ∀ v H', ValP K P H H' v d f → Q v H'
theorem WantP.sh {K : PySem.W.Frag} {P : Addr → Prop} {H : Hp} {Q : VK} {d : PyData} {v : V} (h : WantP K P H Q d .sh) (r : Rp K H P v d) : Q v H := h _ _ (.sh (fun _ _ e => e) r)
theorem WantP.tup {K : PySem.W.Frag} {P : Addr → Prop} {H : Hp} {Q : VK} {vs : List V} {ds : List PyData} (h : WantP K P H Q (.tuple ds) .sh) (r : RpAll K H P vs ds) : ∀ p, H p = none → Q (.ref p) (upd H p (.tup vs)) := fun p hp =>
  h _ _ (.sh (fun a o e => by rw [upd_ne (ne_of_none e hp)]; exact e) (.tup upd_same (r.ext (.new hp))))
theorem WantP.lst {K : PySem.W.Frag} {P : Addr → Prop} {H : Hp} {Q : VK} {vs : List V} {ds : List PyData} (h : WantP K P H Q (.list ds) .fr) (r : RpAll K H P vs ds) : ∀ p, H p = none → Q (.ref p) (upd H p (.lst vs)) := fun p hp =>
  h _ _ (.fr hp rfl (.lst upd_same (r.ext (.newP hp))))
theorem WantP.dk {K : PySem.W.Frag} {P : Addr → Prop} {H : Hp} {Q : VK} {vs : List (L2.Key × V)} {ds : List (PyData × PyData)} (h : WantP K P H Q (.dict ds) .fr) (r : RpK K H P vs ds) : ∀ p, H p = none → Q (.ref p) (upd H p (.dK vs)) := fun p hp =>
  h _ _ (.fr hp rfl (.dk upd_same (r.ext (.newP hp))))
theorem WantP.dt {K : PySem.W.Frag} {P : Addr → Prop} {H : Hp} {Q : VK} {vs : List (List L2.Key × V)} {ds : List (PyData × PyData)} (h : WantP K P H Q (.dict ds) .fr) (n : vs ≠ []) (r : RpT K H P vs ds) : ∀ p, H p = none → Q (.ref p) (upd H p (.dT vs)) := fun p hp =>
  h _ _ (.fr hp rfl (.dt n upd_same (r.ext (.newP hp))))

def rU (K : PySem.W.Frag) (f : PyData → Option (PyData × Fl)) : V → Hp → VK → Prop := fun x H Q => ∃ P dx d fl, Rp K H P x dx ∧ f dx = some (d, fl) ∧ WantP K P H Q d fl
def rB (K : PySem.W.Frag) (f : PyData → PyData → Option (PyData × Fl)) : R2 := fun x y H Q => ∃ P dx dy d fl, Rp K H P x dx ∧ Rp K H P y dy ∧ f dx dy = some (d, fl) ∧ WantP K P H Q d fl
def rC (K : PySem.W.Frag) (f : PyData → PyData → Option Bool) : R2 := rB K fun x y => (f x y).map fun b => (.bool b, .sh)
end PP

/-! PP3: operators by value. -/
namespace PP
open PySem PySem.Spec PyProof.Rows L2
theorem mulOk_ok {i j : Int} (h : mulOk i j = true) : CMul i j := by
  simp only [mulOk, Bool.or_eq_true, Bool.and_eq_true, decide_eq_true_eq] at h
  exact h
section
variable {X : Cx}
theorem opBin (op : Operator) : OpR X (binaryOp op) (rB X.K (binV op)) := by
  intro pins s σ H x y v u Q I rx ry ⟨P, dx, dy, d, fl, hx, hy, e, w⟩
  cases hx with
  | int i =>
    cases hy with
    | int j =>
      cases op with
      | Add =>
        simp only [binV, Option.some.injEq, Prod.mk.injEq] at e
        obtain ⟨rfl, rfl⟩ := e
        exact op_add pins s σ H _ _ v u Q I rx ry ⟨i, j, rfl, rfl, w.sh (.int _)⟩
      | Sub =>
        simp only [binV, Option.some.injEq, Prod.mk.injEq] at e
        obtain ⟨rfl, rfl⟩ := e
        exact op_sub pins s σ H _ _ v u Q I rx ry ⟨i, j, rfl, rfl, w.sh (.int _)⟩
      | Mult =>
        simp only [binV] at e
        split at e
        · rename_i c
          simp only [Option.some.injEq, Prod.mk.injEq] at e
          obtain ⟨rfl, rfl⟩ := e
          exact op_mul pins s σ H _ _ v u Q I rx ry ⟨i, j, rfl, rfl, mulOk_ok c, w.sh (.int _)⟩
        · cases e
      | FloorDiv =>
        simp only [binV] at e
        split at e
        · rename_i c
          simp only [Bool.and_eq_true, decide_eq_true_eq] at c
          simp only [Option.some.injEq, Prod.mk.injEq] at e
          obtain ⟨rfl, rfl⟩ := e
          exact op_fdiv pins s σ H _ _ v u Q I rx ry ⟨i, j, rfl, rfl, c, w.sh (.int _)⟩
        · cases e
      | Mod =>
        simp only [binV] at e
        split at e
        · rename_i c
          simp only [Option.some.injEq, Prod.mk.injEq] at e
          obtain ⟨rfl, rfl⟩ := e
          exact op_mod pins s σ H _ _ v u Q I rx ry ⟨i, j, rfl, rfl, c, w.sh (.int _)⟩
        · cases e
      | Pow =>
        simp only [binV] at e
        split at e
        · rename_i c
          simp only [Bool.and_eq_true, decide_eq_true_eq] at c
          simp only [Option.some.injEq, Prod.mk.injEq] at e
          obtain ⟨rfl, rfl⟩ := e
          exact op_pow pins s σ H _ _ v u Q I rx ry ⟨i, j, rfl, rfl, ⟨c.1.1, c.1.2, c.2⟩, w.sh (.int _)⟩
        · cases e
      | _ => simp [binV] at e
    | _ => cases op <;> simp [binV] at e
  | str a =>
    cases hy with
    | str b =>
      cases op with
      | Add =>
        simp only [binV] at e
        split at e
        · rename_i c
          simp only [Option.some.injEq, Prod.mk.injEq] at e
          obtain ⟨rfl, rfl⟩ := e
          exact op_add_str pins s σ H _ _ v u Q I rx ry ⟨a, b, rfl, rfl, c, w.sh (.str _)⟩
        · cases e
      | _ => simp [binV] at e
    | _ => cases op <;> simp [binV] at e
  | tup ha ra =>
    rename_i a xs das
    cases hy with
    | tup hb rb =>
      rename_i b ys dbs
      cases op with
      | Add =>
        simp only [binV] at e
        split at e
        · rename_i c
          simp only [Option.some.injEq, Prod.mk.injEq] at e
          obtain ⟨rfl, rfl⟩ := e
          have rr := ra.append rb
          refine op_catA pins s σ H _ _ v u Q I rx ry ⟨a, b, xs, ys, rfl, rfl, SqT.of ha, SqT.of hb, by rw [ra.length, rb.length]; exact c, fun e => ?_, fun _ e => ?_, fun _ _ => w.tup rr⟩
          · subst e
            exact w.sh (.tup hb rr)
          · subst e
            rw [List.append_nil] at rr
            exact w.sh (.tup ha rr)
        · cases e
      | _ => simp [binV] at e
    | _ => cases op <;> simp [binV] at e
  | lst na ha ra =>
    rename_i a xs das
    cases hy with
    | lst nb hb rb =>
      rename_i b ys dbs
      cases op with
      | Add =>
        simp only [binV] at e
        split at e
        · rename_i c
          simp only [Option.some.injEq, Prod.mk.injEq] at e
          obtain ⟨rfl, rfl⟩ := e
          exact op_cat pins s σ H _ _ v u Q I rx ry ⟨a, b, xs, ys, rfl, rfl, ha, hb, by rw [ra.length, rb.length]; exact c, w.lst (ra.append rb)⟩
        · cases e
      | _ => simp [binV] at e
    | int j =>
      cases op with
      | Mult =>
        simp only [binV] at e
        split at e
        · rename_i c
          simp only [Bool.and_eq_true, decide_eq_true_eq] at c
          simp only [Option.some.injEq, Prod.mk.injEq] at e
          obtain ⟨rfl, rfl⟩ := e
          exact op_rep pins s σ H _ _ v u Q I rx ry ⟨a, j, xs, rfl, rfl, ha, c.1.1, c.1.2, by rw [ra.length]; exact c.2, w.lst (ra.rep _)⟩
        · cases e
      | _ => simp [binV] at e
    | _ => cases op <;> simp [binV] at e
  | _ => cases op <;> (cases hy <;> simp [binV] at e)

theorem opUn (op : UnaryOp) : UnR X (unaryOp op) (rU X.K fun d => (unV op d).map fun z => (z, .sh)) ∨ op = .Not ∨ op ≠ .USub := by
  cases op with
  | USub =>
    refine .inl ?_
    intro pins s σ H x v Q I rx ⟨P, dx, d, fl, hx, e, w⟩
    cases hx with
    | int i =>
      simp only [unV, Option.map_some, Option.some.injEq, Prod.mk.injEq] at e
      obtain ⟨rfl, rfl⟩ := e
      exact un_neg pins s σ H _ v Q I rx ⟨i, rfl, w.sh (.int _)⟩
    | _ => simp [unV] at e
  | _ => exact .inr (.inr (by decide))

theorem okD_and {a : PyData} (h : okD a = true) : a.plain = true ∧ a.depth ≤ mxD := by
  simpa [okD] using h
theorem room_eq {A : Around} {a b : PyData} (hu : A.units + 64 < cLine) (h : a.depth ≤ mxD) : A.units + min a.depth b.depth < cLine := by
  have : min a.depth b.depth ≤ a.depth := Nat.min_le_left _ _
  have : mxD = 40 := rfl
  omega
theorem wbool {K : PySem.W.Frag} {P : Addr → Prop} {H : Hp} {Q : VK} {b : Bool} (w : WantP K P H Q (.bool b) .sh) : Q (.bl b) H := w.sh (.bl b)

theorem eqP (hu : X.A.units + 64 < cLine) {pins : List (Addr × Obj)} {s : Shared} {σ : L2.St} {H : Hp} {x y : V} {v u : Value} {Q : VK} {P : Addr → Prop} {dx dy : PyData} {b : Bool} (I : Inv X pins σ H s) (rx : RelV x v) (ry : RelV y u)
    (hx : Rp X.K H P x dx) (hy : Rp X.K H P y dy) (e : eqV dx dy = some b) (q : Q (.bl b) H) : wpAny (model X.prog X.w) X.A (compareOp .Eq v u) (EP X pins σ Q) X.xe s := by
  unfold eqV at e
  split at e
  · rename_i c
    rw [Bool.and_eq_true] at c
    obtain ⟨c1, c2⟩ := c
    obtain ⟨p1, d1⟩ := okD_and c1
    obtain ⟨p2, d2⟩ := okD_and c2
    obtain ⟨as, r1⟩ := hx.reads I p1 rx
    obtain ⟨bs, r2⟩ := hy.reads I p2 ry
    cases e
    exact SeqAt.eq_plain r1 r2 p1 p2 (room_eq hu d1) ⟨.bl _, H, I, rfl, q⟩
  · cases e
theorem neP (hu : X.A.units + 64 < cLine) {pins : List (Addr × Obj)} {s : Shared} {σ : L2.St} {H : Hp} {x y : V} {v u : Value} {Q : VK} {P : Addr → Prop} {dx dy : PyData} {b : Bool} (I : Inv X pins σ H s) (rx : RelV x v) (ry : RelV y u)
    (hx : Rp X.K H P x dx) (hy : Rp X.K H P y dy) (e : eqV dx dy = some b) (q : Q (.bl (!b)) H) : wpAny (model X.prog X.w) X.A (compareOp .NotEq v u) (EP X pins σ Q) X.xe s := by
  unfold eqV at e
  split at e
  · rename_i c
    rw [Bool.and_eq_true] at c
    obtain ⟨c1, c2⟩ := c
    obtain ⟨p1, d1⟩ := okD_and c1
    obtain ⟨p2, d2⟩ := okD_and c2
    obtain ⟨as, r1⟩ := hx.reads I p1 rx
    obtain ⟨bs, r2⟩ := hy.reads I p2 ry
    cases e
    exact SeqAt.ne_plain r1 r2 p1 p2 (room_eq hu d1) ⟨.bl _, H, I, rfl, q⟩
  · cases e

/-! keys -/
theorem dkey_k (k : L2.Key) : dkey (keyPD k) = some (.inl k) := by cases k <;> rfl
theorem keysD_map : ∀ ks : List L2.Key, keysD (ks.map keyPD) = some ks
  | [] => rfl
  | k :: ks => by
    rw [List.map_cons, keysD, keysD_map ks]
    cases k <;> rfl
theorem dkey_t (ks : List L2.Key) : dkey (.tuple (ks.map keyPD)) = some (.inr ks) := by
  show (keysD (ks.map keyPD)).map Sum.inr = _
  rw [keysD_map]; rfl
theorem keyD_inv {d : PyData} {k : L2.Key} (h : keyD d = some k) : d = keyPD k := by
  cases d <;> simp only [keyD, Option.some.injEq, reduceCtorEq] at h <;> subst h <;> rfl
theorem keysD_inv : ∀ {ds : List PyData} {ks : List L2.Key}, keysD ds = some ks → ds = ks.map keyPD
  | [], ks, h => by
    have : ks = [] := by simpa [keysD] using h.symm
    subst this; rfl
  | d :: ds, ks, h => by
    rw [keysD] at h
    cases h1 : keyD d with
    | none => simp [h1] at h
    | some k =>
      cases h2 : keysD ds with
      | none => simp [h1, h2] at h
      | some r =>
        simp only [h1, h2, Option.pure_def, Option.bind_eq_bind, Option.bind_some, Option.some.injEq] at h
        subst h
        rw [List.map_cons, ← keyD_inv h1, ← keysD_inv h2]
theorem dkey_inv {d : PyData} {k : DK} (h : dkey d = some k) : match k with
    | .inl k => d = keyPD k
    | .inr ks => d = .tuple (ks.map keyPD) := by
  cases d with
  | tuple xs =>
    have h' : (keysD xs).map Sum.inr = some k := h
    cases q : keysD xs with
    | none => rw [q] at h'; cases h'
    | some ks =>
      rw [q] at h'
      cases h'
      show PyData.tuple xs = _
      rw [keysD_inv q]
  | int i => cases h; rfl
  | str i => cases h; rfl
  | _ => simp [dkey, keyD] at h
section
variable {K : PySem.W.Frag} {P : Addr → Prop} {H : Hp}
theorem key_val {v : V} {k : L2.Key} (r : Rp K H P v (keyPD k)) : v = kV k := by
  cases k with
  | inl i => cases r; rfl
  | inr i => cases r; rfl
theorem keys_val : ∀ {vs : List V} {ks : List L2.Key}, RpAll K H P vs (ks.map keyPD) → vs = ks.map kV
  | _, [], .nil => rfl
  | _, k :: ks, .cons r rs => by rw [key_val r, keys_val rs]; rfl
theorem dfits_nil {k : DK} : dfits [] k = true := rfl
theorem dlook_cons {p : PyData × PyData} {ps : List (PyData × PyData)} {k : DK} : dlook (p :: ps) k = if dkey p.1 = some k then some p.2 else dlook ps k := by
  unfold dlook
  rw [List.find?_cons]
  by_cases h : dkey p.1 = some k
  · simp [h]
  · simp [h]
theorem look_k {k : L2.Key} : ∀ {kvs : List (L2.Key × V)} {ds : List (PyData × PyData)}, RpK K H P kvs ds → (∀ d, dlook ds (.inl k) = some d → ∃ v, valV kvs k = some v ∧ Rp K H P v d) ∧ (dlook ds (.inl k) = none → valV kvs k = none)
  | _, _, .nil => ⟨fun d h => by simp [dlook] at h, fun _ => rfl⟩
  | _, _, .cons (k := k') (v := v) r rs => by
    rw [dlook_cons]
    obtain ⟨h1, h2⟩ := look_k (k := k) rs
    show (∀ d, (if dkey (keyPD k') = some (Sum.inl k) then _ else _) = some d → _) ∧ _
    rw [dkey_k]
    by_cases h : k' = k
    · subst h
      simp only [if_true]
      exact ⟨fun d e => by cases e; exact ⟨v, valV_pos rfl, r⟩, fun e => by cases e⟩
    · have h' : ¬ (some (Sum.inl k') : Option DK) = some (Sum.inl k) := fun e => h (Sum.inl.inj (Option.some.inj e))
      simp only [if_neg h']
      rw [valV_neg (show ¬ (k', v).1 = k from h)]
      exact ⟨h1, h2⟩
theorem look_t {k : List L2.Key} : ∀ {kvs : List (List L2.Key × V)} {ds : List (PyData × PyData)}, RpT K H P kvs ds → (∀ d, dlook ds (.inr k) = some d → ∃ v, valV kvs k = some v ∧ Rp K H P v d) ∧ (dlook ds (.inr k) = none → valV kvs k = none)
  | _, _, .nil => ⟨fun d h => by simp [dlook] at h, fun _ => rfl⟩
  | _, _, .cons (k := k') (v := v) r rs => by
    rw [dlook_cons]
    obtain ⟨h1, h2⟩ := look_t (k := k) rs
    show (∀ d, (if dkey (PyData.tuple (k'.map keyPD)) = some (Sum.inr k) then _ else _) = some d → _) ∧ _
    rw [dkey_t]
    by_cases h : k' = k
    · subst h
      simp only [if_true]
      exact ⟨fun d e => by cases e; exact ⟨v, valV_pos rfl, r⟩, fun e => by cases e⟩
    · have h' : ¬ (some (Sum.inr k') : Option DK) = some (Sum.inr k) := fun e => h (Sum.inr.inj (Option.some.inj e))
      simp only [if_neg h']
      rw [valV_neg (show ¬ (k', v).1 = k from h)]
      exact ⟨h1, h2⟩
theorem dhas_look : ∀ (ds : List (PyData × PyData)) (k : DK), dhas ds k = (dlook ds k).isSome
  | [], k => rfl
  | p :: ds, k => by
    rw [dlook_cons]
    show (decide (dkey p.1 = some k) || dhas ds k) = _
    rw [dhas_look ds k]
    by_cases h : dkey p.1 = some k
    · simp [h]
    · simp [h]
theorem fit_k {kvs : List (L2.Key × V)} {ds : List (PyData × PyData)} (r : RpK K H P kvs ds) {k : List L2.Key} (h : dfits ds (.inr k) = true) : kvs = [] ∧ ds = [] := by
  cases r with
  | nil => exact ⟨rfl, rfl⟩
  | cons r rs =>
    rename_i k' _ _ _ _
    have h' : (match dkey (keyPD k'), (Sum.inr k : DK) with | some (.inl _), .inl _ => true | some (.inr _), .inr _ => true | _, _ => false) = true := by
      unfold dfits at h
      rw [List.all_cons, Bool.and_eq_true] at h
      exact h.1
    rw [dkey_k] at h'
    cases h'
theorem fit_t {kvs : List (List L2.Key × V)} {ds : List (PyData × PyData)} (r : RpT K H P kvs ds) {k : L2.Key} (h : dfits ds (.inl k) = true) : kvs = [] ∧ ds = [] := by
  cases r with
  | nil => exact ⟨rfl, rfl⟩
  | cons r rs =>
    rename_i k' _ _ _ _
    have h' : (match dkey (PyData.tuple (k'.map keyPD)), (Sum.inl k : DK) with | some (.inl _), .inl _ => true | some (.inr _), .inr _ => true | _, _ => false) = true := by
      unfold dfits at h
      rw [List.all_cons, Bool.and_eq_true] at h
      exact h.1
    rw [dkey_t] at h'
    cases h'
end
end
end PP

/-! PP4: dicts read; comparisons; subscripts, slices. -/
namespace PP
open PySem PySem.Spec PyProof.Rows L2
section
variable {X : Cx} {pins : List (Addr × Obj)} {σ : L2.St} {H : Hp} {s : Shared} {a : Addr} {P : Addr → Prop}
theorem upd_self {H : Hp} {a : Addr} {o : HO} (h : H a = some o) : upd H a o = H := by
  funext b
  unfold upd
  split
  · rename_i e; rw [e]; exact h.symm
  · rfl
/-- an empty dict may be taken for either kind -/
theorem to_dT (I : Inv X pins σ H s) (h : H a = some (.dK [])) : Inv X pins σ (upd H a (.dT [])) s := by
  obtain ⟨z, y, vs, r, ob, es, ep, e, c1, c2, c3, c4, c5⟩ := (show ObjOk X.prog X.w H s.heap a (.dK []) from I.hok a _ h)
  cases r
  refine I.write (x := a) (e := a) (h' := s.heap) (t' := s.toks) (by rw [h]; exact True.intro) (.inl rfl) (fun _ _ _ e => e) ⟨_, e⟩ ⟨Nat.zero_le _, y, [], .nil, ob, es, ep, e, c1, c2, ?_, List.nodup_nil⟩
  cases hl : es.toList with
  | nil => rfl
  | cons q qs => rw [hl] at c4; cases c4
theorem to_dK (I : Inv X pins σ H s) (h : H a = some (.dT [])) : Inv X pins σ (upd H a (.dK [])) s := by
  obtain ⟨z, y, vs, r, ob, es, ep, e, c1, c2, c3, c5⟩ := (show ObjOk X.prog X.w H s.heap a (.dT []) from I.hok a _ h)
  cases r
  have he : es.toList = [] := c3
  refine I.write (x := a) (e := a) (h' := s.heap) (t' := s.toks) (by rw [h]; exact True.intro) (.inl rfl) (fun _ _ _ e => e) ⟨_, e⟩ ⟨Nat.zero_le _, y, [], .nil, ob, es, ep, e, c1, c2, ?_, ?_, List.nodup_nil⟩
  · intro q hq
    have : q ∈ es.toList := by simpa using hq
    rw [he] at this; cases this
  · rw [he]; exact .nil

variable {A : Around} {E : Value → Shared → Prop}
/-- what a dict that is read holds at a key: over a heap where it is of the key's kind -/
theorem dget_of (I : Inv X pins σ H s) {x y : V} {ds : List (PyData × PyData)} {dk : PyData} {k : DK} (hx : Rp X.K H P x (.dict ds)) (hy : Rp X.K H P y dk) (hk : dkey dk = some k) (hf : dfits ds k = true) :
    ∃ (a : Addr) (o : Option V) (H1 : Hp), x = .ref a ∧ Inv X pins σ H1 s ∧ (∀ s', Inv X pins σ H1 s' → Inv X pins σ H s') ∧ DGet H1 a y o ∧ (∀ d, dlook ds k = some d → ∃ v, o = some v ∧ Rp X.K H P v d) ∧ (dlook ds k = none → o = none) := by
  cases hx with
  | dk n h r =>
    rename_i a kvs
    cases k with
    | inl k =>
      have e : dk = keyPD k := dkey_inv hk
      subst e
      obtain ⟨h1, h2⟩ := look_k (k := k) r
      exact ⟨a, valV kvs k, H, rfl, I, fun _ z => z, .inl ⟨kvs, k, h.rd, key_val hy, rfl⟩, h1, h2⟩
    | inr ks =>
      have e : dk = .tuple (ks.map keyPD) := dkey_inv hk
      subst e
      obtain ⟨rfl, rfl⟩ := fit_k r hf
      have ha : H a = some (.dK []) := by
        rcases h with h | ⟨h, _⟩
        · exact h
        · exact absurd rfl h
      cases hy with
      | tup hb rb =>
        rename_i b vs
        rw [keys_val rb] at hb
        refine ⟨a, none, upd H a (.dT []), rfl, to_dT I ha, fun s' z => ?_, .inr ⟨[], ks, b, .inl upd_same, rfl, ?_, rfl⟩, fun d e => ?_, fun _ => rfl⟩
        · have q := to_dK z upd_same
          rw [upd_upd, upd_self ha] at q
          exact q
        · rw [upd_ne (ne_of hb ha (fun z => nomatch z))]
          exact hb
        · simp [dlook] at e
  | dt n h r =>
    rename_i a kvs
    cases k with
    | inr ks =>
      have e : dk = .tuple (ks.map keyPD) := dkey_inv hk
      subst e
      obtain ⟨h1, h2⟩ := look_t (k := ks) r
      cases hy with
      | tup hb rb =>
        rename_i b vs
        rw [keys_val rb] at hb
        exact ⟨a, valV kvs ks, H, rfl, I, fun _ z => z, .inr ⟨kvs, ks, b, h.rd, rfl, hb, rfl⟩, h1, h2⟩
    | inl k =>
      have e : dk = keyPD k := dkey_inv hk
      subst e
      obtain ⟨z, _⟩ := fit_t r hf
      exact absurd z h.1
end

section
variable {X : Cx}
theorem inP (neg : Bool) (hu : X.A.units + 64 < cLine) {pins : List (Addr × Obj)} {s : Shared} {σ : L2.St} {H : Hp} {x y : V} {v u : Value} {Q : VK} {P : Addr → Prop} {dx dy : PyData} {b : Bool} (I : Inv X pins σ H s) (rx : RelV x v) (ry : RelV y u)
    (hx : Rp X.K H P x dx) (hy : Rp X.K H P y dy) (e : inV dx dy = some b) (q : Q (.bl (if neg then !b else b)) H) : wpAny (model X.prog X.w) X.A (compareOp (if neg then .NotIn else .In) v u) (EP X pins σ Q) X.xe s := by
  have hd : mxD = 40 := rfl
  cases hy with
  | lst n h r =>
    simp only [inV] at e
    split at e
    · rename_i c
      rw [Bool.and_eq_true] at c
      obtain ⟨p1, d1⟩ := okD_and c.1
      obtain ⟨p2, d2⟩ := okD_and c.2
      obtain ⟨as, r1⟩ := hx.reads I p1 rx
      obtain ⟨bs, r2⟩ := (Rp.lst n h r).reads I p2 ry
      cases e
      have hm := Nat.min_le_right (PyData.depthAll ‹List PyData›) dx.depth
      cases neg with
      | false => exact SeqAt.in_list_data r2 r1 (by simpa [PyData.plain] using p2) p1 (by omega) ⟨.bl _, H, I, rfl, q⟩
      | true => exact SeqAt.notIn_list_data r2 r1 (by simpa [PyData.plain] using p2) p1 (by omega) ⟨.bl _, H, I, rfl, q⟩
    · cases e
  | tup h r =>
    simp only [inV] at e
    split at e
    · rename_i c
      rw [Bool.and_eq_true] at c
      obtain ⟨p1, d1⟩ := okD_and c.1
      obtain ⟨p2, d2⟩ := okD_and c.2
      obtain ⟨as, r1⟩ := hx.reads I p1 rx
      obtain ⟨bs, r2⟩ := (Rp.tup h r).reads I (by simpa [PyData.plain] using p2) ry
      cases e
      have hm := Nat.min_le_right (PyData.depthAll ‹List PyData›) dx.depth
      cases neg with
      | false => exact SeqAt.in_tuple_data r2 r1 (by simpa [PyData.plain] using p2) p1 (by omega) ⟨.bl _, H, I, rfl, q⟩
      | true => exact SeqAt.notIn_tuple_data r2 r1 (by simpa [PyData.plain] using p2) p1 (by omega) ⟨.bl _, H, I, rfl, q⟩
    · cases e
  | str t =>
    cases hx with
    | str z =>
      simp only [inV, Option.some.injEq] at e
      subst e
      cases neg with
      | false => exact op_in_str pins s σ H _ _ v u Q I rx ry ⟨z, t, rfl, rfl, q⟩
      | true => exact L2.op_notin_str pins s σ H _ _ v u Q I rx ry ⟨z, t, rfl, rfl, q⟩
    | _ => simp [inV] at e
  | dk n h r =>
    simp only [inV] at e
    split at e
    · rename_i k hk
      split at e
      · rename_i hf
        obtain ⟨a, o, H1, ex, I1, back, g, h1, h2⟩ := dget_of I (Rp.dk n h r) hx hk hf
        cases ex
        cases (show u = Value.ref _ from ry)
        rw [dhas_look] at e
        have eo : o.isSome = b := by
          cases hq : dlook ‹List (PyData × PyData)› k with
          | none => rw [hq] at e; cases e; rw [h2 hq]; rfl
          | some d =>
            rw [hq] at e; cases e
            obtain ⟨v', e', _⟩ := h1 d hq
            rw [e']; rfl
        subst eo
        cases neg with
        | false => exact d_in (by omega) I1 g rx fun s' I' => ⟨.bl _, H, back s' I', rfl, q⟩
        | true => exact d_notIn (by omega) I1 g rx fun s' I' => ⟨.bl _, H, back s' I', rfl, q⟩
      · cases e
    · cases e
  | dt n h r =>
    simp only [inV] at e
    split at e
    · rename_i k hk
      split at e
      · rename_i hf
        obtain ⟨a, o, H1, ex, I1, back, g, h1, h2⟩ := dget_of I (Rp.dt n h r) hx hk hf
        cases ex
        cases (show u = Value.ref _ from ry)
        rw [dhas_look] at e
        have eo : o.isSome = b := by
          cases hq : dlook ‹List (PyData × PyData)› k with
          | none => rw [hq] at e; cases e; rw [h2 hq]; rfl
          | some d =>
            rw [hq] at e; cases e
            obtain ⟨v', e', _⟩ := h1 d hq
            rw [e']; rfl
        subst eo
        cases neg with
        | false => exact d_in (by omega) I1 g rx fun s' I' => ⟨.bl _, H, back s' I', rfl, q⟩
        | true => exact d_notIn (by omega) I1 g rx fun s' I' => ⟨.bl _, H, back s' I', rfl, q⟩
      · cases e
    · cases e
  | _ => simp [inV] at e

/-! == of dicts -/
theorem hitsP {A : Around} {s : Shared} {pins : List (Addr × Obj)} {σ : L2.St} {H : Hp} {P : Addr → Prop} (I : Inv X pins σ H s) (hu : A.units + 64 < cLine) {ls : List (L2.Key × V)} {ys : List (PyData × PyData)} {vb : List (L2.Key × Value)} (rb : KV ls vb) (rl : RpK X.K H P ls ys) :
    ∀ {ks : List (L2.Key × V)} {xs : List (PyData × PyData)} {va : List (L2.Key × Value)}, KV ks va → RpK X.K H P ks xs → (xs.all (fun p => match dkey p.1 with
      | some k => (match dlook ys k with
        | some v => okD v && okD p.2 && PyData.eqv p.2 v
        | none => false)
      | none => false)) = true → PySem.W.KeqHits A s vb va true := by
  intro ks xs va ra rk
  induction ra generalizing xs with
  | nil => intro _; exact .nil
  | @cons p q ps qs h t ih =>
    intro hh
    cases rk with
    | @cons k v _ d ds rv rs =>
      rw [List.all_cons, Bool.and_eq_true] at hh
      obtain ⟨hh, ht⟩ := hh
      have hh' : (match dkey (keyPD k) with
        | some k => (match dlook ys k with
          | some v => okD v && okD d && PyData.eqv d v
          | none => false)
        | none => false) = true := hh
      rw [dkey_k] at hh'
      cases hq : dlook ys (.inl k) with
      | none =>
        have : (match dlook ys (.inl k) with
          | some v => okD v && okD d && PyData.eqv d v
          | none => false) = true := hh'
        rw [hq] at this; cases this
      | some d' =>
        have hh2 : (match dlook ys (.inl k) with
          | some v => okD v && okD d && PyData.eqv d v
          | none => false) = true := hh'
        rw [hq] at hh2
        simp only [Bool.and_eq_true] at hh2
        obtain ⟨⟨o1, o2⟩, ev⟩ := hh2
        obtain ⟨u, eu, ru⟩ := (look_k (k := k) rl).1 d' hq
        obtain ⟨h1, h2⟩ := h
        have rr : RelO (some u) (valueAt vb k) := by rw [← eu]; exact rb.val k
        obtain ⟨y, hy, ry⟩ := rr.some_of
        obtain ⟨key, vv⟩ := q
        have h1' : k = key := h1
        subst h1'
        obtain ⟨p1, d1⟩ := okD_and o1
        obtain ⟨p2, d2⟩ := okD_and o2
        obtain ⟨as, r1⟩ := rv.reads I p2 h2
        obtain ⟨bs, r2⟩ := ru.reads I p1 ry
        have := SeqAt.eqAt_plain d d' A s _ _ _ _ r1 r2 p2 p1 (by
          have : min d.depth d'.depth ≤ d.depth := Nat.min_le_left _ _
          have : mxD = 40 := rfl
          omega)
        rw [ev] at this
        show PySem.W.KeqHits A s vb ((k, vv) :: qs) (true && true)
        exact .hit hy this (ih rs ht)
theorem dictP (neg : Bool) (hu : X.A.units + 70 < cLine) {pins : List (Addr × Obj)} {s : Shared} {σ : L2.St} {H : Hp} {x y : V} {v u : Value} {Q : VK} {P : Addr → Prop} {xs ys : List (PyData × PyData)} {b : Bool} (I : Inv X pins σ H s) (rx : RelV x v) (ry : RelV y u)
    (hx : Rp X.K H P x (.dict xs)) (hy : Rp X.K H P y (.dict ys)) (e : dictEq xs ys = some b) (q : Q (.bl (if neg then !b else b)) H) : wpAny (model X.prog X.w) X.A (compareOp (if neg then .NotEq else .Eq) v u) (EP X pins σ Q) X.xe s := by
  unfold dictEq at e
  split at e
  · rename_i c
    rw [Bool.and_eq_true, Bool.and_eq_true, Bool.and_eq_true, decide_eq_true_eq] at c
    obtain ⟨⟨⟨hl, hkx⟩, hky⟩, hall⟩ := c
    cases e
    cases hx with
    | dk n h r =>
      cases hy with
      | dk n' h' r' =>
        cases (show v = Value.ref _ from rx)
        cases (show u = Value.ref _ from ry)
        obtain ⟨_, ya, va, ra, da⟩ := dk_rd I.hok h.rd
        obtain ⟨_, yb, vb, rb, db⟩ := dk_rd I.hok h'.rd
        have hlen : va.length = vb.length := by rw [← ra.length, ← rb.length, r.length, r'.length]; exact hl
        have hits := hitsP (A := X.A.in1) I (by show X.A.units + 1 + 64 < cLine; omega) rb r' ra r hall
        cases neg with
        | false => exact PySem.W.keq_eq (knd := mixKind X.prog X.w) (r := true) ya yb da db (by omega) (fun _ => hits) (fin_bl I q (by simp [hlen]))
        | true => exact PySem.W.keq_ne (knd := mixKind X.prog X.w) (r := true) ya yb da db (by omega) (fun _ => hits) (fin_bl I q (by simp [hlen]))
      | dt n' h' r' =>
        exfalso
        cases r' with
        | nil => exact h'.1 rfl
        | cons r rs =>
          rename_i k _ _ _ _
          rw [List.all_cons, Bool.and_eq_true] at hky
          have := hky.1
          unfold plainKey at this
          rw [show dkey (PyData.tuple (List.map keyPD k), _).1 = _ from dkey_t k] at this
          cases this
    | dt n' h' r' =>
      exfalso
      cases r' with
      | nil => exact h'.1 rfl
      | cons r rs =>
        rename_i k _ _ _ _
        rw [List.all_cons, Bool.and_eq_true] at hkx
        have := hkx.1
        unfold plainKey at this
        rw [show dkey (PyData.tuple (List.map keyPD k), _).1 = _ from dkey_t k] at this
        cases this
  · cases e

theorem sizes_ne {I : Inv X pins σ H s} {b : Addr} {v : V} {vs : List V} (h : SqL X.K H a (v :: vs)) (h2 : SqL X.K H b []) : ∃ i1 i2 : Array Value, s.heap.IsList a i1 ∧ s.heap.IsList b i2 ∧ (i1.size != i2.size) = true := by
  obtain ⟨l1, r1, p1, _⟩ := I.list h
  obtain ⟨l2, r2, p2, _⟩ := I.list h2
  refine ⟨_, _, p1.isList, p2.isList, ?_⟩
  have e1 := r1.length
  have e2 := r2.length
  simp at e1 e2
  simp [List.size_toArray]
  omega
theorem eq0P (hu : X.A.units < cLine) {x y : V} {v u : Value} {Q : VK} {d0 : PyData} {ds : List PyData} (I : Inv X pins σ H s) (rx : RelV x v) (ry : RelV y u)
    (hx : Rp X.K H P x (.list (d0 :: ds))) (hy : Rp X.K H P y (.list [])) (q : Q (.bl false) H) : wpAny (model X.prog X.w) X.A (compareOp .Eq v u) (EP X pins σ Q) X.xe s := by
  cases hx with
  | lst na ha ra =>
    cases hy with
    | lst nb hb rb =>
      cases ra
      cases rb
      cases rx
      cases ry
      obtain ⟨i1, i2, h1, h2, h3⟩ := sizes_ne (I := I) (.inl (.of ha)) (.inl (.of hb))
      exact SeqAt.RcAt.lists_lengths h1 h2 h3 hu _ _ _ _ ⟨.bl _, H, I, rfl, q⟩
theorem ne0P (hu : X.A.units < cLine) {x y : V} {v u : Value} {Q : VK} {d0 : PyData} {ds : List PyData} (I : Inv X pins σ H s) (rx : RelV x v) (ry : RelV y u)
    (hx : Rp X.K H P x (.list (d0 :: ds))) (hy : Rp X.K H P y (.list [])) (q : Q (.bl true) H) : wpAny (model X.prog X.w) X.A (compareOp .NotEq v u) (EP X pins σ Q) X.xe s := by
  cases hx with
  | lst na ha ra =>
    cases hy with
    | lst nb hb rb =>
      cases ra
      cases rb
      cases rx
      cases ry
      obtain ⟨i1, i2, h1, h2, h3⟩ := sizes_ne (I := I) (.inl (.of ha)) (.inl (.of hb))
      exact SeqAt.RcNeAt.lists_lengths h1 h2 h3 hu _ _ _ _ ⟨.bl _, H, I, rfl, q⟩
theorem opCmp (op : CmpOp) (hu : X.A.units + 70 < cLine) : OpR X (compareOp op) (rC X.K (cmpV op)) := by
  intro pins s σ H x y v u Q I rx ry ⟨P, dx, dy, d, fl, hx, hy, e0, w⟩
  obtain ⟨b, e, ed⟩ := Option.map_eq_some_iff.mp e0
  cases ed
  clear e0
  have q : Q (.bl b) H := w.sh (.bl b)
  have hd : mxD = 40 := rfl
  cases op with
  | Is =>
    cases hy with
    | non =>
      simp only [cmpV, Option.some.injEq] at e
      refine op_isN pins s σ H _ _ v u Q I rx ry ⟨rfl, ?_⟩
      cases hx <;> (simp only at e; subst e; exact q)
    | _ => cases hx <;> simp [cmpV] at e
  | IsNot =>
    cases hy with
    | non =>
      simp only [cmpV, Option.some.injEq] at e
      refine op_notN pins s σ H _ _ v u Q I rx ry ⟨rfl, ?_⟩
      cases hx <;> (simp only at e; subst e; exact q)
    | _ => cases hx <;> simp [cmpV] at e
  | In => exact inP false (by omega) I rx ry hx hy (by simpa [cmpV] using e) q
  | NotIn =>
    obtain ⟨b', e2, ed⟩ := Option.map_eq_some_iff.mp (show (inV dx dy).map (!·) = some b by simpa [cmpV] using e)
    subst ed
    exact inP true (by omega) I rx ry hx hy e2 q
  | Eq =>
    by_cases hdd : ∃ xs ys, dx = .dict xs ∧ dy = .dict ys
    · obtain ⟨xs, ys, rfl, rfl⟩ := hdd
      exact dictP false hu I rx ry hx hy (by simpa [cmpV] using e) q
    · by_cases h0 : ∃ z zs, dx = .list (z :: zs) ∧ dy = .list []
      · obtain ⟨z, zs, rfl, rfl⟩ := h0
        cases (show some false = some b from e)
        exact eq0P (by omega) I rx ry hx hy q
      · have e' : eqV dx dy = some b := by
          cases dx <;> first
            | (cases dy <;> first | exact absurd ⟨_, _, rfl, rfl⟩ hdd | simpa [cmpV] using e | (rename_i xs ys; cases xs <;> cases ys <;> first | exact absurd ⟨_, _, rfl, rfl⟩ h0 | simpa [cmpV] using e))
        exact eqP (by omega) I rx ry hx hy e' q
  | NotEq =>
    by_cases hdd : ∃ xs ys, dx = .dict xs ∧ dy = .dict ys
    · obtain ⟨xs, ys, rfl, rfl⟩ := hdd
      obtain ⟨b', e2, ed⟩ := Option.map_eq_some_iff.mp (show (dictEq xs ys).map (!·) = some b by simpa [cmpV] using e)
      subst ed
      exact dictP true hu I rx ry hx hy e2 q
    · by_cases h0 : ∃ z zs, dx = .list (z :: zs) ∧ dy = .list []
      · obtain ⟨z, zs, rfl, rfl⟩ := h0
        cases (show some true = some b from e)
        exact ne0P (by omega) I rx ry hx hy q
      · have e' : (eqV dx dy).map (!·) = some b := by
          cases dx <;> first
            | (cases dy <;> first | exact absurd ⟨_, _, rfl, rfl⟩ hdd | simpa [cmpV] using e | (rename_i xs ys; cases xs <;> cases ys <;> first | exact absurd ⟨_, _, rfl, rfl⟩ h0 | simpa [cmpV] using e))
        obtain ⟨b', e2, ed⟩ := Option.map_eq_some_iff.mp e'
        subst ed
        exact neP (by omega) I rx ry hx hy e2 q
  | Lt =>
    by_cases hi : (∃ i j, dx = .int i ∧ dy = .int j) ∨ ∃ i j, dx = .str i ∧ dy = .str j
    · rcases hi with ⟨i, j, rfl, rfl⟩ | ⟨i, j, rfl, rfl⟩
      · simp only [cmpV, Option.some.injEq] at e
        subst e
        cases hx
        cases hy
        exact op_lt pins s σ H _ _ v u Q I rx ry ⟨i, j, rfl, rfl, q⟩
      · simp only [cmpV, Option.some.injEq] at e
        subst e
        cases hx
        cases hy
        exact op_lt_str pins s σ H _ _ v u Q I rx ry ⟨i, j, rfl, rfl, q⟩
    · have e' : (if ordOk dx dy then some (PySem.W.dataLt dx dy) else none) = some b := by
        cases dx <;> first
          | (cases dy <;> first | exact absurd (.inl ⟨_, _, rfl, rfl⟩) hi | exact absurd (.inr ⟨_, _, rfl, rfl⟩) hi | exact e)
      split at e'
      · rename_i c
        unfold ordOk at c
        simp only [Bool.and_eq_true] at c
        obtain ⟨⟨⟨c1, c2⟩, c3⟩, c4⟩ := c
        obtain ⟨p1, d1⟩ := okD_and c2
        obtain ⟨p2, d2⟩ := okD_and c3
        obtain ⟨as, r1⟩ := hx.reads I p1 rx
        obtain ⟨bs, r2⟩ := hy.reads I p2 ry
        have hn : dx ≠ .none := fun z => by subst z; cases c4
        have hm : min dx.depth dy.depth ≤ dx.depth := Nat.min_le_left _ _
        cases e'
        exact PySem.W.rcLt_alike dx dy X.A s v u _ _ r1 r2 c1 hn (by omega) X.prog X.w X.xe _ ⟨.bl _, H, I, rfl, q⟩
      · cases e'
  | LtE =>
    cases hx with
    | int i =>
      cases hy with
      | int j =>
        simp only [cmpV, Option.some.injEq] at e
        subst e
        exact op_le pins s σ H _ _ v u Q I rx ry ⟨i, j, rfl, rfl, q⟩
      | _ => simp [cmpV] at e
    | _ => cases hy <;> simp [cmpV] at e
  | Gt =>
    cases hx with
    | int i =>
      cases hy with
      | int j =>
        simp only [cmpV, Option.some.injEq] at e
        subst e
        exact op_gt pins s σ H _ _ v u Q I rx ry ⟨i, j, rfl, rfl, q⟩
      | _ => simp [cmpV] at e
    | _ => cases hy <;> simp [cmpV] at e
  | GtE =>
    cases hx with
    | int i =>
      cases hy with
      | int j =>
        simp only [cmpV, Option.some.injEq] at e
        subst e
        exact op_ge pins s σ H _ _ v u Q I rx ry ⟨i, j, rfl, rfl, q⟩
      | _ => simp [cmpV] at e
    | str i =>
      cases hy with
      | str j =>
        simp only [cmpV, Option.some.injEq] at e
        subst e
        exact op_ge_str pins s σ H _ _ v u Q I rx ry ⟨i, j, rfl, rfl, q⟩
      | _ => simp [cmpV] at e
    | _ => cases hy <;> simp [cmpV] at e

/-! subscripts -/
theorem atI_rp {P : Addr → Prop} {K : PySem.W.Frag} {H : Hp} {xs : List V} {ds : List PyData} {i : Int} {d : PyData} (r : RpAll K H P xs ds) (e : atI ds i = some d) : ∃ v, atI xs i = some v ∧ Rp K H P v d := by
  unfold atI at e ⊢
  rw [r.length]
  cases h : ixN ds.length i with
  | none => rw [h] at e; cases e
  | some j =>
    rw [h] at e
    exact r.get e
theorem ixP (hu : X.A.units + 70 < cLine) : IxR X (rB X.K fun x y => (ixV x y).map fun d => (d, .sh)) := by
  intro value slice pins s σ H x y v u Q I rx ry ⟨P, dx, dy, d, fl, hx, hy, e0, w⟩ hs
  obtain ⟨d', e, ed⟩ := Option.map_eq_some_iff.mp e0
  cases ed
  clear e0
  have dic : ∀ ds, dx = .dict ds → wpAny (model X.prog X.w) X.A (subscriptTail value slice v u) (EP X pins σ Q) X.xe s := by
    intro ds edx
    subst edx
    simp only [ixV] at e
    split at e
    · rename_i k hk
      split at e
      · rename_i hf
        obtain ⟨a, o, H1, ex, I1, back, g, h1, h2⟩ := dget_of I hx hy hk hf
        cases ex
        cases (show v = Value.ref _ from rx)
        obtain ⟨z, ez, rz⟩ := h1 _ e
        subst ez
        exact tail_any (dict_typeIs I1 g) PySem.F.slot_dict_getitem.lookup (d_getItem (by omega) I1 g ry fun w' s' I' rw' => ⟨z, H, back s' I', rw', w.sh rz⟩) hs
      · cases e
    · cases e
  cases hx with
  | lst n h r =>
    cases hy with
    | int i =>
      obtain ⟨z, ez, rz⟩ := atI_rp r e
      exact ix_list value slice pins s σ H _ _ v u Q I rx ry ⟨_, _, i, z, rfl, rfl, .inl (.inl h), ez, w.sh rz⟩ hs
    | _ => simp [ixV] at e
  | tup h r =>
    cases hy with
    | int i =>
      obtain ⟨z, ez, rz⟩ := atI_rp r e
      exact ix_tup value slice pins s σ H _ _ v u Q I rx ry ⟨_, _, i, z, rfl, rfl, .inl (.inl h), ez, w.sh rz⟩ hs
    | _ => simp [ixV] at e
  | str t =>
    cases hy with
    | int i =>
      simp only [ixV] at e
      split at e
      · rename_i hz
        obtain ⟨c, ec, rfl⟩ := Option.map_eq_some_iff.mp e
        exact ix_str value slice pins s σ H _ _ v u Q I rx ry ⟨t, i, c, rfl, rfl, hz, ec, w.sh (.str _)⟩ hs
      · cases e
    | _ => simp [ixV] at e
  | dk n h r => exact dic _ rfl
  | dt n h r => exact dic _ rfl
  | _ => cases hy <;> simp [ixV] at e

/-- cuts -/
def rS (K : PySem.W.Frag) : V → Option Int → Option Int → Hp → VK → Prop := fun x lo hi H Q => ∃ P dx d fl, Rp K H P x dx ∧ slV dx lo hi = some (d, fl) ∧ WantP K P H Q d fl
theorem cut_rp {P : Addr → Prop} {K : PySem.W.Frag} {H : Hp} {xs : List V} {ds : List PyData} {lo hi : Option Int} (r : RpAll K H P xs ds) : RpAll K H P (cutV xs lo hi) (cutL ds lo hi) := by
  unfold cutV cutL
  rw [r.length]
  exact (r.drop _).take _
theorem slP : SlR X (rS X.K) := by
  intro pins s σ H x v vl vu lo hi sl Q I rx hs pl pu ⟨P, dx, d, fl, hx, e, w⟩
  cases hx with
  | lst n h r =>
    simp only [slV, Option.some.injEq, Prod.mk.injEq] at e
    obtain ⟨rfl, rfl⟩ := e
    exact sl_list pins s σ H _ v vl vu lo hi sl Q I rx hs pl pu ⟨_, _, rfl, .inl (.inl h), w.lst (cut_rp r)⟩
  | tup h r =>
    simp only [slV, Option.some.injEq, Prod.mk.injEq] at e
    obtain ⟨rfl, rfl⟩ := e
    refine sl_tupA pins s σ H _ v vl vu lo hi sl Q I rx hs pl pu ⟨_, _, rfl, .inl (.inl h), fun z => ?_, fun _ => w.tup (cut_rp r)⟩
    have ec : cutL ‹List PyData› lo hi = ‹List PyData› := by
      unfold cutL
      rw [← r.length, z.1, z.2, List.drop_zero, Nat.sub_zero, r.length, List.take_length]
    rw [ec] at w
    exact w.sh (.tup h r)
  | str t =>
    simp only [slV] at e
    split at e
    · rename_i hz
      simp only [Option.some.injEq, Prod.mk.injEq] at e
      obtain ⟨rfl, rfl⟩ := e
      refine sl_str pins s σ H _ v vl vu lo hi sl Q I rx hs pl pu ⟨t, rfl, hz, ?_⟩
      exact w.sh (.str _)
    · cases e
  | _ => simp [slV] at e
end
end PP

/-! PP5: built-in calls by value. -/
namespace PP
open PySem PySem.Spec PyProof.Rows L2
def rA (K : PySem.W.Frag) (f : List PyData → Option (PyData × Fl)) : List V → Hp → VK → Prop := fun vs H Q => ∃ P ds d fl, RpAll K H P vs ds ∧ f ds = some (d, fl) ∧ WantP K P H Q d fl
section
variable {K : PySem.W.Frag} {P : Addr → Prop} {H : Hp}
theorem ints_rp : ∀ {ds : List PyData} {ns : List Int} {vs : List V}, intsD ds = some ns → RpAll K H P vs ds → vs = ns.map V.int
  | [], ns, _, e, .nil => by
    have : ns = [] := by simpa [intsD] using e.symm
    subst this; rfl
  | d :: ds, ns, _, e, .cons r rs => by
    cases r with
    | int i =>
      simp only [intsD] at e
      obtain ⟨ms, e1, rfl⟩ := Option.map_eq_some_iff.mp e
      rw [ints_rp e1 rs]; rfl
    | _ => simp [intsD] at e
theorem bools_rp : ∀ {ds : List PyData} {ns : List Bool} {vs : List V}, boolsD ds = some ns → RpAll K H P vs ds → vs = ns.map V.bl
  | [], ns, _, e, .nil => by
    have : ns = [] := by simpa [boolsD] using e.symm
    subst this; rfl
  | d :: ds, ns, _, e, .cons r rs => by
    cases r with
    | bl i =>
      simp only [boolsD] at e
      obtain ⟨ms, e1, rfl⟩ := Option.map_eq_some_iff.mp e
      rw [bools_rp e1 rs]; rfl
    | _ => simp [boolsD] at e
theorem strs_rp : ∀ {ds : List PyData} {ns : List Str} {vs : List V}, strsD ds = some ns → RpAll K H P vs ds → vs = ns.map V.str
  | [], ns, _, e, .nil => by
    have : ns = [] := by simpa [strsD] using e.symm
    subst this; rfl
  | d :: ds, ns, _, e, .cons r rs => by
    cases r with
    | str i =>
      simp only [strsD] at e
      obtain ⟨ms, e1, rfl⟩ := Option.map_eq_some_iff.mp e
      rw [strs_rp e1 rs]; rfl
    | _ => simp [strsD] at e
theorem keys_rp : ∀ {kvs : List (L2.Key × V)} {ds : List (PyData × PyData)}, RpK K H P kvs ds → RpAll K H P (kvs.map fun kv => kV kv.1) (ds.map (·.1))
  | _, _, .nil => .nil
  | _, _, .cons (k := k) r rs => .cons (by cases k <;> constructor) (keys_rp rs)
end
section
variable {X : Cx}
theorem crLen : CallR X (.builtin "len") (rA X.K (biV .len)) := by
  intro pins s σ H xs us Q I r ⟨P, ds, d, fl, hr, e, w⟩
  cases hr with
  | nil => simp [biV, v_len, v_abs, v_int, v_str, v_sum, v_any, v_all] at e
  | cons h1 h2 =>
    cases h2 with
    | cons _ _ => simp [biV, v_len, v_abs, v_int, v_str, v_sum, v_any, v_all] at e
    | nil =>
      simp only [biV, v_len, v_abs, v_int, v_str, v_sum, v_any, v_all] at e
      obtain ⟨n, en, ed⟩ := Option.map_eq_some_iff.mp e
      cases ed
      have q : Q (.int n) H := w.sh (.int _)
      cases h1 with
      | lst n h r1 =>
        cases en
        rw [← r1.length] at q
        exact call_len_seq pins s σ H _ us Q I r ⟨_, _, rfl, .inl (.inl (.inl h)), q⟩
      | tup h r1 =>
        cases en
        rw [← r1.length] at q
        exact call_len_seq pins s σ H _ us Q I r ⟨_, _, rfl, .inr (.inl (.inl h)), q⟩
      | str t =>
        simp only [lenD] at en
        split at en
        · cases en
          exact call_len_str pins s σ H _ us Q I r ⟨t, rfl, by assumption, q⟩
        · cases en
      | dk n h r1 =>
        cases en
        rw [← r1.length] at q
        obtain ⟨u, rfl, rx⟩ := vals1 r
        cases (show u = Value.ref _ from rx)
        exact d_len I h.rd fun t s' I' => ⟨.int _, H, I', ⟨_, rfl⟩, q⟩
      | dt n h r1 =>
        cases en
        rw [← r1.length] at q
        obtain ⟨u, rfl, rx⟩ := vals1 r
        cases (show u = Value.ref _ from rx)
        obtain ⟨z, hd, ys, rel, dd⟩ := dt_rd I.hok h.rd
        have hl := Paired.length rel
        have h63 := line63
        exact call_len_dictH hd dd (by omega) ⟨.int _, H, I.tok _, ⟨_, by rw [hl]⟩, q⟩
      | _ => simp [lenD] at en
/-- one int in, an int out -/
theorem cr1 {f : Value} {b : BI} {hb : ∀ ds p, biV b ds = some p → ∃ i, ds = [.int i]} (rule : ∀ (pins : List (Addr × Obj)) (s : Shared) (σ : L2.St) (H : Hp) (us : List Value) (Q : VK) (i : Int) (P : Addr → Prop) (d : PyData) (fl : Fl), Inv X pins σ H s → Vals [.int i] us → biV b [.int i] = some (d, fl) → WantP X.K P H Q d fl →
    wpAny (model X.prog X.w) X.A (call f us) (EP X pins σ Q) X.xe s) : CallR X f (rA X.K (biV b)) := by
  intro pins s σ H xs us Q I r ⟨P, ds, d, fl, hr, e, w⟩
  obtain ⟨i, rfl⟩ := hb ds _ e
  cases hr with
  | cons h1 h2 =>
    cases h1
    cases h2
    exact rule pins s σ H us Q i P d fl I r e w
theorem one_int {ds : List PyData} {b : BI} {p : PyData × Fl} (hb : b = .abs ∨ b = .int ∨ b = .str) (e : biV b ds = some p) : ∃ i, ds = [.int i] := by
  rcases hb with rfl | rfl | rfl <;> (cases ds with
    | nil => simp [biV, v_len, v_abs, v_int, v_str, v_sum, v_any, v_all] at e
    | cons x xs => cases xs with
      | nil => cases x <;> first | exact ⟨_, rfl⟩ | simp [biV, v_len, v_abs, v_int, v_str, v_sum, v_any, v_all] at e
      | cons y ys => cases x <;> simp [biV, v_len, v_abs, v_int, v_str, v_sum, v_any, v_all] at e)
theorem crAbs : CallR X (.builtin "abs") (rA X.K (biV .abs)) := cr1 (hb := fun ds p e => one_int (.inl rfl) e) fun pins s σ H us Q i P d fl I r e w => by
  simp only [biV, v_len, v_abs, v_int, v_str, v_sum, v_any, v_all, Option.some.injEq, Prod.mk.injEq] at e
  obtain ⟨rfl, rfl⟩ := e
  exact call_abs pins s σ H _ us Q I r ⟨i, rfl, w.sh (.int _)⟩
theorem crInt : CallR X (.type "int") (rA X.K (biV .int)) := cr1 (hb := fun ds p e => one_int (.inr (.inl rfl)) e) fun pins s σ H us Q i P d fl I r e w => by
  simp only [biV, v_len, v_abs, v_int, v_str, v_sum, v_any, v_all, Option.some.injEq, Prod.mk.injEq] at e
  obtain ⟨rfl, rfl⟩ := e
  exact call_int1 pins s σ H _ us Q I r (.inl ⟨i, rfl, w.sh (.int _)⟩)
theorem crStr : CallR X (.type "str") (rA X.K (biV .str)) := cr1 (hb := fun ds p e => one_int (.inr (.inr rfl)) e) fun pins s σ H us Q i P d fl I r e w => by
  simp only [biV, v_len, v_abs, v_int, v_str, v_sum, v_any, v_all] at e
  split at e
  · simp only [Option.some.injEq, Prod.mk.injEq] at e
    obtain ⟨rfl, rfl⟩ := e
    exact call_str_int pins s σ H _ us Q I r ⟨i, rfl, by assumption, w.sh (.str _)⟩
  · cases e
/-- one value in -/
theorem one_in {vs : List V} {ds : List PyData} {K : PySem.W.Frag} {H : Hp} {P : Addr → Prop} (r : RpAll K H P vs ds) {d : PyData} (e : ds = [d]) : ∃ v, vs = [v] ∧ Rp K H P v d := by
  subst e
  cases r with
  | cons h1 h2 => cases h2; exact ⟨_, rfl, h1⟩
theorem tsum_raw {prog : Program} {w : World} {A : Around} {E : Value → Shared → Prop} {s : Shared} {l : Addr} {its : List Value} {ns : List Int} {Q : Value → Shared → Prop} (hh : A.handled = none) (hl : IsTup s.heap l its.toArray) (hi : IntsAre its ns)
    (h : ∀ h' tk t', (∀ b o, s.heap.get? b = some o → h'.get? b = some o) → Q (.int ns.sum t') { s with heap := h', toks := tk }) : wpAny (model prog w) A (call (.builtin "sum") [.ref l]) Q E s := by
  obtain ⟨xs, e⟩ := hi.allInts.items
  have hn : numsOf (intItems xs).toList = ns := by rw [← e]; exact hi.numsOf
  rw [nums_intItems] at hn
  rw [e] at hl
  refine PySem.W.ktm_sumG hh hl fun h' tk t' hk => ?_
  have := h h' tk t' hk
  rw [preSum_eq, List.take_of_length_le (by simp), hn]; exact this
theorem crSum (hc : X.calm = true) : CallR X (.builtin "sum") (rA X.K (biV .sum)) := by
  intro pins s σ H xs us Q I r ⟨P, ds, d, fl, hr, e, w⟩
  have : ∃ zs, ds = [.list zs] ∨ ds = [.tuple zs] := by
    cases ds with
    | nil => simp [biV, v_len, v_abs, v_int, v_str, v_sum, v_any, v_all] at e
    | cons x xs => cases xs with
      | nil => cases x <;> first | exact ⟨_, .inl rfl⟩ | exact ⟨_, .inr rfl⟩ | simp [biV, v_len, v_abs, v_int, v_str, v_sum, v_any, v_all] at e
      | cons y ys => cases x <;> simp [biV, v_len, v_abs, v_int, v_str, v_sum, v_any, v_all] at e
  obtain ⟨zs, hz | hz⟩ := this
  · obtain ⟨v, rfl, rv⟩ := one_in hr hz
    subst hz
    simp only [biV, v_len, v_abs, v_int, v_str, v_sum, v_any, v_all] at e
    obtain ⟨ns, en, ed⟩ := Option.map_eq_some_iff.mp e
    cases ed
    cases rv with
    | lst n h r1 =>
      have ev := ints_rp en r1
      subst ev
      exact cr_sum hc pins s σ H _ us Q I r ⟨_, ns, rfl, .inl (.inl h), w.sh (.int _)⟩
  · obtain ⟨v, rfl, rv⟩ := one_in hr hz
    subst hz
    simp only [biV, v_len, v_abs, v_int, v_str, v_sum, v_any, v_all] at e
    obtain ⟨ns, en, ed⟩ := Option.map_eq_some_iff.mp e
    cases ed
    cases rv with
    | tup h r1 =>
      have ev := ints_rp en r1
      subst ev
      obtain ⟨its, rv, hl, _⟩ := I.tuple (X := X) (.inl (.inl h))
      rw [Vals.ref1 r]
      exact tsum_raw (I.ok.hd hc) hl rv.ints fun h' tk t' hk => ⟨.int _, H, I.kept hk, ⟨_, rfl⟩, w.sh (.int _)⟩
theorem crAny (hc : X.calm = true) : CallR X (.builtin "any") (rA X.K (biV .any)) := by
  intro pins s σ H xs us Q I r ⟨P, ds, d, fl, hr, e, w⟩
  have : ∃ zs, ds = [.list zs] := by
    cases ds with
    | nil => simp [biV, v_len, v_abs, v_int, v_str, v_sum, v_any, v_all] at e
    | cons x xs => cases xs with
      | nil => cases x <;> first | exact ⟨_, rfl⟩ | simp [biV, v_len, v_abs, v_int, v_str, v_sum, v_any, v_all] at e
      | cons y ys => cases x <;> simp [biV, v_len, v_abs, v_int, v_str, v_sum, v_any, v_all] at e
  obtain ⟨zs, hz⟩ := this
  obtain ⟨v, rfl, rv⟩ := one_in hr hz
  subst hz
  simp only [biV, v_len, v_abs, v_int, v_str, v_sum, v_any, v_all] at e
  obtain ⟨ns, en, ed⟩ := Option.map_eq_some_iff.mp e
  cases ed
  cases rv with
  | lst n h r1 =>
    have ev := bools_rp en r1
    subst ev
    exact cr_any hc pins s σ H _ us Q I r ⟨_, ns, rfl, .inl (.inl h), w.sh (.bl _)⟩
theorem crAll (hc : X.calm = true) : CallR X (.builtin "all") (rA X.K (biV .all)) := by
  intro pins s σ H xs us Q I r ⟨P, ds, d, fl, hr, e, w⟩
  have : ∃ zs, ds = [.list zs] := by
    cases ds with
    | nil => simp [biV, v_len, v_abs, v_int, v_str, v_sum, v_any, v_all] at e
    | cons x xs => cases xs with
      | nil => cases x <;> first | exact ⟨_, rfl⟩ | simp [biV, v_len, v_abs, v_int, v_str, v_sum, v_any, v_all] at e
      | cons y ys => cases x <;> simp [biV, v_len, v_abs, v_int, v_str, v_sum, v_any, v_all] at e
  obtain ⟨zs, hz⟩ := this
  obtain ⟨v, rfl, rv⟩ := one_in hr hz
  subst hz
  simp only [biV, v_len, v_abs, v_int, v_str, v_sum, v_any, v_all] at e
  obtain ⟨ns, en, ed⟩ := Option.map_eq_some_iff.mp e
  cases ed
  cases rv with
  | lst n h r1 =>
    have ev := bools_rp en r1
    subst ev
    exact cr_all hc pins s σ H _ us Q I r ⟨_, ns, rfl, .inl (.inl h), w.sh (.bl _)⟩

/-! sorted, min, max -/
theorem alikeD_ok {xs : List PyData} (h : alikeAllD xs = true) : PySem.W.AllAlike xs := fun d hd d' hd' => by
  have := List.all_eq_true.mp h d hd
  exact List.all_eq_true.mp this d' hd'
theorem sortOk_ok {xs : List PyData} (h : sortOk xs = true) : PySem.W.AllAlike xs ∧ PyData.plainAll xs = true ∧ PyData.depthAll xs ≤ mxD ∧ PySem.W.Sortable xs ∧ xs.length ≤ sizeLine := by
  unfold sortOk at h
  simp only [Bool.and_eq_true, decide_eq_true_eq, Bool.or_eq_true] at h
  obtain ⟨⟨⟨h1, h2⟩, h3⟩, h4⟩ := h
  obtain ⟨p, dd⟩ := okD_and h2
  refine ⟨alikeD_ok h1, by simpa [PyData.plain] using p, by have : (PyData.list xs).depth = PyData.depthAll xs + 1 := rfl; omega, ?_, h4⟩
  rcases h3 with h3 | h3
  · refine .inl fun d hd => ?_
    have := List.all_eq_true.mp h3 d hd
    cases d with
    | tuple ys => cases ys with
      | nil => cases this
      | cons y ys => exact ⟨y, ys, rfl⟩
    | _ => cases this
  · refine .inr fun d hd => ?_
    have := List.all_eq_true.mp h3 d hd
    cases d <;> first | (cases this; done) | exact ⟨(fun z => nomatch z), fun _ z => nomatch z⟩
theorem sortOk_alike {xs : List PyData} (h : sortOk xs = true) : PySem.W.AlikeAll xs := by
  obtain ⟨h1, _, _, h3, _⟩ := sortOk_ok h
  refine ⟨fun x hx y hy => h1 x hx y hy, fun x hx z => ?_⟩
  subst z
  rcases h3 with h3 | h3
  · obtain ⟨_, _, e⟩ := h3 _ hx
    cases e
  · exact (h3 _ hx).1 rfl
theorem each_of {h : Heap} {us : List Value} {ds : List PyData} {as : List Addr} (r : ReadsAll h us ds as) : PySem.W.EachIs (fun v d => ∃ as, Reads h v d as) us ds := by
  have := PySem.W.readsAll_each (enc := fun d : PyData => d) (vs := us) (bs := ds) (as := as) (h := h) (by simpa using r)
  exact this
/-- values and data side by side, rearranged alike -/
def Sd (K : PySem.W.Frag) (H : Hp) (P : Addr → Prop) (u : Value) (d : PyData) : Prop := ∃ v, RelV v u ∧ Rp K H P v d
theorem sd_of {K : PySem.W.Frag} {H : Hp} {P : Addr → Prop} : ∀ {vs : List V} {ds : List PyData} {us : List Value}, RpAll K H P vs ds → Vals vs us → PySem.W.EachIs (Sd K H P) us ds
  | _, _, _, .nil, .nil => .nil
  | _, _, _, .cons r rs, .cons q qs => .cons ⟨_, q, r⟩ (sd_of rs qs)
theorem of_sd {K : PySem.W.Frag} {H : Hp} {P : Addr → Prop} : ∀ {us : List Value} {ds : List PyData}, PySem.W.EachIs (Sd K H P) us ds → ∃ vs, RpAll K H P vs ds ∧ Vals vs us
  | _, _, .nil => ⟨[], .nil, .nil⟩
  | _, _, .cons ⟨v, q, r⟩ t => by
    obtain ⟨vs, rs, qs⟩ := of_sd t
    exact ⟨v :: vs, .cons r rs, .cons q qs⟩

theorem sd_get {K : PySem.W.Frag} {H : Hp} {P : Addr → Prop} : ∀ {us : List Value} {ds : List PyData} {i : Nat} {u : Value}, PySem.W.EachIs (Sd K H P) us ds → us[i]? = some u → ∃ d, ds[i]? = some d ∧ Sd K H P u d
  | _, _, _, _, .nil, e => by simp at e
  | _, _, 0, _, .cons r _, e => by simp at e; subst e; exact ⟨_, rfl, r⟩
  | _, _, i + 1, _, .cons _ t, e => by
    obtain ⟨d, h1, h2⟩ := sd_get (i := i) t (by simpa using e)
    exact ⟨d, by simpa using h1, h2⟩
theorem rp_plain_eq {pins : List (Addr × Obj)} {σ : L2.St} {H : Hp} {s : Shared} {P : Addr → Prop} {h' : Heap} {d d' : PyData} {u : Value} {as : List Addr} (I : Inv X pins σ H s) (hk : ∀ b o, s.heap.get? b = some o → h'.get? b = some o) (hp : d.plain = true) (r : Sd X.K H P u d) (r' : Reads h' u d' as) : d = d' := by
  obtain ⟨v, rv, rd⟩ := r
  obtain ⟨bs, r1⟩ := rd.reads I hp rv
  exact SeqAt.plain_unique d d' u _ _ hp (PyProof.Rows.Reads.keeps hk r1) r'
theorem plain_mem : ∀ {xs : List PyData} {x : PyData}, PyData.plainAll xs = true → x ∈ xs → x.plain = true
  | x :: xs, y, h, hy => by
    have h' := plainAll_cons h
    rcases List.mem_cons.mp hy with rfl | hy
    · exact h'.1
    · exact plain_mem h'.2 hy

theorem sortedL (hr : X.A.units + 70 < cLine) {pins : List (Addr × Obj)} {σ : L2.St} {H : Hp} {s : Shared} {P : Addr → Prop} {Q : VK} {a : Addr} {xs : List V} {ds : List PyData} (I : Inv X pins σ H s) (h : H a = some (.lst xs)) (r : RpAll X.K H P xs ds) (ok : sortOk ds = true) (w : WantP X.K P H Q (.list (sortD ds)) .fr) :
    wpAny (model X.prog X.w) X.A (call (.builtin "sorted") [.ref a]) (EP X pins σ Q) X.xe s := by
  obtain ⟨h1, h2, h3, h4, h5⟩ := sortOk_ok ok
  obtain ⟨its, rv, pl, hz⟩ := I.list (X := X) (.inl (.inl h))
  obtain ⟨as, rr⟩ := r.readsAll I h2 rv
  have e : PySem.W.EachIs (Sd X.K H P) its ds := sd_of r rv
  have hd : mxD = 40 := rfl
  refine PySem.W.sorted_data (enc := fun d : PyData => d) (R := Sd X.K H P) pl.isList e (each_of rr) (by simpa using h1) (by simpa using h4) h5 (fun b hb => ?_) fun out ho eo => ?_
  · have : b.depth ≤ PyData.depthAll ds := by
      clear rr e r h1 h4 ok w
      induction ds with
      | nil => cases hb
      | cons x xs ih =>
        show b.depth ≤ max x.depth (PyData.depthAll xs)
        rcases List.mem_cons.mp hb with rfl | hb
        · exact Nat.le_max_left _ _
        · exact Nat.le_trans (ih (plainAll_cons h2).2 (Nat.le_trans (Nat.le_max_right _ _) h3) (Nat.le_of_succ_le h5) hb) (Nat.le_max_right _ _)
    omega
  · obtain ⟨ws, rw1, rw2⟩ := of_sd eo
    have hk : ∀ b o, s.heap.get? b = some o → (sortedAll s.heap its out.toArray).get? b = some o := fun b o e => sortedAll_old e
    obtain ⟨ep, hs⟩ := sortedAll_at s.heap its out.toArray
    have hlen : ws.length ≤ sizeLine := by rw [rw1.length, List.length_mergeSort]; exact h5
    refine ⟨.ref (s.heap.objs.size + 1), upd H (s.heap.objs.size + 1) (.lst ws), I.laid (t' := s.toks) hk (Nat.le_succ _) (show ObjOk X.prog X.w _ _ _ (.lst ws) from ⟨hlen, out, _, rw2, hs⟩), rfl, ?_⟩
    refine w.lst ?_ _ (I.hok.fresh (Nat.le_succ _))
    have : ds.mergeSort (PySem.W.dataLe false fun d : PyData => d) = sortD ds := rfl
    rw [← this]
    exact rw1

theorem keysStr : ∀ {kvs : List (L2.Key × V)} {ds : List (PyData × PyData)} {K : PySem.W.Frag} {H : Hp} {P : Addr → Prop}, RpK K H P kvs ds → PySem.W.AllAlike (ds.map (·.1)) →
    (∃ ks : List Str, kvs.map (·.1) = ks.map Sum.inr ∧ ds.map (·.1) = ks.map PyData.str) ∨ (∃ ks : List Int, kvs.map (·.1) = ks.map Sum.inl ∧ ds.map (·.1) = ks.map PyData.int)
  | _, _, _, _, _, .nil, _ => .inl ⟨[], rfl, rfl⟩
  | _, _, _, _, _, .cons (k := k) (d := d) (ds := ds) r rs, al => by
    have al' : PySem.W.AllAlike (ds.map (·.1)) := fun a ha b hb => al a (List.mem_cons_of_mem _ ha) b (List.mem_cons_of_mem _ hb)
    rcases keysStr rs al' with ⟨ks, e1, e2⟩ | ⟨ks, e1, e2⟩
    · cases k with
      | inr z => exact .inl ⟨z :: ks, by rw [List.map_cons, e1]; rfl, by rw [List.map_cons, e2]; rfl⟩
      | inl z =>
        cases ks with
        | nil => exact .inr ⟨[z], by rw [List.map_cons, e1]; rfl, by rw [List.map_cons, e2]; rfl⟩
        | cons y ys =>
          have := al (.int z) (by simp [keyPD]) (.str y) (by rw [List.map_cons, e2]; simp)
          cases this
    · cases k with
      | inl z => exact .inr ⟨z :: ks, by rw [List.map_cons, e1]; rfl, by rw [List.map_cons, e2]; rfl⟩
      | inr z =>
        cases ks with
        | nil => exact .inl ⟨[z], by rw [List.map_cons, e1]; rfl, by rw [List.map_cons, e2]; rfl⟩
        | cons y ys =>
          have := al (.str z) (by simp [keyPD]) (.int y) (by rw [List.map_cons, e2]; simp)
          cases this
theorem leD_int (x y : Int) : leD (.int x) (.int y) = decide (x ≤ y) := by
  unfold leD
  rw [PySem.W.dataLt_int]
  by_cases h : x ≤ y
  · simp [h]
  · simp [h]; omega
theorem sort_ints {ks ys : List Int} (hp : ys.Perm ks) (hs : ys.Pairwise (· ≤ ·)) : sortD (ks.map .int) = ys.map .int := by
  have h1 : (sortD (ks.map PyData.int)).Perm (ks.map .int) := List.mergeSort_perm _ _
  have e : sortD (ks.map PyData.int) = (ks.mergeSort fun a b => decide (a ≤ b)).map .int := by
    unfold sortD
    rw [List.map_mergeSort (r := fun a b : Int => decide (a ≤ b)) (s := leD)]
    intro a _ b _
    exact (leD_int a b).symm
  rw [e]
  have hsort : (ks.mergeSort fun a b => decide (a ≤ b)).Pairwise (· ≤ ·) := by
    have := List.pairwise_mergeSort (le := fun a b : Int => decide (a ≤ b)) (by intro a b c; simp; omega) (by intro a b; simp; omega) ks
    exact this.imp (by intro a b h; simpa using h)
  have := List.Perm.eq_of_pairwise (le := fun a b : Int => a ≤ b) (fun a b _ _ h1 h2 => by omega) hsort hs ((List.mergeSort_perm ks _).trans hp.symm)
  rw [this]
theorem leD_str (x y : Str) : leD (.str x) (.str y) = !decide (y.cps.toList < x.cps.toList) := by
  unfold leD
  rw [PySem.W.dataLt_str]
theorem minMaxP (b : Bool) (hc : X.calm = true) (hr : X.A.units + 70 < cLine) : CallR X (.builtin (if b then "min" else "max")) (rA X.K (mmV b)) := by
  intro pins s σ H xs us Q I r ⟨P, ds, d, fl, hr', e, w⟩
  have hd : mxD = 40 := rfl
  have seqc : ∀ {x : PyData} {zs : List PyData} {vs : List V} {its : List Value}, RpAll X.K H P vs (x :: zs) → Vals vs its → sortOk (x :: zs) = true → WantP X.K P H Q (if b then PySem.W.minD x zs else PySem.W.maxD x zs) .sh →
      (∀ (i : Nat) (v : Value) (h' : Heap) (tk : Nat) (bs : List Addr), its[i]? = some v → Reads h' v (if b then PySem.W.minD x zs else PySem.W.maxD x zs) bs → (∀ b o, s.heap.get? b = some o → h'.get? b = some o) → EP X pins σ Q v { s with heap := h', toks := tk }) := by
    intro x zs vs its ra rv ok w i v h' tk bs hv rd hk
    obtain ⟨h1, h2, h3, h4, h5⟩ := sortOk_ok ok
    obtain ⟨d', hd', sd⟩ := sd_get (sd_of ra rv) hv
    have := rp_plain_eq I hk (plain_mem h2 (List.mem_of_getElem? hd')) sd rd
    obtain ⟨v', rv', rp'⟩ := sd
    rw [this] at rp'
    exact ⟨v', H, I.kept hk, rv', w.sh rp'⟩
  unfold mmV at e
  split at e
  · rename_i x zs
    split at e
    · rename_i ok
      obtain ⟨h1, h2, h3, h4, h5⟩ := sortOk_ok ok
      simp only [Option.some.injEq, Prod.mk.injEq] at e
      obtain ⟨rfl, rfl⟩ := e
      obtain ⟨v, rfl, rv⟩ := one_in hr' rfl
      cases rv with
      | lst n h ra =>
        obtain ⟨u, rfl, rx⟩ := vals1 r
        cases (show u = Value.ref _ from rx)
        obtain ⟨its, rv, pl, hz⟩ := I.list (X := X) (.inl (.inl h))
        obtain ⟨as, rr⟩ := ra.readsAll I h2 rv
        have key := seqc ra rv ok w
        cases b with
        | true => exact PySem.W.min_list_data (I.ok.hd hc) pl.isList (by simpa using rr) (sortOk_alike ok) (by omega) fun i v h' tk bs hv rd hk => key i v h' tk bs (by simpa using hv) rd hk
        | false => exact PySem.W.max_list_data (I.ok.hd hc) pl.isList (by simpa using rr) (sortOk_alike ok) (by omega) fun i v h' tk bs hv rd hk => key i v h' tk bs (by simpa using hv) rd hk
    · cases e
  · rename_i x zs
    split at e
    · rename_i ok
      obtain ⟨h1, h2, h3, h4, h5⟩ := sortOk_ok ok
      simp only [Option.some.injEq, Prod.mk.injEq] at e
      obtain ⟨rfl, rfl⟩ := e
      obtain ⟨v, rfl, rv⟩ := one_in hr' rfl
      cases rv with
      | tup h ra =>
        obtain ⟨u, rfl, rx⟩ := vals1 r
        cases (show u = Value.ref _ from rx)
        obtain ⟨its, rv, pl, hz⟩ := I.tuple (X := X) (.inl (.inl h))
        obtain ⟨as, rr⟩ := ra.readsAll I h2 rv
        have key := seqc ra rv ok w
        cases b with
        | true => exact PySem.W.min_tuple_data (I.ok.hd hc) pl (by simpa using rr) (sortOk_alike ok) (by omega) fun i v h' tk bs hv rd hk => key i v h' tk bs (by simpa using hv) rd hk
        | false => exact PySem.W.max_tuple_data (I.ok.hd hc) pl (by simpa using rr) (sortOk_alike ok) (by omega) fun i v h' tk bs hv rd hk => key i v h' tk bs (by simpa using hv) rd hk
    · cases e
  · rename_i i j
    simp only [Option.some.injEq, Prod.mk.injEq] at e
    obtain ⟨rfl, rfl⟩ := e
    cases hr' with
    | cons h1 h2 =>
      cases h1
      cases h2 with
      | cons h3 h4 =>
        cases h3
        cases h4
        cases b with
        | true => exact call_min2 hc pins s σ H _ us Q I r ⟨i, j, rfl, w.sh (.int _)⟩
        | false => exact call_max2 hc pins s σ H _ us Q I r ⟨i, j, rfl, w.sh (.int _)⟩
  · cases e
theorem crMin (hc : X.calm = true) (hr : X.A.units + 70 < cLine) : CallR X (.builtin "min") (rA X.K (biV .min)) := minMaxP true hc hr
theorem crMax (hc : X.calm = true) (hr : X.A.units + 70 < cLine) : CallR X (.builtin "max") (rA X.K (biV .max)) := minMaxP false hc hr

/-! tuple(x), list(x), dict(x), sorted(x) -/
theorem ofDT {K : PySem.W.Frag} {H : Hp} {P : Addr → Prop} : ∀ {kvs : List (List L2.Key × V)} {ds : List (PyData × PyData)} {bs : List Addr}, RpT K H P kvs ds → IsKeys H kvs bs → RpAll K H P (bs.map V.ref) (ds.map (·.1))
  | _, _, _, .nil, .nil => .nil
  | _, _, _, .cons (k := k) r rs, .cons h t => .cons (.tup h (tupK k)) (ofDT rs t)
where tupK {K : PySem.W.Frag} {H : Hp} {P : Addr → Prop} : ∀ ks : List L2.Key, RpAll K H P (ks.map kV) (ks.map keyPD)
  | [] => .nil
  | k :: ks => .cons (by cases k <;> constructor) (tupK ks)
theorem one_of {f : List PyData → Option (PyData × Fl)} {ds : List PyData} {p : PyData × Fl} (h0 : f [] = none) (h2 : ∀ x y r, f (x :: y :: r) = none) (e : f ds = some p) : ∃ d, ds = [d] := by
  cases ds with
  | nil => rw [h0] at e; cases e
  | cons x r => cases r with
    | nil => exact ⟨x, rfl⟩
    | cons y r => rw [h2] at e; cases e
theorem tyTuple : CallR X (.type "tuple") (rA X.K fun ds => match ds with
    | [.list xs] => some (.tuple xs, .sh)
    | [.tuple xs] => some (.tuple xs, .sh)
    | _ => none) := by
  intro pins s σ H xs us Q I r ⟨P, ds, d, fl, hr, e, w⟩
  dsimp only at e
  split at e
  · simp only [Option.some.injEq, Prod.mk.injEq] at e
    obtain ⟨rfl, rfl⟩ := e
    obtain ⟨v, rfl, rv⟩ := one_in hr rfl
    cases rv with
    | lst n h ra => exact call_tuple_of pins s σ H _ us Q I r ⟨_, _, rfl, .inl ⟨.inl (.inl h), w.tup ra⟩⟩
  · simp only [Option.some.injEq, Prod.mk.injEq] at e
    obtain ⟨rfl, rfl⟩ := e
    obtain ⟨v, rfl, rv⟩ := one_in hr rfl
    cases rv with
    | tup h ra => exact call_tuple_of pins s σ H _ us Q I r ⟨_, _, rfl, .inr ⟨.inl (.inl h), w.sh (.tup h ra)⟩⟩
  · cases e
/-- list(d): a dict's keys -/
theorem listD (hc : X.calm = true) {pins : List (Addr × Obj)} {σ : L2.St} {H : Hp} {s : Shared} {P : Addr → Prop} {Q : VK} {v : V} {us : List Value} {ds : List (PyData × PyData)} (I : Inv X pins σ H s) (r : Vals [v] us) (rv : Rp X.K H P v (.dict ds)) (w : WantP X.K P H Q (.list (ds.map (·.1))) .fr) :
    wpAny (model X.prog X.w) X.A (call (.type "list") us) (EP X pins σ Q) X.xe s := by
  cases rv with
  | dk n h ra => exact call_listD hc pins s σ H _ us Q I r ⟨_, _, rfl, h.rd, w.lst (keys_rp ra)⟩
  | dt n h ra => exact call_list_dT hc pins s σ H _ us Q I r ⟨_, _, rfl, h.rd, fun p bs hp hb => w.lst (ofDT ra hb) p hp⟩
theorem tyList (hc : X.calm = true) : CallR X (.type "list") (rA X.K fun ds => match ds with
    | [.list xs] => some (.list xs, .fr)
    | [.tuple xs] => some (.list xs, .fr)
    | [.dict kvs] => some (.list (kvs.map (·.1)), .fr)
    | _ => none) := by
  intro pins s σ H xs us Q I r ⟨P, ds, d, fl, hr, e, w⟩
  dsimp only at e
  split at e
  · simp only [Option.some.injEq, Prod.mk.injEq] at e
    obtain ⟨rfl, rfl⟩ := e
    obtain ⟨v, rfl, rv⟩ := one_in hr rfl
    cases rv with
    | lst n h ra => exact call_list_of pins s σ H _ us Q I r ⟨_, _, rfl, .inl (.inl (.inl h)), w.lst ra⟩
  · simp only [Option.some.injEq, Prod.mk.injEq] at e
    obtain ⟨rfl, rfl⟩ := e
    obtain ⟨v, rfl, rv⟩ := one_in hr rfl
    cases rv with
    | tup h ra => exact call_list_of pins s σ H _ us Q I r ⟨_, _, rfl, .inr (.inl (.inl h)), w.lst ra⟩
  · simp only [Option.some.injEq, Prod.mk.injEq] at e
    obtain ⟨rfl, rfl⟩ := e
    obtain ⟨v, rfl, rv⟩ := one_in hr rfl
    exact listD hc I r rv w
  · cases e
theorem pairsD_inv : ∀ {xs : List PyData} {ps : List (PyData × PyData)}, pairsD xs = some ps → xs = ps.map fun p => .tuple [p.1, p.2]
  | [], ps, e => by
    have : ps = [] := by simpa [pairsD] using e.symm
    subst this; rfl
  | x :: xs, ps, e => by
    unfold pairsD at e
    split at e
    · rename_i h; cases h
    · rename_i k v r h
      cases h
      obtain ⟨qs, e1, rfl⟩ := Option.map_eq_some_iff.mp e
      rw [pairsD_inv e1]; rfl
    · cases e
/-- all keys ints or texts -/
theorem dictOf_keys : ∀ {ps acc out : List (PyData × PyData)}, (ps.foldlM (init := acc) fun acc p => match dkey p.1 with
    | some (.inl k) => some (dput acc (.inl k) p.1 p.2)
    | _ => none) = some out → ∃ ks : List L2.Key, ps.map (·.1) = ks.map keyPD
  | [], _, _, _ => ⟨[], rfl⟩
  | p :: ps, acc, out, e => by
    rw [List.foldlM_cons] at e
    cases h : dkey p.1 with
    | none => simp [h] at e
    | some k =>
      cases k with
      | inr k => simp [h] at e
      | inl k =>
        simp only [h, Option.bind_eq_bind, Option.bind_some] at e
        obtain ⟨ks, ek⟩ := dictOf_keys e
        have e1 : p.1 = keyPD k := dkey_inv h
        exact ⟨k :: ks, by rw [List.map_cons, List.map_cons, ek, e1]⟩
theorem rpK_has {K : PySem.W.Frag} {H : Hp} {P : Addr → Prop} {k : L2.Key} : ∀ {kvs : List (L2.Key × V)} {ds : List (PyData × PyData)}, RpK K H P kvs ds → (kvs.any fun kv => decide (kv.1 = k)) = dhas ds (.inl k)
  | _, _, .nil => rfl
  | _, _, .cons (k := k') r rs => by
    rw [List.any_cons, rpK_has rs]
    show _ = (decide (dkey (keyPD k') = some (Sum.inl k)) || dhas _ _)
    rw [dkey_k]
    by_cases h : k' = k
    · simp [h]
    · have : ¬ (some (Sum.inl k') : Option DK) = some (Sum.inl k) := fun e => h (Sum.inl.inj (Option.some.inj e))
      simp [h, this]
theorem rpK_map {K : PySem.W.Frag} {H : Hp} {P : Addr → Prop} {k : L2.Key} {v : V} {d : PyData} (r : Rp K H P v d) : ∀ {kvs : List (L2.Key × V)} {ds : List (PyData × PyData)}, RpK K H P kvs ds →
    RpK K H P (kvs.map fun kv => if kv.1 = k then (kv.1, v) else kv) (ds.map fun p => if dkey p.1 = some (.inl k) then (p.1, d) else p)
  | _, _, .nil => .nil
  | _, _, .cons (k := k') r' rs => by
    have ih := rpK_map r (k := k) rs
    rw [List.map_cons, List.map_cons]
    show RpK K H P _ ((if dkey (keyPD k') = some (Sum.inl k) then _ else _) :: _)
    rw [dkey_k]
    by_cases h : k' = k
    · subst h
      simp only [if_true]
      exact .cons r ih
    · have : ¬ (some (Sum.inl k') : Option DK) = some (Sum.inl k) := fun e => h (Sum.inl.inj (Option.some.inj e))
      simp only [if_neg this, if_neg h]
      exact .cons r' ih
theorem rpK_snoc {K : PySem.W.Frag} {H : Hp} {P : Addr → Prop} {k : L2.Key} {v : V} {d : PyData} (r : Rp K H P v d) : ∀ {kvs : List (L2.Key × V)} {ds : List (PyData × PyData)}, RpK K H P kvs ds → RpK K H P (kvs ++ [(k, v)]) (ds ++ [(keyPD k, d)])
  | _, _, .nil => .cons r .nil
  | _, _, .cons r' rs => .cons r' (rpK_snoc r rs)
theorem dput_rp {K : PySem.W.Frag} {H : Hp} {P : Addr → Prop} {k : L2.Key} {v : V} {d : PyData} (r : Rp K H P v d) {kvs : List (L2.Key × V)} {ds : List (PyData × PyData)} (rk : RpK K H P kvs ds) : RpK K H P (putK kvs k v) (dput ds (.inl k) (keyPD k) d) := by
  unfold putK dput
  rw [rpK_has rk]
  split
  · exact rpK_map r rk
  · exact rpK_snoc r rk
theorem dictOf_rp {K : PySem.W.Frag} {H : Hp} {P : Addr → Prop} : ∀ {ks : List L2.Key} {ps : List (PyData × PyData)} {vs : List V} {acc out : List (PyData × PyData)} {kvs : List (L2.Key × V)}, ps.map (·.1) = ks.map keyPD → RpAll K H P vs (ps.map (·.2)) → RpK K H P kvs acc →
    (ps.foldlM (init := acc) fun acc p => match dkey p.1 with
    | some (.inl k) => some (dput acc (.inl k) p.1 p.2)
    | _ => none) = some out → RpK K H P (mergeK kvs (ks.zip vs)) out
  | [], [], _, _, _, _, _, .nil, ra, e => by
    cases e
    exact ra
  | k :: ks, p :: ps, v :: vs, acc, out, kvs, ek, .cons r rs, ra, e => by
    rw [List.map_cons, List.map_cons] at ek
    injection ek with e1 e2
    rw [List.foldlM_cons, e1, dkey_k] at e
    simp only [Option.bind_eq_bind, Option.bind_some] at e
    show RpK K H P (mergeK (putK kvs k v) (ks.zip vs)) out
    exact dictOf_rp e2 rs (dput_rp r ra) e
  | [], p :: ps, _, _, _, _, ek, _, _, _ => by simp at ek
  | k :: ks, [], _, _, _, _, ek, _, _, _ => by simp at ek

theorem pair_addrs {K : PySem.W.Frag} {H : Hp} {P : Addr → Prop} : ∀ {ps : List (PyData × PyData)} {vs : List V} {ks : List L2.Key}, RpAll K H P vs (ps.map fun p => .tuple [p.1, p.2]) → ps.map (·.1) = ks.map keyPD →
    ∃ (as : List Addr) (ws : List V), vs = as.map V.ref ∧ RpAll K H P ws (ps.map (·.2)) ∧ Paired (fun a kv => SqT K H a [kV kv.1, kv.2]) as (ks.zip ws)
  | [], _, ks, .nil, e => by
    have : ks = [] := by cases ks with
      | nil => rfl
      | cons _ _ => cases e
    subst this
    exact ⟨[], [], rfl, .nil, .nil⟩
  | p :: ps, _, k :: ks, .cons r rs, e => by
    rw [List.map_cons, List.map_cons] at e
    injection e with e1 e2
    obtain ⟨as, ws, rfl, rw', hp⟩ := pair_addrs rs e2
    cases r with
    | tup h ra =>
      cases ra with
      | cons r1 r2 =>
        cases r2 with
        | cons r2 r3 =>
          cases r3
          rw [e1] at r1
          have := key_val r1
          subst this
          exact ⟨_ :: as, _ :: ws, rfl, .cons r2 rw', .cons (.inl (.inl h)) hp⟩
  | p :: ps, _, [], _, e => by simp at e
theorem tyDict (hc : X.calm = true) : CallR X (.type "dict") (rA X.K fun ds => match ds with
    | [.list xs] => do return (.dict (← dictOf (← pairsD xs)), .fr)
    | [.dict kvs] => if kvs.all plainKey then some (.dict kvs, .fr) else none
    | _ => none) := by
  intro pins s σ H xs us Q I r ⟨P, ds, d, fl, hr, e, w⟩
  dsimp only at e
  split at e
  · rename_i zs
    cases h1 : pairsD zs with
    | none => simp [h1] at e
    | some ps =>
      cases h2 : dictOf ps with
      | none => simp [h1, h2] at e
      | some out =>
        simp only [h1, h2, Option.bind_eq_bind, Option.bind_some, Option.pure_def, Option.some.injEq, Prod.mk.injEq] at e
        obtain ⟨rfl, rfl⟩ := e
        have ez := pairsD_inv h1
        subst ez
        obtain ⟨v, rfl, rv⟩ := one_in hr rfl
        cases rv with
        | lst n h ra =>
          obtain ⟨ks, ek⟩ := dictOf_keys (show _ = some out from h2)
          obtain ⟨as, ws, rfl, rw', hp⟩ := pair_addrs ra ek
          exact call_dictP hc pins s σ H _ us Q I r ⟨_, as, ks.zip ws, rfl, .inl (.inl h), hp, w.dk (dictOf_rp ek rw' .nil h2)⟩
  · rename_i kvs
    split at e
    · rename_i hk
      simp only [Option.some.injEq, Prod.mk.injEq] at e
      obtain ⟨rfl, rfl⟩ := e
      obtain ⟨v, rfl, rv⟩ := one_in hr rfl
      cases rv with
      | dk n h ra => exact call_dictD pins s σ H _ us Q I r ⟨_, _, rfl, h.rd, w.dk ra⟩
      | dt n h ra =>
        exfalso
        cases ra with
        | nil => exact h.1 rfl
        | cons r rs =>
          rename_i k _ _ _ _
          rw [List.all_cons, Bool.and_eq_true] at hk
          have := hk.1
          unfold plainKey at this
          rw [show dkey (PyData.tuple (List.map keyPD k), _).1 = _ from dkey_t k] at this
          cases this
    · cases e
  · cases e
/-- sorted(x), x collected -/
theorem sortedC (hu : X.A.units + 70 < cLine) {pins : List (Addr × Obj)} {σ : L2.St} {H : Hp} {s : Shared} {P : Addr → Prop} {Q : VK} {u : Value} {xs : List V} {ds : List PyData} (r : RpAll X.K H P xs ds) (ok : sortOk ds = true) (w : WantP X.K P H Q (.list (sortD ds)) .fr)
    (col : ∀ (E : Value → Shared → Prop) (Q' : List Value → Shared → Prop), (∀ its s1, Inv X pins σ H s1 → Vals xs its → Q' its s1) → wpAny (model X.prog X.w) X.A.in1 (collect u) Q' E s) :
    wpAny (model X.prog X.w) X.A (call (.builtin "sorted") [u]) (EP X pins σ Q) X.xe s := by
  obtain ⟨h1, h2, h3, h4, h5⟩ := sortOk_ok ok
  have hd : mxD = 40 := rfl
  refine Calls.call_function_entry PyProof.Rows.kind_sorted PyProof.Rows.plain_sorted PyProof.Rows.entry_sorted (PyProof.Rows.args_sorted1 _) ?_
  unfold Builtin.«sorted»
  refine wpAny_bind (m := checkCount "sorted" 1 1 _) (wpAny_pure ?_)
  refine wpAny_bind (col _ _ fun its s1 I1 rv => ?_)
  have hl : its.length = ds.length := rv.length.symm.trans r.length
  refine wpAny_bind (wpAny_newList ?_ (by rw [hl]; exact h5))
  have hoL : (s1.heap.push (seqObj "list" its.toArray 0)).get? s1.heap.objs.size = some (seqObj "list" its.toArray 0) := Heap.get?_push_size _ rfl
  have old : ∀ b o, s1.heap.get? b = some o → (PySem.W.sortingHeap (s1.heap.push (seqObj "list" its.toArray 0)) s1.heap.objs.size its).get? b = some o := fun b o e => by
    have hb : b < s1.heap.objs.size := Heap.lt_size e
    have e2 : (s1.heap.push (seqObj "list" its.toArray 0)).get? b = some o := Heap.get?_push_of_some _ e
    exact PySem.W.sortingHeap_old (Nat.ne_of_lt hb) e2
  obtain ⟨as, rr⟩ := r.readsAll I1 h2 rv
  have es : PySem.W.EachIs (fun v d => ∃ as, Reads (PySem.W.sortingHeap (s1.heap.push (seqObj "list" its.toArray 0)) s1.heap.objs.size its) v d as) its ds :=
    (each_of rr).mono fun _ _ ⟨as, q⟩ => ⟨as, PyProof.Rows.Reads.keeps old q⟩
  have dep : ∀ d, d ∈ ds → X.A.in1.in1.units + d.depth < cLine := by
    intro d hd'
    have : d.depth ≤ PyData.depthAll ds := by
      clear rr es r h1 h4 ok w hl rv col
      induction ds with
      | nil => cases hd'
      | cons x xs ih =>
        show d.depth ≤ max x.depth (PyData.depthAll xs)
        rcases List.mem_cons.mp hd' with rfl | hb
        · exact Nat.le_max_left _ _
        · exact Nat.le_trans (ih (plainAll_cons h2).2 (Nat.le_trans (Nat.le_max_right _ _) h3) (Nat.le_of_succ_le h5) hb) (Nat.le_max_right _ _)
    show X.A.units + 1 + 1 + d.depth < cLine
    omega
  have S := PySem.W.SortsAt.data (prog := X.prog) (w := X.w) (A := X.A.in1.in1) (s := { s1 with heap := PySem.W.sortingHeap (s1.heap.push (seqObj "list" its.toArray 0)) s1.heap.objs.size its }) es h1 h4 dep
  have sd := PySem.W.sortVals_data (h' := PySem.W.sortingHeap (s1.heap.push (seqObj "list" its.toArray 0)) s1.heap.objs.size its) (R := Sd X.K H P) (enc := fun d : PyData => d) false (sd_of r rv) es (by simpa using h1)
  show wpAny _ _ _ _ _ { s1 with heap := s1.heap.push (seqObj "list" its.toArray 0) }
  refine wpAny_bind (wpAny_holding (wpAny_call_entry PyProof.Rows.slot_list_sort ⟨_, hoL, rfl⟩ PyProof.Rows.entry_list_sort
    (PySem.W.list_sort_vals (s := { s1 with heap := s1.heap.push (seqObj "list" its.toArray 0) }) hoL S (by rw [hl]; exact h5) ⟨_, rfl, ?_⟩)
    (PyProof.Rows.args_list_sort _)))
  obtain ⟨ws, rw1, rw2⟩ := of_sd sd
  obtain ⟨e', he'⟩ := PyProof.Rows.sortedHeap_at (vs := its) (out := (PySem.W.sortVals (PySem.W.dataKind (PySem.W.sortingHeap (s1.heap.push (seqObj "list" its.toArray 0)) s1.heap.objs.size its) ds) false its its).toArray) hoL
  have hlen : ws.length ≤ sizeLine := by rw [rw1.length, List.length_mergeSort]; exact h5
  refine wpAny_pure ⟨_, rfl, .ref s1.heap.objs.size, upd H s1.heap.objs.size (.lst ws), I1.laid (t' := s1.toks) (fun b u e => ?_) (Nat.le_refl _)
    (show ObjOk X.prog X.w _ _ _ (.lst ws) from ⟨hlen, _, e', by simpa using rw2, by simpa using he'⟩), rfl, w.lst ?_ _ (I1.hok.fresh (Nat.le_refl _))⟩
  · have hb : b < s1.heap.objs.size := Heap.lt_size e
    rw [PyProof.Rows.sortedHeap_old (Nat.ne_of_lt hb) (by rw [size_push']; exact Nat.lt_succ_of_lt hb)]
    exact Heap.get?_push_of_some _ e
  · exact rw1
theorem sortedP (hc : X.calm = true) (hu : X.A.units + 70 < cLine) : CallR X (.builtin "sorted") (rA X.K (biV .sorted)) := by
  intro pins s σ H xs us Q I r ⟨P, ds, d, fl, hr, e, w⟩
  have e : v_sorted ds = some (d, fl) := e
  unfold v_sorted at e
  split at e
  · split at e
    · rename_i ok
      simp only [Option.some.injEq, Prod.mk.injEq] at e
      obtain ⟨rfl, rfl⟩ := e
      obtain ⟨v, rfl, rv⟩ := one_in hr rfl
      cases rv with
      | lst n h ra =>
        obtain ⟨u, rfl, rx⟩ := vals1 r
        cases (show u = Value.ref _ from rx)
        exact sortedL hu I h ra ok w
    · cases e
  · split at e
    · rename_i ok
      simp only [Option.some.injEq, Prod.mk.injEq] at e
      obtain ⟨rfl, rfl⟩ := e
      obtain ⟨v, rfl, rv⟩ := one_in hr rfl
      cases rv with
      | tup h ra =>
        obtain ⟨u, rfl, rx⟩ := vals1 r
        cases (show u = Value.ref _ from rx)
        obtain ⟨its, rr, ⟨o, ho, hcl, n, hd⟩, hz⟩ := I.tuple (X := X) (.inl (.inl h))
        have hl := rr.length
        refine sortedC hu ra ok w fun E Q' hQ => wpAny_collect_seq _ (.inr rfl) ho hcl hd (fun h' hk => ?_) (by rw [List.size_toArray]; omega)
        have e : its.toArray.toList = its := by simp
        rw [e]
        exact hQ its _ (I.kept (t' := s.toks) hk) rr
    · cases e
  · split at e
    · rename_i ok
      simp only [Option.some.injEq, Prod.mk.injEq] at e
      obtain ⟨rfl, rfl⟩ := e
      obtain ⟨v, rfl, rv⟩ := one_in hr rfl
      have hsz : _ ≤ sizeLine := (sortOk_ok ok).2.2.2.2
      cases rv with
      | dk n h ra =>
        obtain ⟨u, rfl, rx⟩ := vals1 r
        cases (show u = Value.ref _ from rx)
        obtain ⟨z, lo, vs, rel, dd⟩ := dk_rd I.hok h.rd
        obtain ⟨ep, hat⟩ := dd.dictAt
        have h16 : vs.length ≤ sizeLine := by rw [← rel.length]; exact z
        refine sortedC hu (keys_rp ra) ok w fun E Q' hQ => PySem.W.kdu_collect (A := X.A.in1) (PySem.W.kdl_dict (knd := mixKind X.prog X.w) (kvs := vs) (ep := ep) lo) (I.ok.hd hc) hat h16 fun h' tk acc hk hacc => ?_
        refine hQ _ _ (I.kept hk) ?_
        have hk2 := keys_at (us := acc.toList) (vs := vs) (by rw [Array.length_toList, hacc.1]) fun j v e => by
          obtain ⟨k, x, e1, e2⟩ := hacc.2 j v (by rw [← Array.getElem?_toList]; exact e)
          exact ⟨k, x, e1, e2⟩
        have e3 := rel.keys
        have : (List.map (fun kv => kV kv.1) ‹List (L2.Key × V)›) = vs.map fun p => kV p.1 := by
          have := congrArg (List.map kV) e3
          simpa [List.map_map, Function.comp_def] using this
        rw [this]
        exact hk2
      | dt n h ra =>
        obtain ⟨u, rfl, rx⟩ := vals1 r
        cases (show u = Value.ref _ from rx)
        obtain ⟨z, hs, ks, pr, o, es, ep, ho, hx, hdt, he, hn⟩ := (show ObjOk X.prog X.w H s.heap _ (.dT _) from h.rd.ok I.hok)
        have l1 : es.size = ks.length := size_of_entries he
        have l2 := Paired.length pr
        have l3 := ra.length
        have rq := ofDT ra (isKeys_of pr)
        refine sortedC hu rq ok w fun E Q' hQ => PySem.W.kdu_collect (A := X.A.in1) (kdl_raw hs hx hdt) (I.ok.hd hc) ho (by rw [List.length_map] at hsz; omega) fun h' tk acc hk hacc => ?_
        refine hQ _ _ (I.kept hk) ?_
        have ea : acc.toList = ks.map fun x => Value.ref x.2.1 := by
          have hl : acc.toList.length = ks.length := by rw [Array.length_toList, hacc.1]; exact l1
          apply List.ext_getElem?
          intro j
          rw [List.getElem?_map]
          cases hj : acc.toList[j]? with
          | none =>
            have h1 := List.getElem?_eq_none_iff.mp hj
            rw [List.getElem?_eq_none (by omega)]
            all_goals rfl
          | some v =>
            obtain ⟨en, hen, hv⟩ := hacc.2 j v (by rw [← Array.getElem?_toList]; exact hj)
            have qe := entry_at he j
            rw [hen] at qe
            cases hb : ks[j]? with
            | none =>
              rw [hb] at qe
              exact nomatch (show some en = none from qe)
            | some b =>
              rw [hb] at qe
              have e2 : en = entryOfKey (tupleKind (mixKind X.prog X.w)) b := Option.some.inj qe
              rw [hv, e2]
              all_goals rfl
        have eb : acc.toList = (ks.map fun x => x.2.1).map Value.ref := by rw [ea, List.map_map]; all_goals rfl
        rw [eb]
        exact vals_refs _
    · cases e
  · cases e
end
end PP

/-! PP6: expressions: what the evaluator says is what the code does. Simple forms. -/
namespace PP
open PySem PySem.Spec PyProof.Rows L2

/-- a frame: Z hidden from the start, P hidden now, O the slots of one's own objects, A those read as they stand, M those changed -/
structure Fr where
  Z : Addr → Prop
  P : Addr → Prop
  O : List Nat
  A : List Nat
  M : List Nat
structure EnvOk (K : PySem.W.Frag) (F : Fr) (ρ : PEnv) (σ : L2.St) (H : Hp) : Prop where
  adr : ∀ i : Nat, i ∈ F.O → ∃ a, σ[i]? = some (some (V.ref a)) ∧ (F.P a ↔ i ∉ F.A) ∧ ¬ F.Z a
  inj : ∀ (i j : Nat) (a : Addr), i ∈ F.O → j ∈ F.O → σ[i]? = some (some (V.ref a)) → σ[j]? = some (some (V.ref a)) → i = j
  zp : ∀ a, F.Z a → F.P a
  mo : ∀ i : Nat, i ∈ F.M → i ∈ F.O ∧ i ∉ F.A
  shape : ∀ i : Nat, i ∈ F.O → ∃ d, ρ[i]? = some (Sl.ow d)
  ow : ∀ (i : Nat) (d : PyData), ρ[i]? = some (Sl.ow d) → i ∈ F.O ∧ ∃ a, σ[i]? = some (some (V.ref a)) ∧ Own K H F.P a d
  fz : ∀ (i : Nat) (d : PyData), ρ[i]? = some (Sl.fz d) → ∃ v, σ[i]? = some (some v) ∧ Rp K H F.P v d
  there : ∀ a, F.P a → ∃ u, H a = some u
  nd : lkM ∈ F.A → ∀ (i : Nat) (d : PyData), i ∈ F.A → ρ[i]? = some (Sl.ow d) → notDict d = true
  len : ρ.length = σ.length
/-- the objects that may be changed -/
def Wr (σ : L2.St) (M : List Nat) (a : Addr) : Prop := ∃ i, i ∈ M ∧ σ[i]? = some (some (V.ref a))
structure Keep (W : Addr → Prop) (H H' : Hp) : Prop where
  keep : ∀ a o, H a = some o → ¬ W a → H' a = some o
  tups : ∀ a xs, H a = some (.tup xs) → H' a = some (.tup xs)
  gone : ∀ a, H' a = none → H a = none
theorem Keep.refl {W : Addr → Prop} {H : Hp} : Keep W H H := ⟨fun _ _ h _ => h, fun _ _ h => h, fun _ h => h⟩
theorem Keep.trans {W : Addr → Prop} {H H1 H2 : Hp} (a : Keep W H H1) (b : Keep W H1 H2) : Keep W H H2 := ⟨fun x o h n => b.keep x o (a.keep x o h n) n, fun x xs h => b.tups x xs (a.tups x xs h), fun x h => a.gone x (b.gone x h)⟩
theorem Keep.of {W : Addr → Prop} {H H' : Hp} (k : ∀ a o, H a = some o → H' a = some o) : Keep W H H' := ⟨fun a o h _ => k a o h, fun a xs h => k a _ h, fun a h => by
  cases e : H a with
  | none => rfl
  | some o => rw [k a o e] at h; cases h⟩
theorem Keep.grow {W : Addr → Prop} {H H1 H' : Hp} (a : Keep W H H1) (k : ∀ a o, H1 a = some o → H' a = some o) : Keep W H H' := a.trans (.of k)
theorem Keep.weak {W W' : Addr → Prop} {H H' : Hp} (a : Keep W H H') (h : ∀ a, W a → W' a) : Keep W' H H' := ⟨fun x o e n => a.keep x o e fun z => n (h x z), a.tups, a.gone⟩
theorem Keep.ext {W P : Addr → Prop} {H H' : Hp} (a : Keep W H H') (h : ∀ a, W a → P a) : Ext P P H H' := ⟨fun x o e n => a.keep x o e fun z => n (h x z), a.tups, fun _ z => .inl z⟩
/-- nothing is changed -/
theorem Keep.all {W : Addr → Prop} {H H' : Hp} (a : Keep W H H') (h : ∀ a, ¬ W a) : ∀ a o, H a = some o → H' a = some o := fun x o e => a.keep x o e (h x)
/-- one more thing hidden -/
def Fr.plus (F : Fr) (D : Addr) : Fr := { F with P := fun b => F.P b ∨ b = D }
/-- the value; where it is new, nothing else knows it -/
structure Res (K : PySem.W.Frag) (F : Fr) (ρ' : PEnv) (σ : L2.St) (H0 H' : Hp) (v : V) (d : PyData) (fl : Fl) : Prop where
  rp : Rp K H' F.P v d
  fr : fl = .fr → ∃ a, v = .ref a ∧ H0 a = none ∧ Own K H' (fun b => F.P b ∨ b = a) a d ∧ EnvOk K (F.plus a) ρ' σ H'
section
variable {K : PySem.W.Frag} {F : Fr} {ρ ρ' : PEnv} {σ : L2.St} {H H' H2 : Hp}
theorem EnvOk.wr (en : EnvOk K F ρ σ H) {a : Addr} (h : Wr σ F.M a) : F.P a := by
  obtain ⟨i, hi, e⟩ := h
  obtain ⟨h1, h2⟩ := en.mo i hi
  obtain ⟨b, e', h3, _⟩ := en.adr i h1
  rw [e] at e'
  cases e'
  exact h3.mpr h2
theorem EnvOk.grow (en : EnvOk K F ρ σ H) (k : ∀ a o, H a = some o → H' a = some o) : EnvOk K F ρ σ H' where
  adr := en.adr
  inj := en.inj
  zp := en.zp
  mo := en.mo
  shape := en.shape
  ow := fun i d e => let ⟨h, a, e2, o⟩ := en.ow i d e; ⟨h, a, e2, o.ext (.same k) fun u z => k _ u z⟩
  fz := fun i d e => let ⟨v, e2, r⟩ := en.fz i d e; ⟨v, e2, r.ext (.same k)⟩
  there := fun a p => let ⟨u, e⟩ := en.there a p; ⟨u, k a u e⟩
  nd := en.nd
  len := en.len
/-- one more thing hidden, of no slot, that no value knows -/
theorem EnvOk.hideG (en : EnvOk K F ρ σ H) {D : Addr} (hD : H D = none) (g : ∀ b u, H b = some u → H' b = some u) (hD' : ∃ u, H' D = some u) : EnvOk K (F.plus D) ρ σ H' := by
  have x : Ext F.P (fun b => F.P b ∨ b = D) H H' := ⟨fun a o e _ => g a o e, fun a xs e => g a _ e, fun a z => z.elim .inl fun z => .inr (by rw [z]; exact hD)⟩
  have ne : ∀ i a, i ∈ F.O → σ[i]? = some (some (V.ref a)) → a ≠ D := fun i a hi e z => by
    obtain ⟨d, hd⟩ := en.shape i hi
    obtain ⟨_, b, e2, w⟩ := en.ow i d hd
    rw [e] at e2; cases e2
    obtain ⟨u, hu, _⟩ := w.there
    rw [z, hD] at hu; cases hu
  refine ⟨fun i hi => ?_, en.inj, fun a z => .inl (en.zp a z), en.mo, en.shape, fun i d e => ?_, fun i d e => ?_, fun a z => ?_, en.nd, en.len⟩
  · obtain ⟨a, e, h1, h2⟩ := en.adr i hi
    exact ⟨a, e, ⟨fun z => z.elim h1.mp fun z => absurd z (ne i a hi e), fun z => .inl (h1.mpr z)⟩, h2⟩
  · obtain ⟨hi, a, e2, w⟩ := en.ow i d e
    exact ⟨hi, a, e2, w.ext x fun u z => g _ u z⟩
  · obtain ⟨v, e2, r⟩ := en.fz i d e
    exact ⟨v, e2, r.ext x⟩
  · rcases z with z | z
    · obtain ⟨u, hu⟩ := en.there a z
      exact ⟨u, g a u hu⟩
    · subst z
      exact hD'
theorem EnvOk.hide (en : EnvOk K F ρ σ H) {D : Addr} {o : HO} (hD : H D = none) : EnvOk K (F.plus D) ρ σ (upd H D o) :=
  en.hideG hD (fun b u z => by rw [upd_ne (ne_of_none z hD)]; exact z) ⟨o, upd_same⟩
theorem fin {Q : VK} {d : PyData} {fl : Fl} (en : EnvOk K F ρ' σ H2) (k : Keep (Wr σ F.M) H H2) (q : ∀ v H', EnvOk K F ρ' σ H' → Keep (Wr σ F.M) H H' → Res K F ρ' σ H H' v d fl → Q v H') : WantP K F.P H2 Q d fl := by
  intro v H' h
  cases h with
  | sh g r => exact q _ _ (en.grow g) (k.grow g) ⟨r, fun z => nomatch z⟩
  | @fr a _ o hn e w =>
    subst e
    have g : ∀ b u, H2 b = some u → upd H2 a o b = some u := fun b u z => by rw [upd_ne (ne_of_none z hn)]; exact z
    have np : ¬ F.P a := fun z => by
      obtain ⟨u, z⟩ := en.there a z
      rw [hn] at z; cases z
    exact q _ _ (en.grow g) (k.grow g) ⟨(w.ext (Ext.less fun b z => .inl z) fun _ z => z).rp np, fun _ => ⟨a, rfl, k.gone a hn, w, en.hide hn⟩⟩
/-- a value that stands already -/
theorem fin_sh {Q : VK} {d : PyData} {v : V} (en : EnvOk K F ρ' σ H2) (k : Keep (Wr σ F.M) H H2) (q : ∀ v H', EnvOk K F ρ' σ H' → Keep (Wr σ F.M) H H' → Res K F ρ' σ H H' v d .sh → Q v H') (r : Rp K H2 F.P v d) : Q v H2 := q _ _ en k ⟨r, fun z => nomatch z⟩

variable (K) (Φ : Nat → List PyData → Option (PyData × List PyData)) (gl : List PyData)
def tE (e : E) : TE := fun σ H Q => ∃ F ρ d fl ρ', EnvOk K F ρ σ H ∧ (∀ i, i ∈ als e → i ∈ F.A) ∧ (∀ i, i ∈ mods e → i ∈ F.M) ∧ ev Φ gl e ρ = some (d, fl, ρ') ∧
  ∀ v H', EnvOk K F ρ' σ H' → Keep (Wr σ F.M) H H' → Res K F ρ' σ H H' v d fl → Q v H'
def tT (e : E) : TT := fun σ H Q => ∃ F ρ b fl ρ', EnvOk K F ρ σ H ∧ (∀ i, i ∈ als e → i ∈ F.A) ∧ (∀ i, i ∈ mods e → i ∈ F.M) ∧ ev Φ gl e ρ = some (.bool b, fl, ρ') ∧
  ∀ H', EnvOk K F ρ' σ H' → Keep (Wr σ F.M) H H' → Q b H'
/-- how an argument stands -/
inductive ArgOk (F : Fr) (σ : L2.St) (H : Hp) : Es → List V → List PyData → Prop
  | nil : ArgOk F σ H .nil [] []
  | io {i : Nat} {es : Es} {a : Addr} {vs : List V} {d : PyData} {ds : List PyData} : i ∈ F.M → σ[i]? = some (some (V.ref a)) → ArgOk F σ H es vs ds → ArgOk F σ H (.cons (.io i) es) (.ref a :: vs) (d :: ds)
  | cons {e : E} {es : Es} {v : V} {vs : List V} {d : PyData} {ds : List PyData} : (∀ i, e ≠ .io i) → Rp K H F.P v d → ArgOk F σ H es vs ds → ArgOk F σ H (.cons e es) (v :: vs) (d :: ds)
def tEs (es : Es) : TA := fun σ H Q => ∃ F ρ ds ρ', EnvOk K F ρ σ H ∧ (∀ i, i ∈ alss es → i ∈ F.A) ∧ (∀ i, i ∈ modss es → i ∈ F.M) ∧ evs Φ gl es ρ = some (ds, ρ') ∧
  ∀ vs H', EnvOk K F ρ' σ H' → Keep (Wr σ F.M) H H' → ArgOk K F σ H' es vs ds → Q vs H'
def tO (o : O) : TO := fun σ H Q => ∃ F ρ d ρ', EnvOk K F ρ σ H ∧ (∀ i, i ∈ alsO o → i ∈ F.A) ∧ (∀ i, i ∈ modsO o → i ∈ F.M) ∧ evo Φ gl o ρ = some (d, ρ') ∧
  ∃ k, optI d = some k ∧ ∀ H', EnvOk K F ρ' σ H' → Keep (Wr σ F.M) H H' → Q k H'
end
theorem ArgOk.ext {K : PySem.W.Frag} {F : Fr} {σ : L2.St} {H H' : Hp} (x : Ext F.P F.P H H') : ∀ {es : Es} {vs : List V} {ds : List PyData}, ArgOk K F σ H es vs ds → ArgOk K F σ H' es vs ds
  | _, _, _, .nil => .nil
  | _, _, _, .io h e r => .io h e (ArgOk.ext x r)
  | _, _, _, .cons n h r => .cons n (h.ext x) (ArgOk.ext x r)
def isIo : E → Bool
  | .io _ => true
  | _ => false
def noIo : Es → Bool
  | .nil => true
  | .cons e es => !isIo e && noIo es
theorem ArgOk.rp {K : PySem.W.Frag} {F : Fr} {σ : L2.St} {H : Hp} : ∀ {es : Es} {vs : List V} {ds : List PyData}, noIo es = true → ArgOk K F σ H es vs ds → RpAll K H F.P vs ds
  | _, _, _, _, .nil => .nil
  | _, _, _, n, .io h e r => by simp [noIo, isIo] at n
  | _, _, _, n, .cons ne h r => by
    rw [noIo, Bool.and_eq_true] at n
    exact .cons h (ArgOk.rp n.2 r)

def PEv (X : Cx) (Φ : Nat → List PyData → Option (PyData × List PyData)) (gl : List PyData) (p : Expr) (e : E) : Prop := PE X p (tE X.K Φ gl e)
def PTv (X : Cx) (Φ : Nat → List PyData → Option (PyData × List PyData)) (gl : List PyData) (p : Expr) (e : E) : Prop := PT X p (tT X.K Φ gl e)
def PWv (X : Cx) (Φ : Nat → List PyData → Option (PyData × List PyData)) (gl : List PyData) (p : Expr) (e : E) : Prop := PW X p (tT X.K Φ gl e)
def PAv (X : Cx) (Φ : Nat → List PyData → Option (PyData × List PyData)) (gl : List PyData) (p : List Expr) (es : Es) : Prop := PA X p (tEs X.K Φ gl es)
def POv (X : Cx) (Φ : Nat → List PyData → Option (PyData × List PyData)) (gl : List PyData) (p : Option Expr) (o : O) : Prop := PO X p (tO X.K Φ gl o)
theorem _root_.L2.PE.imp {X : Cx} {p : Expr} {t t' : TE} (h : PE X p t) (i : ∀ σ H Q, t' σ H Q → t σ H Q) : PE X p t' := ⟨fun pins s σ H Q I w => h.run pins s σ H Q I (i σ H Q w)⟩
theorem _root_.L2.PT.imp {X : Cx} {p : Expr} {t t' : TT} (h : PT X p t) (i : ∀ σ H Q, t' σ H Q → t σ H Q) : PT X p t' := ⟨fun pins s σ H Q I w => h.run pins s σ H Q I (i σ H Q w)⟩
theorem _root_.L2.PW.imp {X : Cx} {p : Expr} {t t' : TT} (h : PW X p t) (i : ∀ σ H Q, t' σ H Q → t σ H Q) : PW X p t' := ⟨fun wh pins s σ H Q I w => h.run wh pins s σ H Q I (i σ H Q w)⟩
theorem _root_.L2.PA.imp {X : Cx} {p : List Expr} {t t' : TA} (h : PA X p t) (i : ∀ σ H Q, t' σ H Q → t σ H Q) : PA X p t' := ⟨fun pos pins s σ H Q I w => h.run pos pins s σ H Q I (i σ H Q w)⟩
theorem _root_.L2.PO.imp {X : Cx} {p : Option Expr} {t t' : TO} (h : PO X p t) (i : ∀ σ H Q, t' σ H Q → t σ H Q) : PO X p t' := ⟨fun pins s σ H Q I w => h.run pins s σ H Q I (i σ H Q w)⟩

theorem bind_some {α β : Type} {a : Option α} {f : α → Option β} {b : β} (h : (a >>= f) = some b) : ∃ x, a = some x ∧ f x = some b := Option.bind_eq_some_iff.mp h
section
variable {K : PySem.W.Frag} {Φ : Nat → List PyData → Option (PyData × List PyData)} {gl : List PyData} {F : Fr} {ρ ρ1 ρ2 : PEnv} {σ : L2.St} {H : Hp}
theorem one {e : E} {d : PyData} {fl : Fl} (en : EnvOk K F ρ σ H) (sa : ∀ i, i ∈ als e → i ∈ F.A) (sm : ∀ i, i ∈ mods e → i ∈ F.M) (h : ev Φ gl e ρ = some (d, fl, ρ1)) {Q : VK}
    (q : ∀ v H', EnvOk K F ρ1 σ H' → Keep (Wr σ F.M) H H' → Res K F ρ1 σ H H' v d fl → Q v H') : tE K Φ gl e σ H Q := ⟨F, ρ, d, fl, ρ1, en, sa, sm, h, q⟩
theorem two {e e' : E} {d d' : PyData} {fl fl' : Fl} (en : EnvOk K F ρ σ H) (sa : ∀ i, i ∈ als e ++ als e' → i ∈ F.A) (sm : ∀ i, i ∈ mods e ++ mods e' → i ∈ F.M) (h : ev Φ gl e ρ = some (d, fl, ρ1)) (h' : ev Φ gl e' ρ1 = some (d', fl', ρ2))
    {R : V → V → Hp → Prop} (q : ∀ v w H2, EnvOk K F ρ2 σ H2 → Keep (Wr σ F.M) H H2 → Rp K H2 F.P v d → Rp K H2 F.P w d' → R v w H2) : tE K Φ gl e σ H fun v H1 => tE K Φ gl e' σ H1 fun w H2 => R v w H2 :=
  one en (fun i z => sa i (List.mem_append_left _ z)) (fun i z => sm i (List.mem_append_left _ z)) h fun v H1 en1 k1 r1 =>
    one en1 (fun i z => sa i (List.mem_append_right _ z)) (fun i z => sm i (List.mem_append_right _ z)) h' fun w H2 en2 k2 r2 =>
      q v w H2 en2 (k1.trans k2) (r1.rp.ext (k2.ext fun a z => en1.wr z)) r2.rp
end
section
variable {X : Cx} {Φ : Nat → List PyData → Option (PyData × List PyData)} {gl : List PyData} {a b c : Expr} {ea eb ec : E} {pos : Pos}
theorem e_var {i : Nat} {x : Str} (hN : X.N[i]? = some x) (hv : Vis X.env.scope x) (hd : (x == ("__debug__" : Str)) = false := by decide) (hcd : (x == ("__classdict__" : Str)) = false := by decide) : PEv X Φ gl (.Name x pos) (.var i) :=
  (pe_var hN hv hd hcd).imp fun σ H Q ⟨F, ρ, d, fl, ρ', en, sa, sm, h, q⟩ => by
    simp only [ev] at h
    obtain ⟨d', e, ed⟩ := Option.map_eq_some_iff.mp h
    cases ed
    unfold getS at e
    cases e2 : ρ[i]? with
    | none => rw [e2] at e; cases e
    | some s =>
      rw [e2] at e
      cases s with
      | no => cases e
      | fz d2 =>
        cases e
        obtain ⟨v, e3, r⟩ := en.fz i d e2
        exact ⟨v, e3, q _ _ en .refl ⟨r, fun z => nomatch z⟩⟩
      | ow d2 =>
        cases e
        obtain ⟨ho, v, e3, r⟩ := en.ow i d e2
        obtain ⟨a, e4, h1, _⟩ := en.adr i ho
        rw [e3] at e4
        cases e4
        exact ⟨_, e3, q _ _ en .refl ⟨r.rp fun z => h1.mp z (sa i (by simp [als])), fun z => nomatch z⟩⟩
theorem e_const {p : Expr} {e : E} {v : V} {d : PyData} (h : PE X p (tC v)) (he : ∀ ρ, ev Φ gl e ρ = some (d, .sh, ρ)) (hr : ∀ H P, Rp X.K H P v d) : PEv X Φ gl p e :=
  h.imp fun σ H Q ⟨F, ρ, d, fl, ρ', en, sa, sm, h, q⟩ => by
    rw [he] at h
    cases h
    exact q _ _ en .refl ⟨hr _ _, fun z => nomatch z⟩
theorem e_int {i j} : PEv X Φ gl (.Constant (.int i) j pos) (.int i) := e_const pe_int (d := .int i) (fun ρ => by simp only [ev]) fun _ _ => .int i
theorem e_bl {i j} : PEv X Φ gl (.Constant (.bool i) j pos) (.bl i) := e_const pe_bl (d := .bool i) (fun ρ => by simp only [ev]) fun _ _ => .bl i
theorem e_str {i j} : PEv X Φ gl (.Constant (.str i) j pos) (.str i) := e_const pe_str (d := .str i) (fun ρ => by simp only [ev]) fun _ _ => .str i
theorem e_non {j} : PEv X Φ gl (.Constant .none j pos) .non := e_const pe_non (d := .none) (fun ρ => by simp only [ev]) fun _ _ => .non
theorem e_glob {x : Str} {g : Nat} {s : Str} {t : Tok} (hg : Gl X x) (hm : X.mg x = some (.str s t)) (he : gl[g]? = some (.str s)) (hd : (x == ("__debug__" : Str)) = false := by decide) : PEv X Φ gl (.Name x pos) (.glob g) :=
  e_const (pe_glob hg hm (v := .str s) ⟨t, rfl⟩ hd) (d := .str s) (fun ρ => by simp only [ev, he]) fun _ _ => .str s
theorem e_bin {op : Operator} (ha : PEv X Φ gl a ea) (hb : PEv X Φ gl b eb) : PEv X Φ gl (.BinOp a op b pos) (.bin op ea eb) :=
  (pe_op (opBin op) ha hb).imp fun σ H Q ⟨F, ρ, d, fl, ρ', en, sa, sm, h, q⟩ => by
    simp only [ev] at h
    obtain ⟨⟨x, fx, ρ1⟩, h1, h⟩ := bind_some h
    obtain ⟨⟨y, fy, ρ2⟩, h2, h⟩ := bind_some h
    obtain ⟨⟨z, fz⟩, h3, h⟩ := bind_some h
    cases h
    exact two en (by simpa [als] using sa) (by simpa [mods] using sm) h1 h2 fun v w H2 en2 k2 r1 r2 => ⟨F.P, x, y, _, _, r1, r2, h3, fin en2 k2 q⟩
theorem e_cmp {op : CmpOp} (hu : X.A.units + 70 < cLine) (ha : PEv X Φ gl a ea) (hb : PEv X Φ gl b eb) (hm : behindInMarks op b = false) : PEv X Φ gl (.Compare a [op] [b] pos) (.cmp op ea eb) :=
  (pe_cmpR (opCmp op hu) ha hb hm).imp fun σ H Q ⟨F, ρ, d, fl, ρ', en, sa, sm, h, q⟩ => by
    simp only [ev] at h
    obtain ⟨⟨x, fx, ρ1⟩, h1, h⟩ := bind_some h
    obtain ⟨⟨y, fy, ρ2⟩, h2, h⟩ := bind_some h
    obtain ⟨z, h3, h⟩ := bind_some h
    cases h
    exact two en (by simpa [als] using sa) (by simpa [mods] using sm) h1 h2 fun v w H2 en2 k2 r1 r2 => ⟨F.P, x, y, _, _, r1, r2, congrArg (Option.map _) h3, fin en2 k2 q⟩
theorem t_cmp {op : CmpOp} (hu : X.A.units + 70 < cLine) (ha : PEv X Φ gl a ea) (hb : PEv X Φ gl b eb) (hm : behindInMarks op b = false) : PTv X Φ gl (.Compare a [op] [b] pos) (.cmp op ea eb) :=
  (pt_cmpR (opCmp op hu) ha hb hm).imp fun σ H Q ⟨F, ρ, d, fl, ρ', en, sa, sm, h, q⟩ => by
    simp only [ev] at h
    obtain ⟨⟨x, fx, ρ1⟩, h1, h⟩ := bind_some h
    obtain ⟨⟨y, fy, ρ2⟩, h2, h⟩ := bind_some h
    obtain ⟨z, h3, h⟩ := bind_some h
    cases h
    exact two en (by simpa [als] using sa) (by simpa [mods] using sm) h1 h2 fun v w H2 en2 k2 r1 r2 => ⟨F.P, x, y, .bool _, .sh, r1, r2, congrArg (Option.map _) h3, fin en2 k2 fun v H' en' k' r' => by
      cases r'.rp
      exact ⟨_, rfl, q _ en' k'⟩⟩
theorem e_not (ha : PEv X Φ gl a ea) : PEv X Φ gl (.UnaryOp .Not a pos) (.un .Not ea) :=
  (pe_not ha).imp fun σ H Q ⟨F, ρ, d, fl, ρ', en, sa, sm, h, q⟩ => by
    simp only [ev] at h
    obtain ⟨⟨x, fx, ρ1⟩, h1, h⟩ := bind_some h
    obtain ⟨y, h3, h⟩ := bind_some h
    cases h
    refine one en (by simpa [als] using sa) (by simpa [mods] using sm) h1 fun v H' en' k' r' => ?_
    cases r'.rp <;> simp only [unV, Option.some.injEq] at h3 <;> first | (cases h3; done) | skip
    subst h3
    exact ⟨_, rfl, fin_sh en' k' q (.bl _)⟩
theorem t_not (ha : PTv X Φ gl a ea) : PTv X Φ gl (.UnaryOp .Not a pos) (.un .Not ea) :=
  (pt_not ha).imp fun σ H Q ⟨F, ρ, d, fl, ρ', en, sa, sm, h, q⟩ => by
    simp only [ev] at h
    obtain ⟨⟨x, fx, ρ1⟩, h1, h⟩ := bind_some h
    obtain ⟨y, h3, h⟩ := bind_some h
    cases h
    cases x <;> simp only [unV, Option.some.injEq] at h3 <;> first | (cases h3; done) | skip
    rename_i b' _
    injection h3 with h3
    subst h3
    exact ⟨F, ρ, b', fx, _, en, by simpa [als] using sa, by simpa [mods] using sm, h1, fun H' en' k' => q H' en' k'⟩
theorem e_neg (ha : PEv X Φ gl a ea) : PEv X Φ gl (.UnaryOp .USub a pos) (.un .USub ea) := by
  have hu : UnR X (unaryOp .USub) (rU X.K fun d => (unV .USub d).map fun z => (z, .sh)) := (opUn .USub).resolve_right fun z => z.elim (fun z => nomatch z) fun z => z rfl
  exact (pe_un hu ha).imp fun σ H Q ⟨F, ρ, d, fl, ρ', en, sa, sm, h, q⟩ => by
    simp only [ev] at h
    obtain ⟨⟨x, fx, ρ1⟩, h1, h⟩ := bind_some h
    obtain ⟨y, h3, h⟩ := bind_some h
    cases h
    exact one en (by simpa [als] using sa) (by simpa [mods] using sm) h1 fun v H' en' k' r' => ⟨F.P, x, _, _, r'.rp, congrArg (Option.map _) h3, fin en' k' q⟩
/-- a value as a test -/
theorem t_val (h : PEv X Φ gl a ea) (he : ∀ whole, isTrue a X.env whole = (do let v ← whole; standAt a.pos; holding [v] (truthy v)) := by intro _; rfl) : PTv X Φ gl a ea :=
  (pt_val h he).imp fun σ H Q ⟨F, ρ, d, fl, ρ', en, sa, sm, h, q⟩ => one en sa sm h fun v H' en' k' r' => by
    cases r'.rp
    exact ⟨_, rfl, q _ en' k'⟩
theorem t_w (h : PWv X Φ gl a ea) : PTv X Φ gl a ea := PW.pt h
theorem e_one {op} (h : PEv X Φ gl a ea) : PEv X Φ gl (.BoolOp op [a] pos) ea := pe_one h
variable {rest : List Expr}
theorem e_and (ha : PEv X Φ gl a ea) (hb : PEv X Φ gl (.BoolOp .And (b :: rest) pos) eb) : PEv X Φ gl (.BoolOp .And (a :: b :: rest) pos) (.bop .And ea eb) :=
  (pe_and ha hb).imp fun σ H Q ⟨F, ρ, d, fl, ρ', en, sa, sm, h, q⟩ => by
    simp only [ev] at h
    obtain ⟨⟨x, fx, ρ1⟩, h1, h⟩ := bind_some h
    have sa : ∀ i, i ∈ als ea ++ als eb → i ∈ F.A := by simpa [als] using sa
    have sm : ∀ i, i ∈ mods ea ++ mods eb → i ∈ F.M := by simpa [mods] using sm
    refine one en (fun i z => sa i (List.mem_append_left _ z)) (fun i z => sm i (List.mem_append_left _ z)) h1 fun v H1 en1 k1 r1 => ?_
    cases r1.rp <;> dsimp only at h <;> first | (cases h; done) | skip
    rename_i b
    refine ⟨b, rfl, ?_⟩
    cases b with
    | false => cases h; exact fin_sh en1 k1 q (.bl _)
    | true => exact one en1 (fun i z => sa i (List.mem_append_right _ z)) (fun i z => sm i (List.mem_append_right _ z)) h fun v H2 en2 k2 r2 => q _ _ en2 (k1.trans k2) ⟨r2.rp, fun z => let ⟨a, h1, h2, h3⟩ := r2.fr z; ⟨a, h1, k1.gone a h2, h3⟩⟩
theorem e_or (ha : PEv X Φ gl a ea) (hb : PEv X Φ gl (.BoolOp .Or (b :: rest) pos) eb) : PEv X Φ gl (.BoolOp .Or (a :: b :: rest) pos) (.bop .Or ea eb) :=
  (pe_or ha hb).imp fun σ H Q ⟨F, ρ, d, fl, ρ', en, sa, sm, h, q⟩ => by
    simp only [ev] at h
    obtain ⟨⟨x, fx, ρ1⟩, h1, h⟩ := bind_some h
    have sa : ∀ i, i ∈ als ea ++ als eb → i ∈ F.A := by simpa [als] using sa
    have sm : ∀ i, i ∈ mods ea ++ mods eb → i ∈ F.M := by simpa [mods] using sm
    refine one en (fun i z => sa i (List.mem_append_left _ z)) (fun i z => sm i (List.mem_append_left _ z)) h1 fun v H1 en1 k1 r1 => ?_
    cases r1.rp <;> dsimp only at h <;> first | (cases h; done) | skip
    rename_i b
    refine ⟨b, rfl, ?_⟩
    cases b with
    | true => cases h; exact fin_sh en1 k1 q (.bl _)
    | false => exact one en1 (fun i z => sa i (List.mem_append_right _ z)) (fun i z => sm i (List.mem_append_right _ z)) h fun v H2 en2 k2 r2 => q _ _ en2 (k1.trans k2) ⟨r2.rp, fun z => let ⟨a, h1, h2, h3⟩ := r2.fr z; ⟨a, h1, k1.gone a h2, h3⟩⟩
theorem w_and1 (h : PTv X Φ gl a ea) : PWv X Φ gl (.BoolOp .And [a] pos) ea := pw_and1 h
theorem w_or1 (h : PTv X Φ gl a ea) : PWv X Φ gl (.BoolOp .Or [a] pos) ea := pw_or1 h
theorem w_and (ha : PTv X Φ gl a ea) (hb : PWv X Φ gl (.BoolOp .And (b :: rest) pos) eb) : PWv X Φ gl (.BoolOp .And (a :: b :: rest) pos) (.bop .And ea eb) :=
  (pw_and ha hb).imp fun σ H Q ⟨F, ρ, d, fl, ρ', en, sa, sm, h, q⟩ => by
    simp only [ev] at h
    obtain ⟨⟨x, fx, ρ1⟩, h1, h⟩ := bind_some h
    have sa : ∀ i, i ∈ als ea ++ als eb → i ∈ F.A := by simpa [als] using sa
    have sm : ∀ i, i ∈ mods ea ++ mods eb → i ∈ F.M := by simpa [mods] using sm
    cases x <;> dsimp only at h <;> first | (cases h; done) | skip
    rename_i c
    refine ⟨F, ρ, c, fx, ρ1, en, fun i z => sa i (List.mem_append_left _ z), fun i z => sm i (List.mem_append_left _ z), h1, fun H1 en1 k1 => ?_⟩
    cases c with
    | false =>
      cases h
      simp only [Bool.false_eq_true, if_false]
      exact q _ en1 k1
    | true => exact ⟨F, ρ1, _, fl, ρ', en1, fun i z => sa i (List.mem_append_right _ z), fun i z => sm i (List.mem_append_right _ z), h, fun H2 en2 k2 => q _ en2 (k1.trans k2)⟩
theorem w_or (ha : PTv X Φ gl a ea) (hb : PWv X Φ gl (.BoolOp .Or (b :: rest) pos) eb) : PWv X Φ gl (.BoolOp .Or (a :: b :: rest) pos) (.bop .Or ea eb) :=
  (pw_or ha hb).imp fun σ H Q ⟨F, ρ, d, fl, ρ', en, sa, sm, h, q⟩ => by
    simp only [ev] at h
    obtain ⟨⟨x, fx, ρ1⟩, h1, h⟩ := bind_some h
    have sa : ∀ i, i ∈ als ea ++ als eb → i ∈ F.A := by simpa [als] using sa
    have sm : ∀ i, i ∈ mods ea ++ mods eb → i ∈ F.M := by simpa [mods] using sm
    cases x <;> dsimp only at h <;> first | (cases h; done) | skip
    rename_i c
    refine ⟨F, ρ, c, fx, ρ1, en, fun i z => sa i (List.mem_append_left _ z), fun i z => sm i (List.mem_append_left _ z), h1, fun H1 en1 k1 => ?_⟩
    cases c with
    | true =>
      cases h
      simp only [if_true]
      exact q _ en1 k1
    | false => exact ⟨F, ρ1, _, fl, ρ', en1, fun i z => sa i (List.mem_append_right _ z), fun i z => sm i (List.mem_append_right _ z), h, fun H2 en2 k2 => q _ en2 (k1.trans k2)⟩
theorem e_ite (hc : PTv X Φ gl c ec) (ha : PEv X Φ gl a ea) (hb : PEv X Φ gl b eb) : PEv X Φ gl (.IfExp c a b pos) (.ite ec ea eb) :=
  (pe_ifExp hc ha hb).imp fun σ H Q ⟨F, ρ, d, fl, ρ', en, sa, sm, h, q⟩ => by
    simp only [ev] at h
    obtain ⟨⟨x, fx, ρ1⟩, h1, h⟩ := bind_some h
    have sa : ∀ i, i ∈ als ec ++ (als ea ++ als eb) → i ∈ F.A := by simpa [als] using sa
    have sm : ∀ i, i ∈ mods ec ++ (mods ea ++ mods eb) → i ∈ F.M := by simpa [mods] using sm
    cases x <;> dsimp only at h <;> first | (cases h; done) | skip
    rename_i c
    refine ⟨F, ρ, c, fx, ρ1, en, fun i z => sa i (List.mem_append_left _ z), fun i z => sm i (List.mem_append_left _ z), h1, fun H1 en1 k1 => ?_⟩
    have fin2 : ∀ v H2, EnvOk X.K F ρ' σ H2 → Keep (Wr σ F.M) H1 H2 → Res X.K F ρ' σ H1 H2 v d fl → Q v H2 := fun v H2 en2 k2 r2 => q _ _ en2 (k1.trans k2) ⟨r2.rp, fun z => let ⟨a, h1, h2, h3⟩ := r2.fr z; ⟨a, h1, k1.gone a h2, h3⟩⟩
    cases c with
    | true => exact one en1 (fun i z => sa i (List.mem_append_right _ (List.mem_append_left _ z))) (fun i z => sm i (List.mem_append_right _ (List.mem_append_left _ z))) h fin2
    | false => exact one en1 (fun i z => sa i (List.mem_append_right _ (List.mem_append_right _ z))) (fun i z => sm i (List.mem_append_right _ (List.mem_append_right _ z))) h fin2
theorem e_ix (hu : X.A.units + 70 < cLine) (ha : PEv X Φ gl a ea) (hb : PEv X Φ gl b eb) (hs : PlainIx b) : PEv X Φ gl (.Subscript a b pos) (.ix ea eb) :=
  (pe_ix (ixP hu) ha hb hs).imp fun σ H Q ⟨F, ρ, d, fl, ρ', en, sa, sm, h, q⟩ => by
    simp only [ev] at h
    obtain ⟨⟨x, fx, ρ1⟩, h1, h⟩ := bind_some h
    obtain ⟨⟨y, fy, ρ2⟩, h2, h⟩ := bind_some h
    obtain ⟨z, h3, h⟩ := bind_some h
    cases h
    exact two en (by simpa [als] using sa) (by simpa [mods] using sm) h1 h2 fun v w H2 en2 k2 r1 r2 => ⟨F.P, x, y, _, _, r1, r2, congrArg (Option.map _) h3, fin en2 k2 q⟩
theorem chain_core {op op' : CmpOp} {F : Fr} {ρ ρ' : PEnv} {σ : L2.St} {H : Hp} {d : PyData} {fl : Fl} {Q : VK} (h : ev Φ gl (.chain op op' ea eb ec) ρ = some (d, fl, ρ')) (en : EnvOk X.K F ρ σ H) (sa : ∀ i, i ∈ als (.chain op op' ea eb ec) → i ∈ F.A) (sm : ∀ i, i ∈ mods (.chain op op' ea eb ec) → i ∈ F.M)
    (q : ∀ v H', EnvOk X.K F ρ' σ H' → Keep (Wr σ F.M) H H' → Res X.K F ρ' σ H H' v d fl → Q v H') : tChain (rC X.K (cmpV op)) (rC X.K (cmpV op')) (tE X.K Φ gl ea) (tE X.K Φ gl eb) (tE X.K Φ gl ec) σ H Q := by
  simp only [ev] at h
  obtain ⟨⟨x, fx, ρ1⟩, h1, h⟩ := bind_some h
  obtain ⟨⟨y, fy, ρ2⟩, h2, h⟩ := bind_some h
  obtain ⟨k, h3, h⟩ := bind_some h
  have sa : ∀ i, i ∈ als ea ++ (als eb ++ als ec) → i ∈ F.A := by simpa [als] using sa
  have sm : ∀ i, i ∈ mods ea ++ (mods eb ++ mods ec) → i ∈ F.M := by simpa [mods] using sm
  refine two en (fun i z => sa i (by rcases List.mem_append.mp z with z | z <;> simp [z])) (fun i z => sm i (by rcases List.mem_append.mp z with z | z <;> simp [z])) h1 h2 fun v w H2 en2 k2 r1 r2 => ?_
  refine ⟨F.P, x, y, .bool k, .sh, r1, r2, congrArg (Option.map _) h3, fin en2 .refl fun v' H3 en3 k3 r3 => ?_⟩
  cases r3.rp
  refine ⟨k, rfl, ?_⟩
  cases k with
  | false => cases h; exact fin_sh en3 (k2.trans k3) q (.bl _)
  | true =>
    obtain ⟨⟨z, fz, ρ3⟩, h4, h⟩ := bind_some h
    obtain ⟨b, h5, h⟩ := bind_some h
    cases h
    refine one en3 (fun i z => sa i (by simp [z])) (fun i z => sm i (by simp [z])) h4 fun v4 H4 en4 k4 r4 => ?_
    exact ⟨F.P, y, z, _, _, r2.ext ((k3.trans k4).ext fun a z => en3.wr z), r4.rp, congrArg (Option.map _) h5, fin en4 (k2.trans (k3.trans k4)) q⟩
theorem e_chain {op op' : CmpOp} (hu : X.A.units + 70 < cLine) (ha : PEv X Φ gl a ea) (hb : PEv X Φ gl b eb) (hc : PEv X Φ gl c ec) (hm : lastMarks [op, op'] [b, c] = false) : PEv X Φ gl (.Compare a [op, op'] [b, c] pos) (.chain op op' ea eb ec) :=
  (pe_chain (opCmp op hu) (opCmp op' hu) ha hb hc hm).imp fun σ H Q ⟨F, ρ, d, fl, ρ', en, sa, sm, h, q⟩ => chain_core h en sa sm q
theorem t_chain {op op' : CmpOp} (hu : X.A.units + 70 < cLine) (ha : PEv X Φ gl a ea) (hb : PEv X Φ gl b eb) (hc : PEv X Φ gl c ec) (hm : lastMarks [op, op'] [b, c] = false) : PTv X Φ gl (.Compare a [op, op'] [b, c] pos) (.chain op op' ea eb ec) :=
  (pt_chain (opCmp op hu) (opCmp op' hu) ha hb hc hm).imp fun σ H Q ⟨F, ρ, b, fl, ρ', en, sa, sm, h, q⟩ => chain_core (Q := fun x H' => ∃ k, x = .bl k ∧ Q k H') h en sa sm fun v H' en' k' r' => by
    cases r'.rp
    exact ⟨_, rfl, q _ en' k'⟩
end
end PP

/-! PP7: argument lists, displays, built-in calls, cuts, calls of defs, boxes. -/
namespace PP
open PySem PySem.Spec PyProof.Rows L2
theorem prL {α β : Type} {F : α → β → Prop} : ∀ {xs : List α} {ys : List β}, Paired F xs ys → ∀ {i : Nat} {x : α}, xs[i]? = some x → ∃ y, ys[i]? = some y ∧ F x y
  | _, _, .nil, _, _, e => by simp at e
  | _, _, .cons h _, 0, _, e => by simp at e; subst e; exact ⟨_, rfl, h⟩
  | _, _, .cons _ t, i + 1, _, e => by
    obtain ⟨y, h1, h2⟩ := prL t (i := i) (by simpa using e)
    exact ⟨y, by simpa using h1, h2⟩
theorem prR {α β : Type} {F : α → β → Prop} : ∀ {xs : List α} {ys : List β}, Paired F xs ys → ∀ {i : Nat} {y : β}, ys[i]? = some y → ∃ x, xs[i]? = some x ∧ F x y
  | _, _, .nil, _, _, e => by simp at e
  | _, _, .cons h _, 0, _, e => by simp at e; subst e; exact ⟨_, rfl, h⟩
  | _, _, .cons _ t, i + 1, _, e => by
    obtain ⟨y, h1, h2⟩ := prR t (i := i) (by simpa using e)
    exact ⟨y, by simpa using h1, h2⟩
section
variable {X : Cx} {Φ : Nat → List PyData → Option (PyData × List PyData)} {gl : List PyData} {a b c : Expr} {ea eb ec : E} {pos : Pos}
theorem isIo_ne {e : E} (h : isIo e = false) : ∀ i, e ≠ .io i := fun i z => by subst z; cases h
theorem a_nil : PAv X Φ gl [] .nil :=
  pa_nil.imp fun σ H Q ⟨F, ρ, ds, ρ', en, sa, sm, h, q⟩ => by
    simp only [evs, Option.some.injEq, Prod.mk.injEq] at h
    obtain ⟨rfl, rfl⟩ := h
    exact q _ _ en .refl .nil
theorem a_cons {ps : List Expr} {es : Es} (ha : PEv X Φ gl a ea) (hr : PAv X Φ gl ps es) (hio : isIo ea = false := by rfl) (hs : starEach (a :: ps) X.env = (false, eval a X.env) :: starEach ps X.env := by rfl) : PAv X Φ gl (a :: ps) (.cons ea es) :=
  (pa_cons ha hr hs).imp fun σ H Q ⟨F, ρ, ds, ρ', en, sa, sm, h, q⟩ => by
    simp only [evs] at h
    obtain ⟨⟨x, fx, ρ1⟩, h1, h⟩ := bind_some h
    obtain ⟨⟨xs, ρ2⟩, h2, h⟩ := bind_some h
    cases h
    have sa : ∀ i, i ∈ als ea ++ alss es → i ∈ F.A := by simpa [alss] using sa
    have sm : ∀ i, i ∈ mods ea ++ modss es → i ∈ F.M := by simpa [modss] using sm
    exact one en (fun i z => sa i (List.mem_append_left _ z)) (fun i z => sm i (List.mem_append_left _ z)) h1 fun v H1 en1 k1 r1 =>
      ⟨F, ρ1, xs, _, en1, fun i z => sa i (List.mem_append_right _ z), fun i z => sm i (List.mem_append_right _ z), h2, fun vs H2 en2 k2 r2 =>
        q _ _ en2 (k1.trans k2) (.cons (isIo_ne hio) (r1.rp.ext (k2.ext fun a z => en1.wr z)) r2)⟩
theorem a_io {ps : List Expr} {es : Es} {i : Nat} {x : Str} (hN : X.N[i]? = some x) (hv : Vis X.env.scope x) (hr : PAv X Φ gl ps es) (hd : (x == ("__debug__" : Str)) = false := by decide) (hcd : (x == ("__classdict__" : Str)) = false := by decide)
    (hs : starEach (.Name x pos :: ps) X.env = (false, eval (.Name x pos) X.env) :: starEach ps X.env := by rfl) : PAv X Φ gl (.Name x pos :: ps) (.cons (.io i) es) :=
  (pa_cons (pe_var hN hv hd hcd) hr hs).imp fun σ H Q ⟨F, ρ, ds, ρ', en, sa, sm, h, q⟩ => by
    simp only [evs] at h
    obtain ⟨⟨x, fx, ρ1⟩, h1, h⟩ := bind_some h
    obtain ⟨⟨xs, ρ2⟩, h2, h⟩ := bind_some h
    cases h
    simp only [ev] at h1
    obtain ⟨d', e, ed⟩ := Option.map_eq_some_iff.mp h1
    cases ed
    have sa : ∀ i, i ∈ alss es → i ∈ F.A := by simpa [alss, als] using sa
    have hi : i ∈ F.M := sm i (by simp [modss, mods])
    have sm : ∀ i, i ∈ modss es → i ∈ F.M := fun j z => sm j (by simp [modss, z])
    obtain ⟨a, e3, _⟩ := en.adr i (en.mo i hi).1
    exact ⟨_, e3, F, ρ, xs, _, en, sa, sm, h2, fun vs H2 en2 k2 r2 => q _ _ en2 k2 (.io hi e3 r2)⟩
theorem sizes {K : PySem.W.Frag} {F : Fr} {σ : L2.St} {H : Hp} : ∀ {es : Es} {vs : List V} {ds : List PyData}, ArgOk K F σ H es vs ds → vs.length = ds.length
  | _, _, _, .nil => rfl
  | _, _, _, .io _ _ r => by rw [List.length_cons, List.length_cons, sizes r]
  | _, _, _, .cons _ _ r => by rw [List.length_cons, List.length_cons, sizes r]
theorem e_tup {ps : List Expr} {es : Es} {x1} (h : PAv X Φ gl ps es) (hio : noIo es = true := by rfl) : PEv X Φ gl (.Tuple ps x1 pos) (.tup es) :=
  (pe_tup h).imp fun σ H Q ⟨F, ρ, d, fl, ρ', en, sa, sm, h, q⟩ => by
    simp only [ev] at h
    obtain ⟨⟨ds, ρ1⟩, h1, h⟩ := bind_some h
    dsimp only at h
    split at h
    · rename_i hz
      cases h
      exact ⟨F, ρ, ds, _, en, by simpa [als] using sa, by simpa [mods] using sm, h1, fun vs H' en' k' r' =>
        ⟨by rw [sizes r']; exact hz, (fin en' k' q).tup (r'.rp hio)⟩⟩
    · cases h
theorem e_lst {ps : List Expr} {es : Es} (h : PAv X Φ gl ps es) (hio : noIo es = true := by rfl) : PEv X Φ gl (.List ps pos) (.lst es) :=
  (pe_lst h).imp fun σ H Q ⟨F, ρ, d, fl, ρ', en, sa, sm, h, q⟩ => by
    simp only [ev] at h
    obtain ⟨⟨ds, ρ1⟩, h1, h⟩ := bind_some h
    dsimp only at h
    split at h
    · rename_i hz
      cases h
      exact ⟨F, ρ, ds, _, en, by simpa [als] using sa, by simpa [mods] using sm, h1, fun vs H' en' k' r' =>
        ⟨by rw [sizes r']; exact hz, (fin en' k' q).lst (r'.rp hio)⟩⟩
    · cases h
/-- built-in calls by value -/
theorem bi_core {f : BI} {es : Es} {g : List PyData → Option (PyData × Fl)} (hg : ∀ ds p, biV f ds = some p → g ds = some p) (hio : noIo es = true) {σ : L2.St} {H : Hp} {Q : VK} (w : tE X.K Φ gl (.bi f es) σ H Q) : tCB (rA X.K g) (tEs X.K Φ gl es) σ H Q := by
  obtain ⟨F, ρ, d, fl, ρ', en, sa, sm, h, q⟩ := w
  simp only [ev] at h
  obtain ⟨⟨ds, ρ1⟩, h1, h⟩ := bind_some h
  obtain ⟨⟨d', fl'⟩, h2, h⟩ := bind_some h
  cases h
  exact ⟨F, ρ, ds, _, en, by simpa [als] using sa, by simpa [mods] using sm, h1, fun vs H' en' k' r' => ⟨F.P, ds, _, _, r'.rp hio, hg _ _ h2, fin en' k' q⟩⟩
theorem e_callB {f : BI} {es : Es} {id : String} {x : Str} {p : Pos} {e : Expr} {ps : List Expr} (hc : CallR X (.builtin id) (rA X.K (biV f))) (hg : Gl X x) (hm : X.mg x = none) (hv : bootBuiltins x = some (.builtin id)) (ha : PAv X Φ gl (e :: ps) es) (hio : noIo es = true := by rfl) (hn : x ≠ "__name__" := by decide) (hdb : (x == ("__debug__" : Str)) = false := by decide)
    (he : starEach (e :: ps) X.env = (false, eval e X.env) :: starEach ps X.env := by rfl) (hpl : (backTo pos (starEach ps X.env)).any (·.1) = false := by rfl) : PEv X Φ gl (.Call (.Name x p) (e :: ps) [] pos) (.bi f es) :=
  (pe_callB hc hg hm hv ha hn hdb he hpl).imp fun σ H Q w => bi_core (fun _ _ z => z) hio w
theorem e_callT {f : BI} {es : Es} {T : String} {x : Str} {p : Pos} {e : Expr} {ps : List Expr} {g : List PyData → Option (PyData × Fl)} (hc : CallR X (.type T) (rA X.K g)) (hb : ∀ ds p, biV f ds = some p → g ds = some p) (hg : Gl X x) (hm : X.mg x = none) (hv : bootBuiltins x = some (.type T)) (ha : PAv X Φ gl (e :: ps) es) (hio : noIo es = true := by rfl) (hn : x ≠ "__name__" := by decide) (hdb : (x == ("__debug__" : Str)) = false := by decide)
    (he : starEach (e :: ps) X.env = (false, eval e X.env) :: starEach ps X.env := by rfl) (hpl : (backTo pos (starEach ps X.env)).any (·.1) = false := by rfl) : PEv X Φ gl (.Call (.Name x p) (e :: ps) [] pos) (.bi f es) :=
  (pe_callTy hc hg hm hv ha hn hdb he hpl).imp fun σ H Q w => bi_core hb hio w
/-! cuts -/
theorem o_no : POv X Φ gl none .no :=
  po_none.imp fun σ H Q ⟨F, ρ, d, ρ', en, sa, sm, h, k, hk, q⟩ => by
    simp only [evo, Option.some.injEq, Prod.mk.injEq] at h
    obtain ⟨rfl, rfl⟩ := h
    cases hk
    exact q _ en .refl
theorem o_so (ha : PEv X Φ gl a ea) : POv X Φ gl (some a) (.so ea) :=
  (po_some ha).imp fun σ H Q ⟨F, ρ, d, ρ', en, sa, sm, h, k, hk, q⟩ => by
    simp only [evo] at h
    obtain ⟨⟨x, fx, ρ1⟩, h1, h⟩ := bind_some h
    cases h
    refine one en (by simpa [alsO] using sa) (by simpa [modsO] using sm) h1 fun v H1 en1 k1 r1 => ?_
    cases x <;> simp only [optI, Option.some.injEq] at hk <;> first | (cases hk; done) | skip
    cases r1.rp
    subst hk
    exact ⟨_, rfl, q _ en1 k1⟩
theorem e_sl {lo hi : Option Expr} {ol oh : O} {p2 : Pos} (ha : PEv X Φ gl a ea) (hl : POv X Φ gl lo ol) (hh : POv X Φ gl hi oh) : PEv X Φ gl (.Subscript a (.Slice lo hi none p2) pos) (.sl ea ol oh) :=
  (pe_slice slP ha hl hh).imp fun σ H Q ⟨F, ρ, d, fl, ρ', en, sa, sm, h, q⟩ => by
    simp only [ev] at h
    obtain ⟨⟨x, fx, ρ1⟩, h1, h⟩ := bind_some h
    obtain ⟨⟨l, ρ2⟩, h2, h⟩ := bind_some h
    obtain ⟨⟨u, ρ3⟩, h3, h⟩ := bind_some h
    obtain ⟨l', h4, h⟩ := bind_some h
    obtain ⟨u', h5, h⟩ := bind_some h
    obtain ⟨⟨d', f'⟩, h6, h⟩ := bind_some h
    cases h
    have sa : ∀ i, i ∈ als ea ++ (alsO ol ++ alsO oh) → i ∈ F.A := by simpa [als] using sa
    have sm : ∀ i, i ∈ mods ea ++ (modsO ol ++ modsO oh) → i ∈ F.M := by simpa [mods] using sm
    refine one en (fun i z => sa i (by simp [z])) (fun i z => sm i (by simp [z])) h1 fun v H1 en1 k1 r1 => ?_
    refine ⟨F, ρ1, l, ρ2, en1, fun i z => sa i (by simp [z]), fun i z => sm i (by simp [z]), h2, l', h4, fun H2 en2 k2 => ?_⟩
    refine ⟨F, ρ2, u, _, en2, fun i z => sa i (by simp [z]), fun i z => sm i (by simp [z]), h3, u', h5, fun H3 en3 k3 => ?_⟩
    exact ⟨F.P, x, _, _, r1.rp.ext ((k2.trans k3).ext fun a z => en1.wr z), h6, fin en3 (k1.trans (k2.trans k3)) q⟩

/-! boxes -/
theorem frzAll_get {ρ : PEnv} {i : Nat} : (frzAll ρ)[i]? = (ρ[i]?).map frzS := by unfold frzAll; rw [List.getElem?_map]
theorem e_box (ha : PEv X Φ gl a ea) (hm : mods ea = [] := by rfl) : PEv X Φ gl a (.box ea) :=
  PE.imp ha fun σ H Q ⟨F, ρ, d, fl, ρ', en, sa, sm, h, q⟩ => by
    simp only [ev] at h
    obtain ⟨⟨x, fx, ρ1⟩, h1, h⟩ := bind_some h
    refine ⟨⟨fun _ => False, fun _ => False, [], als ea, []⟩, frzAll ρ, x, fx, ρ1, ⟨fun i z => by simp at z, fun i j a z => by simp at z, fun a z => z.elim, fun i z => by simp at z, fun i z => by simp at z, fun i d' e => ?_, fun i d' e => ?_, fun a z => z.elim, fun _ i d' _ e => ?_, ?_⟩, fun i z => z, by rw [hm]; exact fun i z => z, h1, fun v H' en' k' r' => ?_⟩
    · rw [frzAll_get] at e
      obtain ⟨y, e1, e2⟩ := Option.map_eq_some_iff.mp e
      cases y <;> simp [frzS] at e2
    · rw [frzAll_get] at e
      obtain ⟨y, e1, e2⟩ := Option.map_eq_some_iff.mp e
      cases y with
      | no => simp [frzS] at e2
      | fz d2 =>
        simp only [frzS, Sl.fz.injEq] at e2
        subst e2
        obtain ⟨v, e3, r⟩ := en.fz i _ e1
        exact ⟨v, e3, r.ext (.less fun _ z => z.elim)⟩
      | ow d2 =>
        simp only [frzS, Sl.fz.injEq] at e2
        subst e2
        obtain ⟨_, a, e3, o⟩ := en.ow i _ e1
        exact ⟨_, e3, (o.ext (P' := fun _ => False) (.less fun _ z => z.elim) fun _ z => z).rp fun z => z⟩
    · rw [frzAll_get] at e
      obtain ⟨y, e1, e2⟩ := Option.map_eq_some_iff.mp e
      cases y <;> simp [frzS] at e2
    · show (ρ.map frzS).length = _
      rw [List.length_map]; exact en.len
    · have k : ∀ a o, H a = some o → H' a = some o := k'.all fun a ⟨i, hi, _⟩ => by simp at hi
      have ht : ∀ a xs, H' a = some (.tup xs) → H' a = some (.tup xs) := fun _ _ z => z
      cases fx with
      | sh =>
        dsimp only at h
        split at h
        · rename_i hi
          cases h
          exact q _ _ (en.grow k) (.of k) ⟨r'.rp.imm ht hi, fun z => nomatch z⟩
        · cases h
      | fr =>
        dsimp only at h
        split at h
        · rename_i hi
          cases h
          obtain ⟨a, e1, e2, o, _⟩ := r'.fr rfl
          have o' : Own X.K H' (fun b => F.P b ∨ b = a) a _ := o.imm ht (fun _ z => z) hi
          refine q _ _ (en.grow k) (.of k) ⟨?_, fun _ => ⟨a, e1, e2, o', en.hideG e2 k (let ⟨u, hu, _⟩ := o'.there; ⟨u, hu⟩)⟩⟩
          subst e1
          refine (o'.ext (Ext.less fun b z => .inl z) fun _ z => z).rp fun z => ?_
          obtain ⟨u, z⟩ := en.there a z
          rw [e2] at z; cases z
        · cases h

/-! calls of defs -/
/-- the arguments: the changed ones hidden -/
inductive ArgL (K : PySem.W.Frag) (H : Hp) (P : Addr → Prop) : List Bool → List V → List PyData → Prop
  | nil : ArgL K H P [] [] []
  | io {a : Addr} {d : PyData} {bs : List Bool} {vs : List V} {ds : List PyData} : P a → Own K H P a d → ArgL K H P bs vs ds → ArgL K H P (true :: bs) (.ref a :: vs) (d :: ds)
  | sh {v : V} {d : PyData} {bs : List Bool} {vs : List V} {ds : List PyData} : Rp K H P v d → ArgL K H P bs vs ds → ArgL K H P (false :: bs) (v :: vs) (d :: ds)
/-- the addresses of the changed ones -/
def ioA : List Bool → List V → List Addr
  | true :: bs, .ref a :: vs => a :: ioA bs vs
  | _ :: bs, _ :: vs => ioA bs vs
  | _, _ => []
inductive OwnL (K : PySem.W.Frag) (H : Hp) (P : Addr → Prop) : List Addr → List PyData → Prop
  | nil : OwnL K H P [] []
  | cons {a : Addr} {d : PyData} {as : List Addr} {ds : List PyData} : Own K H P a d → OwnL K H P as ds → OwnL K H P (a :: as) (d :: ds)
/-- a def's promise: it computes g -/
def spP (K : PySem.W.Frag) (g : List PyData → Option (PyData × List PyData)) (bs : List Bool) : Sp := fun vs H Q _ => ∃ P ds d outs, (∀ a, P a → ∃ u, H a = some u) ∧ ArgL K H P bs vs ds ∧ (ioA bs vs).Nodup ∧ g ds = some (d, outs) ∧
  ∀ v H', Keep (fun a => a ∈ ioA bs vs) H H' → Rp K H' P v d → OwnL K H' P (ioA bs vs) outs → Q v H'
def maskE : Es → List Bool
  | .nil => []
  | .cons e es => isIo e :: maskE es
theorem getO_iff {ρ : PEnv} {i : Nat} {d : PyData} (h : getO ρ i = some d) : ρ[i]? = some (.ow d) := by
  unfold getO at h
  cases e : ρ[i]? with
  | none => rw [e] at h; cases h
  | some s => rw [e] at h; cases s <;> first | (cases h; done) | (cases h; rfl)
theorem argL_of {K : PySem.W.Frag} {F : Fr} {σ : L2.St} {H : Hp} {ρ : PEnv} (en : EnvOk K F ρ σ H) : ∀ {es : Es} {vs : List V} {ds ds' : List PyData}, ArgOk K F σ H es vs ds → fillIo ρ es ds = some ds' → ArgL K H F.P (maskE es) vs ds'
  | _, _, _, _, .nil, e => by
    simp only [fillIo, Option.some.injEq] at e
    subst e; exact .nil
  | _, _, _, _, .io (i := i) hi e3 r, e => by
    simp only [fillIo] at e
    obtain ⟨d, e1, e⟩ := bind_some e
    obtain ⟨ds2, e2, e⟩ := bind_some e
    cases e
    obtain ⟨ho, a, e4, o⟩ := en.ow i d (getO_iff e1)
    rw [e3] at e4
    cases e4
    exact .io (en.wr ⟨i, hi, e3⟩) o (argL_of en r e2)
  | _, _, _, ds', .cons (e := ea) (es := es) (d := d) (ds := ds) ne hr r, e => by
    have : fillIo ρ (.cons ea es) (d :: ds) = (do return d :: (← fillIo ρ es ds)) := by
      cases ea <;> first | rfl | exact absurd rfl (ne _)
    rw [this] at e
    obtain ⟨ds2, e2, e⟩ := bind_some e
    cases e
    have : isIo ea = false := by cases ea <;> first | rfl | exact absurd rfl (ne _)
    show ArgL K H F.P (isIo ea :: maskE es) _ _
    rw [this]
    exact .sh hr (argL_of en r e2)
theorem ioSlots_cons {ea : E} {es : Es} (ne : ∀ i, ea ≠ .io i) : ioSlots (.cons ea es) = ioSlots es := by cases ea <;> first | rfl | exact absurd rfl (ne _)
/-- slots and addresses of the changed ones side by side -/
theorem io_pair {K : PySem.W.Frag} {F : Fr} {σ : L2.St} {H : Hp} : ∀ {es : Es} {vs : List V} {ds : List PyData}, ArgOk K F σ H es vs ds → Paired (fun i a => i ∈ F.M ∧ σ[i]? = some (some (V.ref a))) (ioSlots es) (ioA (maskE es) vs)
  | _, _, _, .nil => .nil
  | _, _, _, .io h e r => .cons ⟨h, e⟩ (io_pair r)
  | _, _, _, .cons (e := ea) (es := es) (v := v) (vs := vs) ne hr r => by
    have h : isIo ea = false := by cases ea <;> first | rfl | exact absurd rfl (ne _)
    rw [ioSlots_cons ne]
    show Paired _ _ (ioA (isIo ea :: maskE es) (v :: vs))
    rw [h]
    have : ioA (false :: maskE es) (v :: vs) = ioA (maskE es) vs := by cases v <;> rfl
    rw [this]
    exact io_pair r
theorem putIo_out : ∀ {is : List Nat} {ds : List PyData} {ρ ρ' : PEnv} {j : Nat}, putIo is ds ρ = some ρ' → j ∉ is → ρ'[j]? = ρ[j]?
  | [], [], _, _, _, e, _ => by cases e; rfl
  | i :: is, d :: ds, ρ, ρ', j, e, hj => by
    rw [putIo_out (show putIo is ds (ρ.set i (.ow d)) = some ρ' from e) fun z => hj (List.mem_cons_of_mem _ z), List.getElem?_set_ne fun z => hj (by rw [z]; exact List.mem_cons_self ..)]
  | [], _ :: _, _, _, _, e, _ => by cases e
  | _ :: _, [], _, _, _, e, _ => by cases e
theorem putIo_len : ∀ {is : List Nat} {ds : List PyData} {ρ ρ' : PEnv}, putIo is ds ρ = some ρ' → ρ'.length = ρ.length
  | [], [], _, _, e => by cases e; rfl
  | i :: is, d :: ds, ρ, ρ', e => by
    rw [putIo_len (show putIo is ds (ρ.set i (.ow d)) = some ρ' from e), List.length_set]
  | [], _ :: _, _, _, e => by cases e
  | _ :: _, [], _, _, e => by cases e
theorem putIo_in {K : PySem.W.Frag} {H : Hp} {P : Addr → Prop} {R : Nat → Addr → Prop} : ∀ {is : List Nat} {as : List Addr} {ds : List PyData} {ρ ρ' : PEnv} {j : Nat}, putIo is ds ρ = some ρ' → is.Nodup → Paired R is as → OwnL K H P as ds → j ∈ is → j < ρ.length → ∃ a d, R j a ∧ ρ'[j]? = some (.ow d) ∧ Own K H P a d
  | i :: is, _ :: _, d :: _, ρ, ρ', j, e, nd, .cons r rs, .cons o os, hj, hl => by
    have e' : putIo is _ (ρ.set i (.ow d)) = some ρ' := e
    rw [List.nodup_cons] at nd
    by_cases z : j = i
    · subst z
      refine ⟨_, d, r, ?_, o⟩
      rw [putIo_out e' nd.1, List.getElem?_set_self hl]
    · exact putIo_in e' nd.2 rs os ((List.mem_cons.mp hj).resolve_left z) (by rw [List.length_set]; exact hl)
/-- a def that may be called by its name, every parameter given -/
structure Cal (P : Program) (w : World) (K : PySem.W.Frag) (mg : Str → Option Value) (base : Heap) (k : Nat) (x : Str) (sp : Sp) : Prop where
  ex : ∃ (f : Addr) (fd : FuncData) (ps : List Str), FnOk P w K mg base L2.CX0 k f fd ps sp ∧ mg x = some (.ref f) ∧ PySem.W.keepIn K (.ref f) = true ∧ Binds K fd ps []
theorem pe_cal {k : Nat} {x : Str} {sp : Sp} {t : TA} {p : Pos} {e : Expr} {es : List Expr} (c : Cal X.prog X.w X.K X.mg X.base k x sp) (hr : Room k X.A) (hg : Gl X x) (ha : PA X (e :: es) t)
    (hdb : (x == ("__debug__" : Str)) = false := by decide) (he : starEach (e :: es) X.env = (false, eval e X.env) :: starEach es X.env := by rfl) (hpl : (backTo pos (starEach es X.env)).any (·.1) = false := by rfl) :
    PE X (.Call (.Name x p) (e :: es) [] pos) (tCall sp [] L2.E0 t) := by
  obtain ⟨f, fd, ps, F, hm, kp, b⟩ := c.ex
  exact pe_call F hr hg hm kp b .nil L2.pass0 ha hdb he hpl
theorem e_call {f k : Nat} {es : Es} {x : Str} {p : Pos} {e : Expr} {ps : List Expr} {bs : List Bool} (c : Cal X.prog X.w X.K X.mg X.base k x (spP X.K (Φ f) bs)) (hr : Room k X.A) (hg : Gl X x) (ha : PAv X Φ gl (e :: ps) es) (hb : maskE es = bs := by rfl) (hnd : (ioSlots es).Nodup := by decide)
    (hdb : (x == ("__debug__" : Str)) = false := by decide) (he : starEach (e :: ps) X.env = (false, eval e X.env) :: starEach ps X.env := by rfl) (hpl : (backTo pos (starEach ps X.env)).any (·.1) = false := by rfl) : PEv X Φ gl (.Call (.Name x p) (e :: ps) [] pos) (.call f es) :=
  (pe_cal c hr hg ha hdb he hpl).imp fun σ H Q ⟨F, ρ, d, fl, ρ', en, sa, sm, h, q⟩ => by
    subst hb
    simp only [ev] at h
    obtain ⟨⟨ds, ρ1⟩, h1, h⟩ := bind_some h
    obtain ⟨ds', h2, h⟩ := bind_some h
    obtain ⟨⟨d', outs⟩, h3, h⟩ := bind_some h
    obtain ⟨ρ2, h4, h⟩ := bind_some h
    cases h
    refine ⟨F, ρ, ds, ρ1, en, by simpa [als] using sa, by simpa [mods] using sm, h1, fun vs H1 en1 k1 r1 => ?_⟩
    have ip := io_pair r1
    have nd : (ioA (maskE es) vs).Nodup := by
      clear h h4 h3 h2
      generalize ioSlots es = is at ip hnd
      generalize ioA (maskE es) vs = as at ip
      induction ip with
      | nil => exact List.nodup_nil
      | cons h t ih =>
        rw [List.nodup_cons] at hnd ⊢
        refine ⟨fun z => ?_, ih hnd.2⟩
        obtain ⟨n, hn⟩ := List.mem_iff_getElem?.mp z
        obtain ⟨j, g1, g2⟩ := prR t hn
        have := en1.inj _ _ _ (en1.mo _ h.1).1 (en1.mo _ g2.1).1 h.2 g2.2
        subst this
        exact hnd.1 (List.mem_of_getElem? g1)
    show spP X.K (Φ f) (maskE es) (vs ++ []) H1 Q _
    rw [List.append_nil]
    refine ⟨F.P, ds', _, outs, en1.there, argL_of en1 r1 h2, nd, h3, fun v H2 k2 r2 o2 => ?_⟩
    have inW : ∀ a, a ∈ ioA (maskE es) vs → Wr σ F.M a := fun a ha => by
      obtain ⟨n, hn⟩ := List.mem_iff_getElem?.mp ha
      obtain ⟨j, g1, g2⟩ := prR ip hn
      exact ⟨j, g2⟩
    have k2' : Keep (Wr σ F.M) H1 H2 := k2.weak inW
    refine q v H2 ?_ (k1.trans k2') ⟨r2, fun z => nomatch z⟩
    have x := k2'.ext fun a z => en1.wr z
    have inO : ∀ i, i ∈ ioSlots es → i ∈ F.M := fun i hi => by
      obtain ⟨n, hn⟩ := List.mem_iff_getElem?.mp hi
      obtain ⟨j, g1, g2⟩ := prL ip hn
      exact g2.1
    refine ⟨en1.adr, en1.inj, en1.zp, en1.mo, fun i hi => ?_, fun i d2 e => ?_, fun i d2 e => ?_, fun a z => ?_, fun hl i d2 hi e => en1.nd hl i d2 hi (by rw [← putIo_out h4 fun z => (en1.mo i (inO i z)).2 hi]; exact e), by rw [putIo_len h4]; exact en1.len⟩
    · by_cases hm : i ∈ ioSlots es
      · obtain ⟨d3, e3⟩ := en1.shape i hi
        obtain ⟨a, d4, g1, g2, g3⟩ := putIo_in h4 hnd ip o2 hm (List.getElem?_eq_some_iff.mp e3).1
        exact ⟨d4, g2⟩
      · rw [putIo_out h4 hm]
        exact en1.shape i hi
    · by_cases hm : i ∈ ioSlots es
      · have hi := (en1.mo i (inO i hm)).1
        obtain ⟨d3, e3⟩ := en1.shape i hi
        obtain ⟨a, d4, g1, g2, g3⟩ := putIo_in h4 hnd ip o2 hm (List.getElem?_eq_some_iff.mp e3).1
        rw [g2] at e
        cases e
        exact ⟨hi, a, g1.2, g3⟩
      · rw [putIo_out h4 hm] at e
        obtain ⟨hi, a, e2, o⟩ := en1.ow i d2 e
        refine ⟨hi, a, e2, o.ext x fun u hu => k2.keep a u hu fun z => ?_⟩
        obtain ⟨n, hn⟩ := List.mem_iff_getElem?.mp z
        obtain ⟨j, g1, g2⟩ := prR ip hn
        have := en1.inj i j a hi (en1.mo j g2.1).1 e2 g2.2
        subst this
        exact hm (List.mem_of_getElem? g1)
    · by_cases hm : i ∈ ioSlots es
      · have hi := (en1.mo i (inO i hm)).1
        obtain ⟨d3, e3⟩ := en1.shape i hi
        obtain ⟨a, d4, g1, g2, g3⟩ := putIo_in h4 hnd ip o2 hm (List.getElem?_eq_some_iff.mp e3).1
        rw [g2] at e
        cases e
      · rw [putIo_out h4 hm] at e
        obtain ⟨v2, e2, r⟩ := en1.fz i d2 e
        exact ⟨v2, e2, r.ext x⟩
    · obtain ⟨u, hu⟩ := en1.there a z
      cases e : H2 a with
      | none => rw [k2.gone a e] at hu; cases hu
      | some u2 => exact ⟨u2, rfl⟩
end
end PP

/-! PP8: targets, walks, comprehensions. -/
namespace PP
open PySem PySem.Spec PyProof.Rows L2 RZ

/-! ### targets -/
mutual
def gv : G → List Nat
  | .nm i => [i]
  | .tp gs => gvs gs
def gvs : List G → List Nat
  | [] => []
  | g :: gs => gv g ++ gvs gs
end
def Fr.less (F : Fr) (is : List Nat) : Fr := { F with O := F.O.filter fun i => !is.contains i }
theorem Fr.less_less (F : Fr) (a b : List Nat) : (F.less a).less b = F.less (a ++ b) := by
  unfold Fr.less
  congr 1
  show List.filter _ (List.filter _ F.O) = _
  rw [List.filter_filter]
  congr 1
  funext i
  simp [Bool.and_comm]
theorem Fr.less_nil (F : Fr) : F.less [] = F := by
  unfold Fr.less
  have : F.O.filter (fun i => !([] : List Nat).contains i) = F.O := List.filter_eq_self.mpr fun i _ => by simp
  rw [this]
theorem Fr.less_off (F : Fr) {is : List Nat} (h : ∀ i, i ∈ is → i ∉ F.O) : F.less is = F := by
  unfold Fr.less
  have : F.O.filter (fun i => !is.contains i) = F.O := List.filter_eq_self.mpr fun i hi => by
    simp only [Bool.not_eq_true', List.contains_eq_mem, decide_eq_false_iff_not]
    exact fun z => h i z hi
  rw [this]
theorem mem_less {F : Fr} {is : List Nat} {i : Nat} : i ∈ (F.less is).O ↔ i ∈ F.O ∧ i ∉ is := by
  unfold Fr.less
  simp
section
variable {K : PySem.W.Frag} {F : Fr} {ρ ρ' : PEnv} {σ : L2.St} {H H' : Hp}
/-- a slot is stored to -/
theorem EnvOk.setFz (en : EnvOk K F ρ σ H) {i : Nat} {v : V} {d : PyData} (hm : i ∉ F.M) (hl : i < ρ.length) (r : Rp K H F.P v d) : EnvOk K (F.less [i]) (ρ.set i (.fz d)) (σ.set i (some v)) H := by
  have hs : i < σ.length := by rw [← en.len]; exact hl
  have off : ∀ j, j ∉ [i] → (σ.set i (some v))[j]? = σ[j]? := fun j hj => List.getElem?_set_ne fun z => hj (by simp [z])
  have offr : ∀ j, j ∉ [i] → (ρ.set i (.fz d))[j]? = ρ[j]? := fun j hj => List.getElem?_set_ne fun z => hj (by simp [z])
  refine ⟨fun j hj => ?_, fun j k a hj hk e1 e2 => ?_, en.zp, fun j hj => ?_, fun j hj => ?_, fun j d2 e => ?_, fun j d2 e => ?_, en.there, fun hk j d2 hj e => ?_, by rw [List.length_set, List.length_set]; exact en.len⟩
  · obtain ⟨h1, h2⟩ := mem_less.mp hj
    rw [off j h2]
    exact en.adr j h1
  · obtain ⟨h1, h2⟩ := mem_less.mp hj
    obtain ⟨h3, h4⟩ := mem_less.mp hk
    rw [off j h2] at e1
    rw [off k h4] at e2
    exact en.inj j k a h1 h3 e1 e2
  · obtain ⟨h1, h2⟩ := en.mo j hj
    exact ⟨mem_less.mpr ⟨h1, fun z => hm (by simp at z; rw [← z]; exact hj)⟩, h2⟩
  · obtain ⟨h1, h2⟩ := mem_less.mp hj
    rw [offr j h2]
    exact en.shape j h1
  · by_cases z : j ∈ [i]
    · have : j = i := by simpa using z
      subst this
      rw [List.getElem?_set_self hl] at e
      cases e
    · rw [offr j z] at e
      rw [off j z]
      obtain ⟨h1, h2⟩ := en.ow j d2 e
      exact ⟨mem_less.mpr ⟨h1, z⟩, h2⟩
  · by_cases z : j ∈ [i]
    · have : j = i := by simpa using z
      subst this
      rw [List.getElem?_set_self hl] at e
      cases e
      exact ⟨v, List.getElem?_set_self hs, r⟩
    · rw [offr j z] at e
      rw [off j z]
      exact en.fz j d2 e
  · by_cases z : j ∈ [i]
    · have : j = i := by simpa using z
      subst this
      rw [List.getElem?_set_self hl] at e
      cases e
    · rw [offr j z] at e
      exact en.nd hk j d2 hj e
variable (K)
def tG (g : G) : TG := fun v σ H Q => ∃ F ρ d ρ', EnvOk K F ρ σ H ∧ (∀ i, i ∈ gv g → i ∉ F.M) ∧ Rp K H F.P v d ∧ asgG g d ρ = some ρ' ∧
  ∀ σ', EnvOk K (F.less (gv g)) ρ' σ' H → (∀ j, j ∉ gv g → σ'[j]? = σ[j]?) → Q σ' H
def tGs (gs : List G) : TGs := fun vs σ H Q => ∃ F ρ ds ρ', EnvOk K F ρ σ H ∧ (∀ i, i ∈ gvs gs → i ∉ F.M) ∧ RpAll K H F.P vs ds ∧ asgGs gs ds ρ = some ρ' ∧
  ∀ σ', EnvOk K (F.less (gvs gs)) ρ' σ' H → (∀ j, j ∉ gvs gs → σ'[j]? = σ[j]?) → Q σ' H
end
def PGv (X : Cx) (p : Expr) (g : G) : Prop := PG X p (tG X.K g)
def PGsv (X : Cx) (p : List Expr) (gs : List G) : Prop := PGs X p (tGs X.K gs)
theorem _root_.L2.PG.imp {X : Cx} {p : Expr} {t t' : TG} (h : PG X p t) (i : ∀ v σ H Q, t' v σ H Q → t v σ H Q) : PG X p t' := ⟨fun pins s σ H v u Q I r w => h.run pins s σ H v u Q I r (i v σ H Q w)⟩
theorem _root_.L2.PGs.imp {X : Cx} {p : List Expr} {t t' : TGs} (h : PGs X p t) (i : ∀ v σ H Q, t' v σ H Q → t v σ H Q) : PGs X p t' := ⟨fun pins s σ H v u Q I r w => h.run pins s σ H v u Q I r (i v σ H Q w)⟩
section
variable {X : Cx} {pos : Pos}
theorem g_nm {i : Nat} {x : Str} (hN : X.N.Nodup) (hi : X.N[i]? = some x) (hx : Loc X.env.scope x) (hf : X.fn x = true ∨ X.env.scope.names.lookup x = some .local := by first | exact .inl rfl | exact .inr rfl | assumption) : PGv X (.Name x pos) (.nm i) :=
  (pg_name hN hi hx hf).imp fun v σ H Q ⟨F, ρ, d, ρ', en, hm, r, h, q⟩ => by
    simp only [asgG] at h
    split at h
    · rename_i hl
      cases h
      exact q _ (en.setFz (hm i (by simp [gv])) hl r) fun j hj => List.getElem?_set_ne fun z => hj (by simp [gv, z])
    · cases h
theorem gs_nil : PGsv X [] [] :=
  pgs_nil.imp fun vs σ H Q ⟨F, ρ, ds, ρ', en, hm, r, h, q⟩ => by
    cases ds with
    | cons _ _ => simp [asgGs] at h
    | nil =>
      simp only [asgGs, Option.some.injEq] at h
      subst h
      cases r
      exact ⟨rfl, q σ (by rw [show gvs [] = [] from rfl, Fr.less_nil]; exact en) fun _ _ => rfl⟩
theorem gs_cons {e : Expr} {es : List Expr} {g : G} {gs : List G} (h1 : PGv X e g) (h2 : PGsv X es gs) (hs : (assignEach (e :: es) X.env).map (·.2) = assign e X.env :: (assignEach es X.env).map (·.2) := by rfl) : PGsv X (e :: es) (g :: gs) :=
  (pgs_cons h1 h2 hs).imp fun vs σ H Q ⟨F, ρ, ds, ρ', en, hm, r, h, q⟩ => by
    cases r with
    | nil => simp [asgGs] at h
    | cons r rs =>
      simp only [asgGs] at h
      obtain ⟨ρ1, h1, h2⟩ := bind_some h
      have hm : ∀ i, i ∈ gv g ++ gvs gs → i ∉ F.M := hm
      refine ⟨_, _, rfl, F, ρ, _, ρ1, en, fun i z => hm i (List.mem_append_left _ z), r, h1, fun σ1 en1 k1 => ?_⟩
      refine ⟨_, ρ1, _, ρ', en1, fun i z => hm i (List.mem_append_right _ z), rs, h2, fun σ2 en2 k2 => q σ2 ?_ fun j hj => ?_⟩
      · rw [Fr.less_less] at en2
        exact en2
      · have hj : j ∉ gv g ++ gvs gs := hj
        rw [k2 j fun z => hj (List.mem_append_right _ z), k1 j fun z => hj (List.mem_append_left _ z)]
theorem asgGs_len : ∀ {gs : List G} {ds : List PyData} {ρ ρ' : PEnv}, asgGs gs ds ρ = some ρ' → ds.length = gs.length
  | [], [], _, _, _ => rfl
  | g :: gs, d :: ds, _, _, e => by
    simp only [asgGs] at e
    obtain ⟨ρ1, _, h2⟩ := bind_some e
    rw [List.length_cons, List.length_cons, asgGs_len h2]
  | [], _ :: _, _, _, e => by simp [asgGs] at e
  | _ :: _, [], _, _, e => by simp [asgGs] at e
theorem g_tp {es : List Expr} {k : Nat} {gs : List G} (hc : X.calm = true) (h : PGsv X es gs) (hn : (assignEach es X.env).length = gs.length := by rfl) (hst : (assignEach es X.env).findIdx? (·.1) = none := by rfl) : PGv X (.Tuple es k pos) (.tp gs) :=
  (pg_tup hc h hn hst).imp fun v σ H Q ⟨F, ρ, d, ρ', en, hm, r, h, q⟩ => by
    cases r with
    | tup hh ra => exact ⟨_, _, rfl, .inl (.inl hh), by rw [ra.length]; exact asgGs_len (show asgGs gs _ ρ = some ρ' from by simpa [asgG] using h), F, ρ, _, ρ', en, hm, ra, by simpa [asgG] using h, q⟩
    | _ => simp [asgG] at h
end

/-! ### walks -/
/-- J walks values that stand for ds -/
def ItOk (K : PySem.W.Frag) (P : Addr → Prop) (J : It) (H1 : Hp) (ds : List PyData) : Prop := ∀ (i : Nat) (P' : Addr → Prop) (H : Hp), Ext P P' H1 H →
  (ds.length ≤ i → J.stop i H) ∧ ∀ d, ds[i]? = some d → J.go i H ∧ ∀ x H', J.yld i H x H' → (∀ a o, H a = some o → H' a = some o) ∧ Rp K H' P' x d
section
variable {K : PySem.W.Frag} {P : Addr → Prop} {H : Hp} {a b : Addr} {xs ys : List V} {ds es : List PyData}
theorem it_list (n : ¬ P a) (h : H a = some (.lst xs)) (r : RpAll K H P xs ds) : ItOk K P (Itl K a) H ds := fun i P' H2 x => by
  have e : H2 a = some (.lst xs) := x.keep _ _ h n
  refine ⟨fun hl => ⟨xs, .inl (.inl e), by rw [r.length]; exact hl⟩, fun d hd => ?_⟩
  obtain ⟨v, hv, rv⟩ := (r.ext x).get hd
  refine ⟨⟨xs, v, .inl (.inl e), hv⟩, fun y H' ⟨e1, e2⟩ => ?_⟩
  subst e1
  have := e2 xs (.inl (.inl e))
  rw [hv] at this
  cases this
  exact ⟨fun _ _ z => z, rv⟩
theorem it_tup (h : ∀ H2 : Hp, (∀ b zs, H b = some (.tup zs) → H2 b = some (.tup zs)) → SqT K H2 a xs) (r : RpAll K H P xs ds) : ItOk K P (Itt K a) H ds := fun i P' H2 x => by
  have e := h H2 x.tups
  refine ⟨fun hl => ⟨xs, e, by rw [r.length]; exact hl⟩, fun d hd => ?_⟩
  obtain ⟨v, hv, rv⟩ := (r.ext x).get hd
  refine ⟨⟨xs, v, e, hv⟩, fun y H' ⟨e1, e2⟩ => ?_⟩
  subst e1
  have := e2 xs e
  rw [hv] at this
  cases this
  exact ⟨fun _ _ z => z, rv⟩
theorem it_str {s : Str} : ItOk K P (Its s) H (s.cps.toList.map fun c => .str ⟨#[c]⟩) := fun i P' H2 x => by
  refine ⟨fun hl => by rw [List.length_map, Array.length_toList] at hl; exact hl, fun d hd => ?_⟩
  rw [List.getElem?_map] at hd
  obtain ⟨c, e1, e2⟩ := Option.map_eq_some_iff.mp hd
  rw [Array.getElem?_toList] at e1
  refine ⟨(Array.getElem?_eq_some_iff.mp e1).1, fun y H' ⟨z1, c', z2, z3⟩ => ?_⟩
  subst z1 z3 e2
  rw [e1] at z2
  cases z2
  exact ⟨fun _ _ z => z, .str _⟩
theorem it_rng {lo : Int} {n : Nat} : ItOk K P (Itr lo n) H ((List.range n).map fun k => .int (lo + (k : Nat))) := fun i P' H2 x => by
  refine ⟨fun hl => by rw [List.length_map, List.length_range] at hl; exact hl, fun d hd => ?_⟩
  rw [List.getElem?_map] at hd
  obtain ⟨c, e1, e2⟩ := Option.map_eq_some_iff.mp hd
  obtain ⟨hlt, e1⟩ := List.getElem?_eq_some_iff.mp e1
  rw [List.length_range] at hlt
  rw [List.getElem_range] at e1
  subst e1
  refine ⟨hlt, fun y H' ⟨z1, z2⟩ => ?_⟩
  subst z1 z2 e2
  exact ⟨fun _ _ z => z, .int _⟩
theorem it_rngC {lo c : Int} {n : Nat} : ItOk K P (Itc lo c n) H ((List.range n).map fun k => .int (lo + (k : Nat) * c)) := fun i P' H2 x => by
  refine ⟨fun hl => by rw [List.length_map, List.length_range] at hl; exact hl, fun d hd => ?_⟩
  rw [List.getElem?_map] at hd
  obtain ⟨k, e1, e2⟩ := Option.map_eq_some_iff.mp hd
  obtain ⟨hlt, e1⟩ := List.getElem?_eq_some_iff.mp e1
  rw [List.length_range] at hlt
  rw [List.getElem_range] at e1
  subst e1
  refine ⟨hlt, fun y H' ⟨z1, z2⟩ => ?_⟩
  subst z1 z2 e2
  exact ⟨fun _ _ z => z, .int _⟩
theorem zip_get {α β : Type} {xs : List α} {ys : List β} {i : Nat} {p : α × β} (h : (xs.zip ys)[i]? = some p) : xs[i]? = some p.1 ∧ ys[i]? = some p.2 := by
  rw [List.getElem?_zip_eq_some] at h
  exact h
theorem it_zip (na : ¬ P a) (ha : H a = some (.lst xs)) (ra : RpAll K H P xs ds) (nb : ¬ P b) (hb : H b = some (.lst ys)) (rb : RpAll K H P ys es) : ItOk K P (Itz K a b) H ((ds.zip es).map fun p => .tuple [p.1, p.2]) := fun i P' H2 x => by
  have ea : H2 a = some (.lst xs) := x.keep _ _ ha na
  have eb : H2 b = some (.lst ys) := x.keep _ _ hb nb
  refine ⟨fun hl => ⟨xs, ys, .inl (.inl ea), .inl (.inl eb), ?_⟩, fun d hd => ?_⟩
  · rw [List.length_map, List.length_zip, ← ra.length, ← rb.length] at hl
    omega
  · rw [List.getElem?_map] at hd
    obtain ⟨p, e1, e2⟩ := Option.map_eq_some_iff.mp hd
    obtain ⟨z1, z2⟩ := zip_get e1
    obtain ⟨v, hv, rv⟩ := (ra.ext x).get z1
    obtain ⟨w, hw, rw'⟩ := (rb.ext x).get z2
    refine ⟨⟨xs, ys, v, w, .inl (.inl ea), .inl (.inl eb), hv, hw⟩, fun y H' ⟨T, v', w', q1, q2, q3, q4, q5⟩ => ?_⟩
    subst q1 q3 e2
    have e4 := q4 xs (.inl (.inl ea))
    have e5 := q5 ys (.inl (.inl eb))
    rw [hv] at e4; cases e4
    rw [hw] at e5; cases e5
    have g : ∀ b u, H2 b = some u → upd H2 T (.tup [v, w]) b = some u := fun b u z => by rw [upd_ne (ne_of_none z q2)]; exact z
    exact ⟨g, .tup upd_same (.cons (rv.ext (.same g)) (.cons (rw'.ext (.same g)) .nil))⟩
theorem it_zipT (ha : H a = some (.tup xs)) (ra : RpAll K H P xs ds) (hb : H b = some (.tup ys)) (rb : RpAll K H P ys es) : ItOk K P (ItzT K a b) H ((ds.zip es).map fun p => .tuple [p.1, p.2]) := fun i P' H2 x => by
  have ea : H2 a = some (.tup xs) := x.tups _ _ ha
  have eb : H2 b = some (.tup ys) := x.tups _ _ hb
  refine ⟨fun hl => ⟨xs, ys, .inl (.inl ea), .inl (.inl eb), ?_⟩, fun d hd => ?_⟩
  · rw [List.length_map, List.length_zip, ← ra.length, ← rb.length] at hl
    omega
  · rw [List.getElem?_map] at hd
    obtain ⟨p, e1, e2⟩ := Option.map_eq_some_iff.mp hd
    obtain ⟨z1, z2⟩ := zip_get e1
    obtain ⟨v, hv, rv⟩ := (ra.ext x).get z1
    obtain ⟨w, hw, rw'⟩ := (rb.ext x).get z2
    refine ⟨⟨xs, ys, v, w, .inl (.inl ea), .inl (.inl eb), hv, hw⟩, fun y H' ⟨T, v', w', q1, q2, q3, q4, q5⟩ => ?_⟩
    subst q1 q3 e2
    have e4 := q4 xs (.inl (.inl ea))
    have e5 := q5 ys (.inl (.inl eb))
    rw [hv] at e4; cases e4
    rw [hw] at e5; cases e5
    have g : ∀ b u, H2 b = some u → upd H2 T (.tup [v, w]) b = some u := fun b u z => by rw [upd_ne (ne_of_none z q2)]; exact z
    exact ⟨g, .tup upd_same (.cons (rv.ext (.same g)) (.cons (rw'.ext (.same g)) .nil))⟩
theorem it_enum (na : ¬ P a) (ha : H a = some (.lst xs)) (ra : RpAll K H P xs ds) : ItOk K P (Ite K a) H ((List.range ds.length).zipWith (fun k d => .tuple [.int (k : Nat), d]) ds) := fun i P' H2 x => by
  have ea : H2 a = some (.lst xs) := x.keep _ _ ha na
  refine ⟨fun hl => ⟨xs, .inl (.inl ea), ?_⟩, fun d hd => ?_⟩
  · rw [List.length_zipWith, List.length_range, Nat.min_self, ← ra.length] at hl
    exact hl
  · rw [List.getElem?_zipWith] at hd
    cases e1 : (List.range ds.length)[i]? with
    | none => rw [e1] at hd; cases hd
    | some k =>
      cases e2 : ds[i]? with
      | none => rw [e1, e2] at hd; cases hd
      | some d2 =>
        rw [e1, e2] at hd
        cases hd
        obtain ⟨hlt, e1⟩ := List.getElem?_eq_some_iff.mp e1
        rw [List.getElem_range] at e1
        subst e1
        obtain ⟨v, hv, rv⟩ := (ra.ext x).get e2
        refine ⟨⟨xs, v, .inl (.inl ea), hv⟩, fun y H' ⟨T, v', q1, q2, q3, q4⟩ => ?_⟩
        subst q1 q3
        have e4 := q4 xs (.inl (.inl ea))
        rw [hv] at e4; cases e4
        have g : ∀ b u, H2 b = some u → upd H2 T (.tup [.int (i : Nat), v]) b = some u := fun b u z => by rw [upd_ne (ne_of_none z q2)]; exact z
        exact ⟨g, .tup upd_same (.cons (.int _) (.cons (rv.ext (.same g)) .nil))⟩
theorem it_keys {o : Obj} {kvs : List (L2.Key × V)} {ps : List (PyData × PyData)} (n : ¬ P a) (h : H a = some (.frz o (.dK kvs))) (r : RpK K H P kvs ps) : ItOk K P (Itk a o kvs) H (ps.map (·.1)) := fun i P' H2 x => by
  have e : H2 a = some (.frz o (.dK kvs)) := x.keep _ _ h n
  have rk := keys_rp (r.ext x)
  refine ⟨fun hl => ⟨e, by rw [r.length]; rw [List.length_map] at hl; exact hl⟩, fun d hd => ?_⟩
  obtain ⟨v, hv, rv⟩ := rk.get hd
  rw [List.getElem?_map] at hv
  obtain ⟨⟨k, w⟩, e1, e2⟩ := Option.map_eq_some_iff.mp hv
  refine ⟨⟨e, (List.getElem?_eq_some_iff.mp e1).1⟩, fun y H' ⟨z1, k', w', z2, z3⟩ => ?_⟩
  subst z1 z3 e2
  rw [e1] at z2
  cases z2
  exact ⟨fun _ _ z => z, rv⟩
theorem rpT_get : ∀ {kvs : List (List L2.Key × V)} {ps : List (PyData × PyData)} {i : Nat} {p : PyData × PyData}, RpT K H P kvs ps → ps[i]? = some p → ∃ k v, kvs[i]? = some (k, v) ∧ p.1 = .tuple (k.map keyPD) ∧ Rp K H P v p.2
  | _, _, _, _, .nil, e => by simp at e
  | _, _, 0, _, .cons r rs, e => by simp at e; subst e; exact ⟨_, _, rfl, rfl, r⟩
  | _, _, i + 1, _, .cons r rs, e => by
    obtain ⟨k, v, h1, h2⟩ := rpT_get (i := i) rs (by simpa using e)
    exact ⟨k, v, by simpa using h1, h2⟩
theorem it_keysT {o : Obj} {kvs : List (List L2.Key × V)} {ps : List (PyData × PyData)} (n : ¬ P a) (h : H a = some (.frz o (.dT kvs))) (r : RpT K H P kvs ps) : ItOk K P (Itkt a o kvs) H (ps.map (·.1)) := fun i P' H2 x => by
  have e : H2 a = some (.frz o (.dT kvs)) := x.keep _ _ h n
  refine ⟨fun hl => ⟨e, by rw [r.length]; rw [List.length_map] at hl; exact hl⟩, fun d hd => ?_⟩
  rw [List.getElem?_map] at hd
  obtain ⟨p, e1, e2⟩ := Option.map_eq_some_iff.mp hd
  obtain ⟨k, v, g1, g2, g3⟩ := rpT_get (r.ext x) e1
  refine ⟨⟨e, (List.getElem?_eq_some_iff.mp g1).1⟩, fun y H' ⟨z1, k', w', q, z2, z3, z4⟩ => ?_⟩
  subst z1 z3 e2
  rw [g1] at z2
  cases z2
  rw [g2]
  exact ⟨fun _ _ z => z, .tup z4 (ofDT.tupK k)⟩
end

/-- a range asks nothing of the heap -/
def itP (it : I) (P : Addr → Prop) : Addr → Prop := match it with | .rng _ => fun _ => True | _ => P
theorem itP_ok {K : PySem.W.Frag} {it : I} {P : Addr → Prop} {J : It} {H : Hp} {ds : List PyData} (h : ItOk K (itP it P) J H ds) : ItOk K P J H ds := by
  cases it with
  | rng es => exact fun i P' H2 x => h i P' H2 ⟨fun a o _ n => absurd trivial n, x.tups, fun a _ => .inl trivial⟩
  | _ => exact h
section
variable (K : PySem.W.Frag) (Φ : Nat → List PyData → Option (PyData × List PyData)) (gl : List PyData)
def tI (it : I) : TI := fun σ H R => ∃ F ρ ds ρ', EnvOk K F ρ σ H ∧ (∀ i, i ∈ alsI it → i ∈ F.A) ∧ (∀ i, i ∈ modsI it → i ∈ F.M) ∧ evi Φ gl it ρ = some (ds, ρ') ∧
  ∀ J H', EnvOk K F ρ' σ H' → Keep (Wr σ F.M) H H' → ItOk K (itP it F.P) J H' ds → R J H'
end
def PIv (X : Cx) (Φ : Nat → List PyData → Option (PyData × List PyData)) (gl : List PyData) (tg p : Expr) (it : I) : Prop := PI X tg p (tI X.K Φ gl it)
theorem _root_.L2.PI.imp {X : Cx} {tg p : Expr} {t t' : TI} (h : PI X tg p t) (i : ∀ σ H Q, t' σ H Q → t σ H Q) : PI X tg p t' := ⟨fun pins s σ H Q I w => h.run pins s σ H Q I (i σ H Q w)⟩
theorem _root_.L2.PI.or {X : Cx} {tg p : Expr} {t t' : TI} (h : PI X tg p t) (h' : PI X tg p t') : PI X tg p (fun σ H R => t σ H R ∨ t' σ H R) := ⟨fun pins s σ H Q I w => w.elim (h.run pins s σ H Q I) (h'.run pins s σ H Q I)⟩
section
variable {X : Cx} {Φ : Nat → List PyData → Option (PyData × List PyData)} {gl : List PyData} {tg a b c : Expr} {ea eb ec : E} {pos p : Pos}
theorem i_seq (ha : PEv X Φ gl a ea) : PIv X Φ gl tg a (.seq ea) :=
  (((pi_list ha).or (pi_tup ha)).or (pi_str ha)).imp fun σ H R ⟨F, ρ, ds, ρ', en, sa, sm, h, q⟩ => by
    simp only [evi] at h
    obtain ⟨⟨x, fx, ρ1⟩, h1, h⟩ := bind_some h
    obtain ⟨ds', h2, h⟩ := bind_some h
    cases h
    cases x with
    | str s =>
      cases h2
      refine .inr (one en sa sm h1 fun v H1 en1 k1 r1 => ?_)
      cases r1.rp
      exact ⟨s, rfl, q _ _ en1 k1 it_str⟩
    | tuple xs =>
      cases h2
      refine .inl (.inr (one en sa sm h1 fun v H1 en1 k1 r1 => ?_))
      cases r1.rp with
      | tup hh ra => exact ⟨_, rfl, ⟨_, .inl (.inl hh)⟩, q _ _ en1 k1 (it_tup (fun H2 k => .inl (.inl (k _ _ hh))) ra)⟩
    | list xs =>
      cases h2
      refine .inl (.inl (one en sa sm h1 fun v H1 en1 k1 r1 => ?_))
      cases r1.rp with
      | lst n hh ra => exact ⟨_, rfl, ⟨_, .inl (.inl hh)⟩, q _ _ en1 k1 (it_list n hh ra)⟩
    | _ => simp [itemsD] at h2
theorem rp_ints {K : PySem.W.Frag} {H : Hp} {P : Addr → Prop} {v : V} {i : Int} (r : Rp K H P v (.int i)) : v = .int i := by cases r; rfl
theorem i_rng1 (hg : Gl X "range") (hm : X.mg "range" = none) (ha : PEv X Φ gl a ea) (hio : isIo ea = false := by rfl) (hs : starEach [a] X.env = [(false, eval a X.env)] := by rfl) : PIv X Φ gl tg (.Call (.Name "range" p) [a] [] pos) (.rng (.cons ea .nil)) :=
  (pi_range1 hg hm (a_cons ha a_nil hio (by rw [hs]; rfl)) hs).imp fun σ H R ⟨F, ρ, ds, ρ', en, sa, sm, h, q⟩ => by
    simp only [evi] at h
    obtain ⟨⟨xs, ρ1⟩, h1, h⟩ := bind_some h
    obtain ⟨ds', h2, h⟩ := bind_some h
    cases h
    have h1' := h1
    simp only [evs] at h1'
    obtain ⟨⟨x, fx, ρ2⟩, g1, g⟩ := bind_some h1'
    cases g
    refine ⟨F, ρ, [x], _, en, sa, sm, h1, fun vs H1 en1 k1 r1 => ?_⟩
    have hr := r1.rp (by simp [noIo, hio])
    cases x <;> simp only [rngD] at h2 <;> first | (cases h2; done) | skip
    split at h2
    · rename_i hb
      cases h2
      cases hr with
      | cons r rs =>
        cases rs
        rw [rp_ints r]
        unfold rngOk at hb
        simp only [Bool.and_eq_true, decide_eq_true_eq] at hb
        exact ⟨_, rfl, hb.1.2, hb.2, q _ _ en1 k1 it_rng⟩
    · cases h2
theorem i_rng2 (hg : Gl X "range") (hm : X.mg "range" = none) (ha : PEv X Φ gl a ea) (hb : PEv X Φ gl b eb) (hio : isIo ea = false := by rfl) (hio2 : isIo eb = false := by rfl)
    (hs : starEach [a, b] X.env = [(false, eval a X.env), (false, eval b X.env)] := by rfl) (hs2 : starEach [b] X.env = [(false, eval b X.env)] := by rfl) : PIv X Φ gl tg (.Call (.Name "range" p) [a, b] [] pos) (.rng (.cons ea (.cons eb .nil))) :=
  (pi_range2 hg hm (a_cons ha (a_cons hb a_nil hio2 (by rw [hs2]; rfl)) hio (by rw [hs, hs2])) hs hs2).imp fun σ H R ⟨F, ρ, ds, ρ', en, sa, sm, h, q⟩ => by
    simp only [evi] at h
    obtain ⟨⟨xs, ρ1⟩, h1, h⟩ := bind_some h
    obtain ⟨ds', h2, h⟩ := bind_some h
    cases h
    have h1' := h1
    simp only [evs] at h1'
    obtain ⟨⟨x, fx, ρ2⟩, g1, g⟩ := bind_some h1'
    obtain ⟨⟨ys, ρ3⟩, g2, g⟩ := bind_some g
    cases g
    obtain ⟨⟨y, fy, ρ4⟩, g3, g2⟩ := bind_some g2
    cases g2
    refine ⟨F, ρ, [x, y], _, en, sa, sm, h1, fun vs H1 en1 k1 r1 => ?_⟩
    have hr := r1.rp (by simp [noIo, hio, hio2])
    cases x <;> cases y <;> simp only [rngD] at h2 <;> first | (cases h2; done) | skip
    split at h2
    · rename_i hb
      cases h2
      cases hr with
      | cons r rs =>
        cases rs with
        | cons r2 rs =>
          cases rs
          rw [rp_ints r, rp_ints r2]
          unfold rngOk at hb
          simp only [Bool.and_eq_true, decide_eq_true_eq] at hb
          exact ⟨_, _, rfl, ⟨hb.1.1.1, hb.1.1.2, hb.1.2, hb.2⟩, q _ _ en1 k1 it_rng⟩
    · cases h2
theorem i_rng3 (hg : Gl X "range") (hm : X.mg "range" = none) (ha : PEv X Φ gl a ea) (hb : PEv X Φ gl b eb) (hc : PEv X Φ gl c ec) (hio : isIo ea = false := by rfl) (hio2 : isIo eb = false := by rfl) (hio3 : isIo ec = false := by rfl)
    (hs : starEach [a, b, c] X.env = (false, eval a X.env) :: starEach [b, c] X.env := by rfl) (hs2 : starEach [b, c] X.env = (false, eval b X.env) :: starEach [c] X.env := by rfl) (hs3 : starEach [c] X.env = (false, eval c X.env) :: starEach [] X.env := by rfl) (hpl : (backTo pos (starEach [b, c] X.env)).any (·.1) = false := by rfl) : PIv X Φ gl tg (.Call (.Name "range" p) [a, b, c] [] pos) (.rng (.cons ea (.cons eb (.cons ec .nil)))) :=
  (pi_range3 hg hm (a_cons ha (a_cons hb (a_cons hc a_nil hio3 hs3) hio2 hs2) hio hs) hs hpl).imp fun σ H R ⟨F, ρ, ds, ρ', en, sa, sm, h, q⟩ => by
    simp only [evi] at h
    obtain ⟨⟨xs, ρ1⟩, h1, h⟩ := bind_some h
    obtain ⟨ds', h2, h⟩ := bind_some h
    cases h
    have h1' := h1
    simp only [evs] at h1'
    obtain ⟨⟨x, fx, ρ2⟩, g1, g⟩ := bind_some h1'
    obtain ⟨⟨ys, ρ3⟩, g2, g⟩ := bind_some g
    cases g
    obtain ⟨⟨y, fy, ρ4⟩, g3, g2⟩ := bind_some g2
    obtain ⟨⟨zs, ρ5⟩, g4, g2⟩ := bind_some g2
    cases g2
    obtain ⟨⟨z, fz, ρ6⟩, g5, g4⟩ := bind_some g4
    cases g4
    refine ⟨F, ρ, [x, y, z], _, en, sa, sm, h1, fun vs H1 en1 k1 r1 => ?_⟩
    have hr := r1.rp (by simp [noIo, hio, hio2, hio3])
    cases x <;> cases y <;> cases z <;> simp only [rngD] at h2 <;> first | (cases h2; done) | skip
    split at h2
    · rename_i hb
      cases h2
      cases hr with
      | cons r rs =>
        cases rs with
        | cons r2 rs =>
          cases rs with
          | cons r3 rs =>
            cases rs
            rw [rp_ints r, rp_ints r2, rp_ints r3]
            unfold rngOk at hb
            simp only [Bool.and_eq_true, decide_eq_true_eq] at hb
            obtain ⟨⟨⟨⟨b1, b2⟩, b3⟩, b4⟩, b5⟩ := hb
            subst b5
            exact ⟨_, _, _, _, rfl, RgC.neg b1 b2 b3 b4, q _ _ en1 k1 it_rngC⟩
    · cases h2
theorem i_zip {elts : List Expr} {kk : Nat} {tpos : Pos} (hg : Gl X "zip") (hm : X.mg "zip" = none) (ha : PEv X Φ gl a ea) (hb : PEv X Φ gl b eb) (hio : isIo ea = false := by rfl) (hio2 : isIo eb = false := by rfl)
    (hs : starEach [a, b] X.env = (false, eval a X.env) :: starEach [b] X.env := by rfl) (hs2 : starEach [b] X.env = (false, eval b X.env) :: starEach [] X.env := by rfl) (hpl : (backTo pos (starEach [b] X.env)).any (·.1) = false := by rfl) : PIv X Φ gl (.Tuple elts kk tpos) (.Call (.Name "zip" p) [a, b] [] pos) (.zip ea eb) :=
  (pi_zipA hg hm (a_cons ha (a_cons hb a_nil hio2 hs2) hio hs) hs hpl).imp fun σ H R ⟨F, ρ, ds, ρ', en, sa, sm, h, q⟩ => by
    simp only [evi] at h
    obtain ⟨⟨x, fx, ρ1⟩, h1, h⟩ := bind_some h
    obtain ⟨⟨y, fy, ρ2⟩, h2, h⟩ := bind_some h
    have ev2 : evs Φ gl (.cons ea (.cons eb .nil)) ρ = some ([x, y], ρ2) := by
      simp only [evs, h1, h2, Option.bind_eq_bind, Option.bind_some, Option.pure_def]
    refine ⟨F, ρ, [x, y], ρ2, en, by simpa [alss, alsI] using sa, by simpa [modss, modsI] using sm, ev2, fun vs H1 en1 k1 r1 => ?_⟩
    have hr := r1.rp (by simp [noIo, hio, hio2])
    cases hr with
    | cons r rs =>
      cases rs with
      | cons r2 rs =>
        cases rs
        cases r with
        | lst n1 g1 ra =>
          cases r2 with
          | lst n2 g2 rb =>
            cases h
            exact ⟨_, _, _, _, rfl, .inl ⟨.inl (.inl g1), .inl (.inl g2), q _ _ en1 k1 (it_zip n1 g1 ra n2 g2 rb)⟩⟩
          | _ => cases h
        | tup g1 ra =>
          cases r2 with
          | tup g2 rb =>
            cases h
            exact ⟨_, _, _, _, rfl, .inr ⟨.inl (.inl g1), .inl (.inl g2), q _ _ en1 k1 (it_zipT g1 ra g2 rb)⟩⟩
          | _ => cases h
        | _ => cases h
theorem i_enum {elts : List Expr} {kk : Nat} {tpos : Pos} (hg : Gl X "enumerate") (hm : X.mg "enumerate" = none) (ha : PEv X Φ gl a ea) (hio : isIo ea = false := by rfl) (hs : starEach [a] X.env = [(false, eval a X.env)] := by rfl) : PIv X Φ gl (.Tuple elts kk tpos) (.Call (.Name "enumerate" p) [a] [] pos) (.enum ea) :=
  (pi_enum hg hm (a_cons ha a_nil hio (by rw [hs]; rfl)) hs).imp fun σ H R ⟨F, ρ, ds, ρ', en, sa, sm, h, q⟩ => by
    simp only [evi] at h
    obtain ⟨⟨x, fx, ρ1⟩, h1, h⟩ := bind_some h
    have ev2 : evs Φ gl (.cons ea .nil) ρ = some ([x], ρ1) := by
      simp only [evs, h1, Option.bind_eq_bind, Option.bind_some, Option.pure_def]
    refine ⟨F, ρ, [x], ρ1, en, by simpa [alss, alsI] using sa, by simpa [modss, modsI] using sm, ev2, fun vs H1 en1 k1 r1 => ?_⟩
    have hr := r1.rp (by simp [noIo, hio])
    cases hr with
    | cons r rs =>
      cases rs
      cases r with
      | lst n1 g1 ra =>
        cases h
        exact ⟨_, _, rfl, .inl (.inl g1), q _ _ en1 k1 (it_enum n1 g1 ra)⟩
      | _ => cases h
end
end PP

/-! PP9: comprehensions. -/
namespace PP
open PySem PySem.Spec PyProof.Rows L2 RZ

theorem wipeP_out {ρ : PEnv} {i : Nat} : ∀ {vs : List Nat}, i ∉ vs → (wipeP ρ vs)[i]? = ρ[i]?
  | [], _ => rfl
  | v :: vs, h => by
    unfold wipeP
    rw [List.getElem?_set_ne fun z => h (by rw [z]; exact List.mem_cons_self ..)]
    exact wipeP_out fun z => h (List.mem_cons_of_mem _ z)
theorem wipeP_len (ρ : PEnv) : ∀ vs : List Nat, (wipeP ρ vs).length = ρ.length
  | [] => rfl
  | v :: vs => by unfold wipeP; rw [List.length_set, wipeP_len ρ vs]
theorem wipeP_some {ρ : PEnv} {i : Nat} {s : Sl} : ∀ {vs : List Nat}, (wipeP ρ vs)[i]? = some s → s ≠ .no → ρ[i]? = some s ∧ i ∉ vs
  | [], h, _ => ⟨h, by simp⟩
  | v :: vs, h, n => by
    unfold wipeP at h
    by_cases hi : v = i
    · subst hi
      by_cases hv : v < (wipeP ρ vs).length
      · rw [List.getElem?_set_self hv] at h
        cases h
        exact absurd rfl n
      · rw [List.getElem?_eq_none (by rw [List.length_set]; omega)] at h
        cases h
    · rw [List.getElem?_set_ne hi] at h
      obtain ⟨h1, h2⟩ := wipeP_some h n
      exact ⟨h1, fun z => (List.mem_cons.mp z).elim (fun z => hi z.symm) h2⟩
theorem wipe_off {σ : L2.St} {i : Nat} : ∀ {vs : List Nat}, i ∉ vs → (wipe σ vs)[i]? = σ[i]?
  | [], _ => rfl
  | v :: vs, h => by
    unfold wipe
    rw [List.getElem?_set_ne fun z => h (by rw [z]; exact List.mem_cons_self ..)]
    exact wipe_off fun z => h (List.mem_cons_of_mem _ z)
theorem wipe_on {σ : L2.St} {i : Nat} : ∀ {vs : List Nat}, i ∈ vs → i < σ.length → (wipe σ vs)[i]? = some none
  | v :: vs, h, hl => by
    unfold wipe
    by_cases hi : v = i
    · subst hi
      rw [List.getElem?_set_self (by rw [wipe_length]; exact hl)]
    · rw [List.getElem?_set_ne hi]
      exact wipe_on ((List.mem_cons.mp h).resolve_left fun z => hi z.symm) hl
theorem wipe_eq {σ τ : L2.St} {vs : List Nat} (hl : σ.length = τ.length) (h : ∀ i, i ∉ vs → σ[i]? = τ[i]?) : wipe σ vs = wipe τ vs := by
  apply List.ext_getElem?
  intro i
  by_cases hi : i ∈ vs
  · by_cases hb : i < σ.length
    · rw [wipe_on hi hb, wipe_on hi (by omega)]
    · rw [List.getElem?_eq_none (by rw [wipe_length]; omega), List.getElem?_eq_none (by rw [wipe_length]; omega)]
  · rw [wipe_off hi, wipe_off hi, h i hi]
theorem wipe_wipe {σ : L2.St} {vs ws : List Nat} (h : ∀ i, i ∈ ws → i ∈ vs) : wipe (wipe σ ws) vs = wipe σ vs := wipe_eq (wipe_length ..) fun i hi => wipe_off fun z => hi (h i z)
theorem backP_len (ρ ρ' : PEnv) : ∀ vs : List Nat, (backP ρ ρ' vs).length = ρ'.length
  | [] => rfl
  | v :: vs => by
    unfold backP
    split
    · rw [List.length_set, backP_len ρ ρ' vs]
    · exact backP_len ρ ρ' vs
theorem backP_out {ρ ρ' : PEnv} {i : Nat} : ∀ {vs : List Nat}, i ∉ vs → (backP ρ ρ' vs)[i]? = ρ'[i]?
  | [], _ => rfl
  | v :: vs, h => by
    unfold backP
    split
    · rw [List.getElem?_set_ne fun z => h (by rw [z]; exact List.mem_cons_self ..)]
      exact backP_out fun z => h (List.mem_cons_of_mem _ z)
    · exact backP_out fun z => h (List.mem_cons_of_mem _ z)
theorem backP_in {ρ ρ' : PEnv} {i : Nat} (hl : ρ.length = ρ'.length) : ∀ {vs : List Nat}, i ∈ vs → (backP ρ ρ' vs)[i]? = ρ[i]?
  | v :: vs, h => by
    unfold backP
    by_cases hi : v = i
    · subst hi
      split
      · rename_i x e
        have : v < ρ.length := (List.getElem?_eq_some_iff.mp e).1
        rw [List.getElem?_set_self (by rw [backP_len]; omega), e]
      · rename_i e
        have := List.getElem?_eq_none_iff.mp e
        rw [e, List.getElem?_eq_none (by rw [backP_len]; omega)]
    · have h' := (List.mem_cons.mp h).resolve_left fun z => hi z.symm
      split
      · rw [List.getElem?_set_ne hi]
        exact backP_in hl h'
      · exact backP_in hl h'
theorem noOwn_ok {ρ : PEnv} {vs : List Nat} (h : noOwn ρ vs = true) {i : Nat} {d : PyData} (hi : i ∈ vs) : ρ[i]? ≠ some (.ow d) := fun e => by
  have := List.all_eq_true.mp h i hi
  rw [e] at this
  cases this
section
variable {K : PySem.W.Frag} {F : Fr} {ρ ρ' : PEnv} {σ : L2.St} {H H' : Hp}
/-- hidden things change -/
theorem EnvOk.move (en : EnvOk K F ρ σ H) (x : Ext F.P F.P H H') (ho : ∀ i a o, i ∈ F.O → σ[i]? = some (some (V.ref a)) → H a = some o → H' a = some o) (ht : ∀ a, F.P a → ∃ u, H' a = some u) : EnvOk K F ρ σ H' where
  adr := en.adr
  inj := en.inj
  zp := en.zp
  mo := en.mo
  shape := en.shape
  ow := fun i d e => let ⟨h, a, e2, o⟩ := en.ow i d e; ⟨h, a, e2, o.ext x fun u z => ho i a u h e2 z⟩
  fz := fun i d e => let ⟨v, e2, r⟩ := en.fz i d e; ⟨v, e2, r.ext x⟩
  there := ht
  nd := en.nd
  len := en.len
/-- slots forgotten, none of them one's own -/
theorem EnvOk.wipe (en : EnvOk K F ρ σ H) {vs : List Nat} (h : ∀ i, i ∈ vs → i ∉ F.O) : EnvOk K F (wipeP ρ vs) (L2.wipe σ vs) H := by
  have off : ∀ i, i ∈ F.O → (L2.wipe σ vs)[i]? = σ[i]? := fun i hi => wipe_off fun z => h i z hi
  refine ⟨fun i hi => by rw [off i hi]; exact en.adr i hi, fun i j a hi hj e1 e2 => en.inj i j a hi hj (by rw [← off i hi]; exact e1) (by rw [← off j hj]; exact e2), en.zp, en.mo, fun i hi => ?_, fun i d e => ?_, fun i d e => ?_, en.there, fun hk i d hi e => ?_, by rw [wipeP_len, wipe_length]; exact en.len⟩
  · rw [wipeP_out fun z => h i z hi]
    exact en.shape i hi
  · obtain ⟨e1, e2⟩ := wipeP_some e (by simp)
    rw [wipe_off e2]
    exact en.ow i d e1
  · obtain ⟨e1, e2⟩ := wipeP_some e (by simp)
    rw [wipe_off e2]
    exact en.fz i d e1
  · exact en.nd hk i d hi (wipeP_some e (by simp)).1
theorem EnvOk.unwipe {vs : List Nat} (en : EnvOk K F ρ (L2.wipe σ vs) H) : EnvOk K F ρ σ H := by
  have same : ∀ i a, i ∈ F.O → σ[i]? = some (some (V.ref a)) → (L2.wipe σ vs)[i]? = some (some (V.ref a)) := fun i a hi e => by
    obtain ⟨b, e2, _⟩ := en.adr i hi
    have := (wipe_some e2).1
    rw [e] at this; cases this
    exact e2
  refine ⟨fun i hi => let ⟨a, e, r⟩ := en.adr i hi; ⟨a, (wipe_some e).1, r⟩, fun i j a hi hj e1 e2 => en.inj i j a hi hj (same i a hi e1) (same j a hj e2), en.zp, en.mo, en.shape, fun i d e => let ⟨h, a, e2, o⟩ := en.ow i d e; ⟨h, a, (wipe_some e2).1, o⟩, fun i d e => let ⟨v, e2, r⟩ := en.fz i d e; ⟨v, (wipe_some e2).1, r⟩, en.there, en.nd, by rw [en.len, wipe_length]⟩
end
mutual
theorem asg_len : ∀ {g : G} {d : PyData} {ρ ρ' : PEnv}, asgG g d ρ = some ρ' → ρ'.length = ρ.length
  | .nm i, d, ρ, ρ', e => by
    simp only [asgG] at e
    split at e
    · cases e; rw [List.length_set]
    · cases e
  | .tp gs, d, ρ, ρ', e => by
    cases d with
    | tuple ds =>
      simp only [asgG] at e
      exact asgs_len e
    | _ => simp [asgG] at e
theorem asgs_len : ∀ {gs : List G} {ds : List PyData} {ρ ρ' : PEnv}, asgGs gs ds ρ = some ρ' → ρ'.length = ρ.length
  | [], [], ρ, ρ', e => by simp only [asgGs, Option.some.injEq] at e; rw [e]
  | g :: gs, d :: ds, ρ, ρ', e => by
    simp only [asgGs] at e
    obtain ⟨ρ1, h1, h2⟩ := bind_some e
    rw [asgs_len h2, asg_len h1]
  | [], _ :: _, _, _, e => by simp [asgGs] at e
  | _ :: _, [], _, _, e => by simp [asgGs] at e
end
/-- within a comprehension: D the list so far, W what may change, Hb the heap at some earlier point -/
structure CSt (K : PySem.W.Frag) (F : Fr) (W : Addr → Prop) (D : Addr) (Hb : Hp) (acc : List PyData) (ρ : PEnv) (σ : L2.St) (H : Hp) : Prop where
  env : EnvOk K F ρ σ H
  lst : ∃ xs, H D = some (.lst xs) ∧ RpAll K H F.P xs acc
  keep : Keep W Hb H
  wr : ∀ a, Wr σ F.M a → W a
  nD : ∀ i, i ∈ F.O → σ[i]? ≠ some (some (V.ref D))
structure CCtx (F : Fr) (W : Addr → Prop) (D : Addr) : Prop where
  wp : ∀ a, W a → F.P a
  wD : W D
section
variable {K : PySem.W.Frag} {Φ : Nat → List PyData → Option (PyData × List PyData)} {gl : List PyData} {F : Fr} {W : Addr → Prop} {D : Addr} {Hb H H' Hs : Hp} {acc acc' accF : List PyData} {ρ ρ' ρs ρE : PEnv} {σ σ' σs : L2.St}
theorem CSt.step (C : CCtx F W D) (s : CSt K F W D Hb acc ρ σ H) (en : EnvOk K F ρ' σ' H') (hσ : ∀ i, i ∈ F.O → σ'[i]? = σ[i]?) (k : Keep (Wr σ F.M) H H') : CSt K F W D Hb acc ρ' σ' H' := by
  obtain ⟨xs, h1, h2⟩ := s.lst
  have nw : ¬ Wr σ F.M D := fun ⟨i, hi, e⟩ => s.nD i (s.env.mo i hi).1 e
  exact ⟨en, ⟨xs, k.keep D _ h1 nw, h2.ext (k.ext fun a z => C.wp a (s.wr a z))⟩, s.keep.trans (k.weak s.wr), fun a ⟨i, hi, e⟩ => s.wr a ⟨i, hi, by rw [← hσ i (s.env.mo i hi).1]; exact e⟩, fun i hi e => s.nD i hi (by rw [← hσ i hi]; exact e)⟩
/-- an item more -/
theorem CSt.push (C : CCtx F W D) (s : CSt K F W D Hb acc ρ σ H) {v : V} {d : PyData} (r : Rp K H F.P v d) {xs : List V} (hx : H D = some (.lst xs)) : CSt K F W D Hb (acc ++ [d]) ρ σ (upd H D (.lst (xs ++ [v]))) := by
  obtain ⟨xs', h1, h2⟩ := s.lst
  rw [hx] at h1
  cases h1
  have nt : ∀ a zs, H a = some (.tup zs) → a ≠ D := fun a zs e z => by rw [z, hx] at e; cases e
  have x : Ext F.P F.P H (upd H D (.lst (xs ++ [v]))) := ⟨fun a o e n => by rw [upd_ne fun z => n (by rw [z]; exact C.wp D C.wD)]; exact e, fun a zs e => by rw [upd_ne (nt a zs e)]; exact e, fun _ z => .inl z⟩
  have ht : ∀ a, (∃ u, H a = some u) → ∃ u, upd H D (.lst (xs ++ [v])) a = some u := fun a ⟨u, hu⟩ => by
    by_cases z : a = D
    · subst z; exact ⟨_, upd_same⟩
    · exact ⟨u, by rw [upd_ne z]; exact hu⟩
  refine ⟨s.env.move x (fun i a o hi e hu => by rw [upd_ne fun z => s.nD i hi (by rw [← z]; exact e)]; exact hu) (fun a z => ht a (s.env.there a z)), ⟨_, upd_same, (h2.append (.cons r .nil)).ext x⟩, s.keep.trans ⟨fun a o e n => by rw [upd_ne fun z => n (by rw [z]; exact C.wD)]; exact e, fun a zs e => by rw [upd_ne (nt a zs e)]; exact e, fun a e => ?_⟩, s.wr, s.nD⟩
  cases e2 : H a with
  | none => rfl
  | some u =>
    obtain ⟨u', h'⟩ := ht a ⟨u, e2⟩
    rw [h'] at e; cases e
theorem loop2 {vs : List Nat} {g : G} {c : E} {inner : List PyData → PEnv → Option (List PyData × PEnv)} {J : It} {Body : L2.St → Hp → (Hp → Prop) → Prop} {Out : Hp → Prop} (C : CCtx F W D) (hvs : ∀ i, i ∈ vs → i ∉ F.O) (hg : ∀ i, i ∈ gv g → i ∈ vs) (sa : ∀ i, i ∈ als c → i ∈ F.A) (sm : ∀ i, i ∈ mods c → i ∈ F.M)
    {ds : List PyData} (it : ItOk K F.P J Hs ds) (run : compL2 (asgG g) (fun ρ => ev Φ gl c ρ) inner vs ds acc ρs = some (accF, ρE)) (st : CSt K F W D Hs acc ρs (wipe σs vs) Hs)
    (hin : ∀ acc ρ acc' ρ' σ H (Nx : Hp → Prop), inner acc ρ = some (acc', ρ') → wipe σ vs = wipe σs vs → CSt K F W D H acc ρ σ H → (∀ H', CSt K F W D H acc' ρ' σ H' → Nx H') → Body σ H Nx)
    (hout : ∀ H, CSt K F W D Hs accF ρE (wipe σs vs) H → Out H) :
    ∃ Wi : Nat → Nat → Hp → Prop, (∃ m, Wi 0 m Hs) ∧ ∀ i m H, Wi i m H → (J.stop i H ∧ Out H) ∨ (J.go i H ∧ ∃ Nx : Hp → Prop, (∀ H', Nx H' → ∃ m', m' < m ∧ Wi (i + 1) m' H') ∧ ∀ x H', J.yld i H x H' →
      tG K g x (wipe σs vs) H' fun σ2 H2 => wipe σ2 vs = wipe σs vs ∧ tT K Φ gl c σ2 H2 fun b H3 => if b = true then Body σ2 H3 Nx else Nx H3) := by
  refine ⟨fun i m H => m = ds.length - i ∧ i ≤ ds.length ∧ ∃ acc ρ, compL2 (asgG g) (fun ρ => ev Φ gl c ρ) inner vs (ds.drop i) acc ρ = some (accF, ρE) ∧ CSt K F W D Hs acc ρ (wipe σs vs) H, ⟨ds.length, by simp, Nat.zero_le _, acc, ρs, by simpa using run, st⟩, ?_⟩
  rintro i m H ⟨rfl, hi, acc, ρ, hrun, s⟩
  have x : Ext F.P F.P Hs H := s.keep.ext C.wp
  obtain ⟨hstop, hgo⟩ := it i F.P H x
  by_cases hlt : i < ds.length
  · have hd : ds[i]? = some ds[i] := by simp [hlt]
    obtain ⟨go, yl⟩ := hgo _ hd
    rw [List.drop_eq_getElem_cons hlt] at hrun
    simp only [compL2] at hrun
    obtain ⟨ρ1, e1, hrun⟩ := bind_some hrun
    obtain ⟨⟨b, fb, ρ2⟩, e2, hrun⟩ := bind_some hrun
    have hgo2 : ∀ i, i ∈ gv g → i ∉ F.O := fun i z => hvs i (hg i z)
    refine .inr ⟨go, fun H' => ∃ acc ρ, compL2 (asgG g) (fun ρ => ev Φ gl c ρ) inner vs (ds.drop (i + 1)) acc ρ = some (accF, ρE) ∧ CSt K F W D Hs acc ρ (wipe σs vs) H', fun H' ⟨acc', ρ', q1, q2⟩ => ⟨ds.length - (i + 1), by omega, rfl, hlt, acc', ρ', q1, q2⟩, fun v H1 hy => ?_⟩
    obtain ⟨g1, r1⟩ := yl v H1 hy
    have s1 : CSt K F W D Hs acc ρ (wipe σs vs) H1 := s.step C (s.env.grow g1) (fun _ _ => rfl) (.of g1)
    refine ⟨F, ρ, ds[i], ρ1, s1.env, fun j hj z => hgo2 j hj (s1.env.mo j z).1, r1, e1, fun σ2 en2 k2 => ?_⟩
    rw [Fr.less_off F hgo2] at en2
    have eqO : ∀ j, j ∈ F.O → σ2[j]? = (wipe σs vs)[j]? := fun j hj => k2 j fun z => hgo2 j z hj
    have s2 : CSt K F W D Hs acc ρ1 σ2 H1 := s1.step C en2 eqO .refl
    have ew : wipe σ2 vs = wipe σs vs := by
      rw [← wipe_wipe (σ := σs) (vs := vs) (ws := vs) fun _ z => z]
      exact wipe_eq (by rw [← en2.len, ← s1.env.len]; exact asg_len e1) fun j hj => k2 j fun z => hj (hg j z)
    refine ⟨ew, ?_⟩
    have back : ∀ {acc' ρ' H'}, CSt K F W D Hs acc' ρ' σ2 H' → CSt K F W D Hs acc' (wipeP ρ' vs) (wipe σs vs) H' := fun {acc' ρ' H'} s' => by
      have := s'.env.wipe hvs
      rw [ew] at this
      exact s'.step C this (fun j hj => by rw [← eqO j hj]) .refl
    cases b with
    | bool b =>
      refine ⟨F, ρ1, b, fb, ρ2, en2, sa, sm, e2, fun H3 en3 k3 => ?_⟩
      have s3 : CSt K F W D Hs acc ρ2 σ2 H3 := s2.step C en3 (fun _ _ => rfl) k3
      cases b with
      | false =>
        simp only [Bool.false_eq_true, if_false]
        exact ⟨acc, _, hrun, back s3⟩
      | true =>
        simp only [if_true]
        dsimp only at hrun
        obtain ⟨⟨acc4, ρ4⟩, e4, hrun⟩ := bind_some hrun
        refine hin acc ρ2 acc4 ρ4 σ2 H3 _ e4 ew ⟨s3.env, s3.lst, .refl, s3.wr, s3.nD⟩ fun H4 s4 => ⟨acc4, _, hrun, back ⟨s4.env, s4.lst, s3.keep.trans s4.keep, s4.wr, s4.nD⟩⟩
    | _ => simp at hrun
  · have hl : ds.length = i := by omega
    rw [List.drop_eq_nil_of_le (by omega)] at hrun
    simp only [compL2, Option.some.injEq, Prod.mk.injEq] at hrun
    obtain ⟨rfl, rfl⟩ := hrun
    exact .inl ⟨hstop (by omega), hout H s⟩

/-- the element is appended -/
theorem add_body {e : E} {σ : L2.St} (C : CCtx F W D) (sa : ∀ i, i ∈ als e → i ∈ F.A) (sm : ∀ i, i ∈ mods e → i ∈ F.M) (h : addV (fun ρ => ev Φ gl e ρ) acc ρ = some (acc', ρ')) (s : CSt K F W D H acc ρ σ H) {Nx : Hp → Prop} (hN : ∀ H', CSt K F W D H acc' ρ' σ H' → Nx H') :
    tE K Φ gl e σ H fun y H4 => ∃ zs, H4 D = some (.lst zs) ∧ zs.length < sizeLine ∧ Nx (upd H4 D (.lst (zs ++ [y]))) := by
  unfold addV at h
  obtain ⟨⟨d, fd, ρ1⟩, h1, h⟩ := bind_some h
  dsimp only at h
  split at h
  · rename_i hz
    cases h
    refine one s.env sa sm h1 fun v H1 en1 k1 r1 => ?_
    have s1 := s.step C en1 (fun _ _ => rfl) k1
    obtain ⟨zs, g1, g2⟩ := s1.lst
    exact ⟨zs, g1, by rw [g2.length]; exact hz, hN _ (s1.push C r1.rp g1)⟩
  · cases h
/-- the comprehension's frame is opened and closed -/
theorem open_c {vs : List Nat} (en : EnvOk K F ρ σ H) (hn : noOwn ρ vs = true) (hD : H D = none) :
    CCtx (F.plus D) (fun a => Wr σ F.M a ∨ a = D) D ∧ CSt K (F.plus D) (fun a => Wr σ F.M a ∨ a = D) D (upd H D (.lst [])) [] (wipeP ρ vs) (wipe σ vs) (upd H D (.lst [])) ∧ ∀ i, i ∈ vs → i ∉ F.O := by
  have hv : ∀ i, i ∈ vs → i ∉ F.O := fun i hi z => by
    obtain ⟨d, e⟩ := en.shape i z
    exact noOwn_ok hn hi e
  have en' : EnvOk K (F.plus D) (wipeP ρ vs) (wipe σ vs) (upd H D (.lst [])) := (en.hide hD).wipe hv
  have off : ∀ i, i ∈ F.O → (wipe σ vs)[i]? = σ[i]? := fun i hi => wipe_off fun z => hv i z hi
  refine ⟨⟨fun a z => z.elim (fun z => .inl (en.wr z)) .inr, .inr rfl⟩, ⟨en', ⟨[], upd_same, .nil⟩, .refl, fun a ⟨i, hi, e⟩ => .inl ⟨i, hi, by rw [← off i (en.mo i hi).1]; exact e⟩, fun i hi e => ?_⟩, hv⟩
  rw [off i hi] at e
  obtain ⟨d, hd⟩ := en.shape i hi
  obtain ⟨_, b, e2, w⟩ := en.ow i d hd
  rw [e] at e2; cases e2
  obtain ⟨u, hu, _⟩ := w.there
  rw [hD] at hu; cases hu
theorem close_c {vs : List Nat} {Q : VK} (en : EnvOk K F ρ σ H) (hn : noOwn ρ vs = true) (hD : H D = none) (s : CSt K (F.plus D) (fun a => Wr σ F.M a ∨ a = D) D (upd H D (.lst [])) acc ρ' (wipe σ vs) H')
    (hQ : ∀ v H', EnvOk K F (backP ρ ρ' vs) σ H' → Keep (Wr σ F.M) H H' → Res K F (backP ρ ρ' vs) σ H H' v (.list acc) .fr → Q v H') : Q (.ref D) H' := by
  have hv : ∀ i, i ∈ vs → i ∉ F.O := fun i hi z => by
    obtain ⟨d, e⟩ := en.shape i z
    exact noOwn_ok hn hi e
  have g : ∀ b u, H b = some u → upd H D (.lst []) b = some u := fun b u z => by rw [upd_ne (ne_of_none z hD)]; exact z
  have ne : ∀ a o, H a = some o → a ≠ D := fun a o e => ne_of_none e hD
  have k : Keep (Wr σ F.M) H H' := ⟨fun a o e n => s.keep.keep a o (g a o e) fun z => z.elim n (ne a o e), fun a xs e => s.keep.tups a xs (g a _ e), fun a e => by
    cases e2 : H a with
    | none => rfl
    | some u =>
      have := s.keep.gone a e
      rw [g a u e2] at this; cases this⟩
  have ll : ρ'.length = ρ.length := by rw [s.env.len, wipe_length]; exact en.len.symm
  have x : Ext F.P F.P H H' := k.ext fun a z => en.wr z
  have dn : ¬ F.P D := fun z => by
    obtain ⟨u, e⟩ := en.there D z
    rw [hD] at e; cases e
  have less : Ext (fun b => F.P b ∨ b = D) F.P H' H' := .less fun a z => .inl z
  obtain ⟨xs, h1, h2⟩ := s.lst
  refine hQ _ _ ⟨en.adr, en.inj, en.zp, en.mo, fun i hi => ?_, fun i d e => ?_, fun i d e => ?_, fun a z => ?_, fun hk i d hi e => ?_, by rw [backP_len, ll]; exact en.len⟩ k ⟨.lst dn h1 (h2.ext less), fun _ => ⟨D, rfl, hD, .lst h1 h2, ?_⟩⟩
  · rw [backP_out fun z => hv i z hi]
    exact s.env.shape i hi
  · by_cases z : i ∈ vs
    · rw [backP_in ll.symm z] at e
      exact absurd e (noOwn_ok hn z)
    · rw [backP_out z] at e
      obtain ⟨hi, a, e2, w⟩ := s.env.ow i d e
      rw [wipe_off z] at e2
      exact ⟨hi, a, e2, w.ext less fun _ z => z⟩
  · by_cases z : i ∈ vs
    · rw [backP_in ll.symm z] at e
      obtain ⟨v, e2, r⟩ := en.fz i d e
      exact ⟨v, e2, r.ext x⟩
    · rw [backP_out z] at e
      obtain ⟨v, e2, r⟩ := s.env.fz i d e
      rw [wipe_off z] at e2
      exact ⟨v, e2, r.ext less⟩
  · obtain ⟨u, hu⟩ := en.there a z
    cases e : H' a with
    | none => rw [k.gone a e] at hu; cases hu
    | some u2 => exact ⟨u2, rfl⟩
  · by_cases z : i ∈ vs
    · rw [backP_in ll.symm z] at e
      exact absurd e (noOwn_ok hn z)
    · rw [backP_out z] at e
      exact s.env.nd hk i d hi e
  · have en5 := s.env.unwipe
    have x5 : Ext F.P (F.plus D).P H H' := ⟨fun a o e n => k.keep a o e fun z => n (en.wr z), k.tups, fun a z => z.elim .inl fun z => .inr (by rw [z]; exact hD)⟩
    refine ⟨en5.adr, en5.inj, en5.zp, en5.mo, fun i hi => ?_, fun i d e => ?_, fun i d e => ?_, en5.there, fun hk i d hi e => ?_, by rw [backP_len, ll]; exact en.len⟩
    · rw [backP_out fun z => hv i z hi]
      exact en5.shape i hi
    · by_cases z : i ∈ vs
      · rw [backP_in ll.symm z] at e
        exact absurd e (noOwn_ok hn z)
      · rw [backP_out z] at e
        exact en5.ow i d e
    · by_cases z : i ∈ vs
      · rw [backP_in ll.symm z] at e
        obtain ⟨v, e2, r⟩ := en.fz i d e
        exact ⟨v, e2, r.ext x5⟩
      · rw [backP_out z] at e
        exact en5.fz i d e
    · by_cases z : i ∈ vs
      · rw [backP_in ll.symm z] at e
        exact absurd e (noOwn_ok hn z)
      · rw [backP_out z] at e
        exact en5.nd hk i d hi e
end

/-- a clause's tests -/
def PTsv (X : Cx) (Φ : Nat → List PyData → Option (PyData × List PyData)) (gl : List PyData) (p : List Expr) (c : E) : Prop := PTs X p (tT X.K Φ gl c)
section
variable {X : Cx} {Φ : Nat → List PyData → Option (PyData × List PyData)} {gl : List PyData}
theorem c_nil : PTsv X Φ gl [] (.bl true) := ⟨fun pins s σ H Q I ⟨F, ρ, b, fl, ρ', en, sa, sm, h, q⟩ => by
  simp only [ev, Option.some.injEq, Prod.mk.injEq, PyData.bool.injEq] at h
  obtain ⟨rfl, rfl, rfl⟩ := h
  exact pts_nil.run pins s σ H Q I (q H en .refl)⟩
theorem c_one {c : Expr} {ec : E} (h : PTv X Φ gl c ec) : PTsv X Φ gl [c] ec := pts_one h

/-- the walk of a comprehension of one clause -/
theorem comp_walk {K : PySem.W.Frag} {vs : List Nat} {g : G} {c e : E} (hg : ∀ i, i ∈ gv g → i ∈ vs) {σ : L2.St} {H1 : Hp} {Q : VK} {F : Fr} {ρ1 ρ2 : PEnv} {J : It} {ds acc : List PyData} (en1 : EnvOk K F ρ1 σ H1) (hn : noOwn ρ1 vs = true) (ok : ItOk K F.P J H1 ds) (sa : ∀ i, i ∈ als c ++ als e → i ∈ F.A) (sm : ∀ i, i ∈ mods c ++ mods e → i ∈ F.M)
    (h2 : compL (asgG g) (fun ρ => ev Φ gl c ρ) (fun ρ => ev Φ gl e ρ) vs ds [] (wipeP ρ1 vs) = some (acc, ρ2))
    (hQ : ∀ v H', EnvOk K F (backP ρ1 ρ2 vs) σ H' → Keep (Wr σ F.M) H1 H' → Res K F (backP ρ1 ρ2 vs) σ H1 H' v (.list acc) .fr → Q v H') : ∀ D, H1 D = none → ∃ W : Nat → Nat → Hp → Prop, (∃ m, W 0 m (upd H1 D (.lst []))) ∧ ∀ i m H, W i m H →
  (J.stop i H ∧ Q (.ref D) H) ∨ (J.go i H ∧ ∃ Nx : Hp → Prop, (∀ H', Nx H' → ∃ m', m' < m ∧ W (i + 1) m' H') ∧ ∀ x H', J.yld i H x H' → tG K g x (wipe σ vs) H' fun σ2 H2 => wipe σ2 vs = wipe σ vs ∧ tT K Φ gl c σ2 H2 fun b H3 =>
    if b = true then tE K Φ gl e σ2 H3 fun y H4 => ∃ acc, H4 D = some (.lst acc) ∧ acc.length < sizeLine ∧ Nx (upd H4 D (.lst (acc ++ [y]))) else Nx H3) := fun D hD => by
  obtain ⟨C, s0, hv⟩ := open_c en1 hn hD
  have ok' : ItOk K (fun b => F.P b ∨ b = D) J (upd H1 D (.lst [])) ds := fun i P' H2 x => ok i P' H2 ⟨fun a o e n => x.keep a o (by rw [upd_ne (ne_of_none e hD)]; exact e) fun z => z.elim n (ne_of_none e hD), fun a xs e => x.tups a xs (by rw [upd_ne (ne_of_none e hD)]; exact e), fun a z => by
    rcases x.sub a z with (z | z) | z
    · exact .inl z
    · exact .inr (by rw [z]; exact hD)
    · by_cases ed : a = D
      · exact .inr (by rw [ed]; exact hD)
      · exact .inr (by rw [upd_ne ed] at z; exact z)⟩
  exact loop2 C hv hg (fun i z => sa i (by simp [z])) (fun i z => sm i (by simp [z])) ok' h2 s0 (fun acc ρ acc' ρ' σ H Nx hi _ s hN => add_body C (fun i z => sa i (by simp [z])) (fun i z => sm i (by simp [z])) hi s hN) fun H' s' => close_c en1 hn hD s' hQ
/-- [elt for tg in iter if ..] -/
theorem comp_core {K : PySem.W.Frag} {vs : List Nat} {g : G} {it : I} {c e : E} (hg : ∀ i, i ∈ gv g → i ∈ vs) {σ : L2.St} {H : Hp} {Q : VK} (w : tE K Φ gl (.comp vs g it c e) σ H Q) : tLc (tI K Φ gl it) (tG K g) (tT K Φ gl c) (tE K Φ gl e) vs σ H Q := by
  obtain ⟨F, ρ, d, fl, ρ', en, sa, sm, h, q⟩ := w
  simp only [ev] at h
  obtain ⟨⟨ds, ρ1⟩, h1, h⟩ := bind_some h
  dsimp only at h
  split at h
  · rename_i hn
    obtain ⟨⟨acc, ρ2⟩, h2, h⟩ := bind_some h
    cases h
    have sa : ∀ i, i ∈ alsI it ++ (als c ++ als e) → i ∈ F.A := by simpa [als] using sa
    have sm : ∀ i, i ∈ modsI it ++ (mods c ++ mods e) → i ∈ F.M := by simpa [mods] using sm
    exact ⟨F, ρ, ds, ρ1, en, fun i z => sa i (by simp [z]), fun i z => sm i (by simp [z]), h1, fun J H1 en1 k1 ok =>
      comp_walk hg en1 hn (itP_ok ok) (fun i z => sa i (List.mem_append_right _ z)) (fun i z => sm i (List.mem_append_right _ z)) h2 fun v H' en' k' r' => q v H' en' (k1.trans k') ⟨r'.rp, fun z => let ⟨a, g1, g2, g3⟩ := r'.fr z; ⟨a, g1, k1.gone a g2, g3⟩⟩⟩
  · cases h
theorem e_comp {elt tg iter : Expr} {ifs : List Expr} {scope : Scope} {own : List (Str × Nat)} {pos : Pos} {vs : List Nat} {g : G} {it : I} {c e : E} (hc : X.calm = true) (hN : X.N.Nodup) (hi : PIv X Φ gl tg iter it) (ok : BlkOk X.N X.env.scope scope own) (hvs : own.map (·.2) = vs) (hgv : ∀ i, i ∈ gv g → i ∈ vs)
    (hg : ∀ (s : Shared) (H : Hp) (C : Addr) (cl : List (Str × Addr)) (fp : List Addr), PGv (X.blk s H scope (compEnvC scope cl C X.env) fp) tg g) (ht : ∀ (s : Shared) (H : Hp) (C : Addr) (cl : List (Str × Addr)) (fp : List Addr), PTsv (X.blk s H scope (compEnvC scope cl C X.env) fp) Φ gl ifs c)
    (he : ∀ (s : Shared) (H : Hp) (C : Addr) (cl : List (Str × Addr)) (fp : List Addr), PEv (X.blk s H scope (compEnvC scope cl C X.env) fp) Φ gl elt e) (hs : ∀ x, foldedSetIterable iter X.env x = pure x := by intro _; rfl) :
    PEv X Φ gl (.ListComp elt [⟨tg, iter, ifs, 0⟩] scope pos) (.comp vs g it c e) :=
  (pe_lc (g := tG X.K g) (tt := tT X.K Φ gl c) (te := tE X.K Φ gl e) hc hN hi ok hg ht he hs).imp fun σ H Q w => by rw [hvs]; exact comp_core hgv w
theorem ps_comp {elt tg iter : Expr} {ifs : List Expr} {scope : Scope} {own : List (Str × Nat)} {pos : Pos} {vs : List Nat} {g : G} {it : I} {c e : E} {i : Nat} {y : Str} {py spos : Pos} (hc : X.calm = true) (hN : X.N.Nodup) (hy : X.N[i]? = some y) (hyl : X.env.scope.names.lookup y = some .local)
    (hsw : swapsWith (.ListComp elt [⟨tg, iter, ifs, 0⟩] scope pos) (some (.Name y py)) spos.line X.env = pure true) (hi : PIv X Φ gl tg iter it) (ok : BlkOk X.N X.env.scope scope own) (hvs : own.map (·.2) = vs) (hgv : ∀ i, i ∈ gv g → i ∈ vs)
    (hg : ∀ (s : Shared) (H : Hp) (C : Addr) (cl : List (Str × Addr)) (fp : List Addr), PGv (X.blk s H scope (compEnvC scope cl C X.env) fp) tg g) (ht : ∀ (s : Shared) (H : Hp) (C : Addr) (cl : List (Str × Addr)) (fp : List Addr), PTsv (X.blk s H scope (compEnvC scope cl C X.env) fp) Φ gl ifs c)
    (he : ∀ (s : Shared) (H : Hp) (C : Addr) (cl : List (Str × Addr)) (fp : List Addr), PEv (X.blk s H scope (compEnvC scope cl C X.env) fp) Φ gl elt e) (hs : ∀ x, foldedSetIterable iter X.env x = pure x := by intro _; rfl) :
    PS X (.Assign [.Name y py] (.ListComp elt [⟨tg, iter, ifs, 0⟩] scope pos) spos) (tAsg (tE X.K Φ gl (.comp vs g it c e)) (gName i)) := by
  have h := ps_setLc (g := tG X.K g) (tt := tT X.K Φ gl c) (te := tE X.K Φ gl e) hc hN hy hyl hsw hi ok hg ht he hs
  refine ⟨fun pins s σ H D I w => h.run pins s σ H D I ?_⟩
  rw [hvs]
  exact comp_core hgv w

/-- .. of two clauses -/
theorem comp2_core {K : PySem.W.Frag} {vs vs1 : List Nat} {g g1 : G} {it it1 : I} {c c1 e : E} (hg : ∀ i, i ∈ gv g → i ∈ vs) (hg1 : ∀ i, i ∈ gv g1 → i ∈ vs1) (h1v : ∀ i, i ∈ vs1 → i ∈ vs) {σ : L2.St} {H : Hp} {Q : VK} (w : tE K Φ gl (.comp2 vs vs1 g it c g1 it1 c1 e) σ H Q) :
    tLc2 (tI K Φ gl it) (tG K g) (tT K Φ gl c) (tI K Φ gl it1) (tG K g1) (tT K Φ gl c1) (tE K Φ gl e) vs vs1 σ H Q := by
  obtain ⟨F, ρ, d, fl, ρ', en, sa, sm, h, q⟩ := w
  simp only [ev] at h
  obtain ⟨⟨ds, ρ1⟩, h1, h⟩ := bind_some h
  dsimp only at h
  split at h
  · rename_i hn
    obtain ⟨⟨acc, ρ2⟩, h2, h⟩ := bind_some h
    cases h
    have sa : ∀ i, i ∈ alsI it ++ (als c ++ (alsI it1 ++ (als c1 ++ als e))) → i ∈ F.A := by simpa [als] using sa
    have sm : ∀ i, i ∈ modsI it ++ (mods c ++ (modsI it1 ++ (mods c1 ++ mods e))) → i ∈ F.M := by simpa [mods] using sm
    refine ⟨F, ρ, ds, ρ1, en, fun i z => sa i (by simp [z]), fun i z => sm i (by simp [z]), h1, fun J H1 en1 k1 ok0 D hD => ?_⟩
    have ok := itP_ok ok0
    obtain ⟨C, s0, hv⟩ := open_c en1 hn hD
    have ok' : ItOk K (fun b => F.P b ∨ b = D) J (upd H1 D (.lst [])) ds := fun i P' H2 x => ok i P' H2 ⟨fun a o e n => x.keep a o (by rw [upd_ne (ne_of_none e hD)]; exact e) fun z => z.elim n (ne_of_none e hD), fun a xs e => x.tups a xs (by rw [upd_ne (ne_of_none e hD)]; exact e), fun a z => by
      rcases x.sub a z with (z | z) | z
      · exact .inl z
      · exact .inr (by rw [z]; exact hD)
      · by_cases ed : a = D
        · exact .inr (by rw [ed]; exact hD)
        · exact .inr (by rw [upd_ne ed] at z; exact z)⟩
    refine loop2 C hv hg (fun i z => sa i (by simp [z])) (fun i z => sm i (by simp [z])) ok' h2 s0 (fun acc ρ acc' ρ' σ2 H3 Nx hi ew s hN => ?_) fun H' s' => close_c en1 hn hD s' fun v H' en' k' r' => q v H' en' (k1.trans k') ⟨r'.rp, fun z => let ⟨a, g1, g2, g3⟩ := r'.fr z; ⟨a, g1, k1.gone a g2, g3⟩⟩
    obtain ⟨⟨ds1, ρ3⟩, e3, hi⟩ := bind_some hi
    refine ⟨_, ρ, ds1, ρ3, s.env, fun i z => sa i (by simp [z]), fun i z => sm i (by simp [z]), e3, fun J1 H4 en4 k4 ok1' => ?_⟩
    have ok1 := itP_ok ok1'
    have s4 := s.step C en4 (fun _ _ => rfl) k4
    have hv1 : ∀ i, i ∈ vs1 → i ∉ F.O := fun i z => hv i (h1v i z)
    have s4' : CSt K _ _ D H4 acc (wipeP ρ3 vs1) (wipe σ2 vs1) H4 := ⟨s4.env.wipe hv1, s4.lst, .refl, fun a ⟨i, hi, e⟩ => s4.wr a ⟨i, hi, by rw [wipe_off fun z => hv1 i z (s4.env.mo i hi).1] at e; exact e⟩, fun i hi e => s4.nD i hi (by rw [wipe_off fun z => hv1 i z hi] at e; exact e)⟩
    refine loop2 (σs := σ2) C hv1 hg1 (fun i z => sa i (by simp [z])) (fun i z => sm i (by simp [z])) ok1 (show compL2 _ _ (addV _) vs1 ds1 acc (wipeP ρ3 vs1) = some (acc', ρ') from hi) s4' (fun acc ρ acc' ρ' σ H Nx hi _ s hN => add_body C (fun i z => sa i (by simp [z])) (fun i z => sm i (by simp [z])) hi s hN) fun H' s' => hN H' ?_
    have en5 : EnvOk K _ ρ' σ2 H' := s'.env.unwipe
    exact ⟨en5, s'.lst, (s4.keep).trans s'.keep, s.wr, s.nD⟩
  · cases h
theorem e_comp2 {elt tg iter tg1 iter1 : Expr} {ifs ifs1 : List Expr} {scope : Scope} {own : List (Str × Nat)} {pos : Pos} {vs vs1 : List Nat} {g g1 : G} {it it1 : I} {c c1 e : E} (hc : X.calm = true) (hN : X.N.Nodup) (hi : PIv X Φ gl tg iter it) (ok : BlkOk X.N X.env.scope scope own) (hvs : own.map (·.2) = vs) (hgv : ∀ i, i ∈ gv g → i ∈ vs) (hgv1 : ∀ i, i ∈ gv g1 → i ∈ vs1) (h1v : ∀ i, i ∈ vs1 → i ∈ vs)
    (hg : ∀ (s : Shared) (H : Hp) (C : Addr) (cl : List (Str × Addr)) (fp : List Addr), PGv (X.blk s H scope (compEnvC scope cl C X.env) fp) tg g) (ht : ∀ (s : Shared) (H : Hp) (C : Addr) (cl : List (Str × Addr)) (fp : List Addr), PTsv (X.blk s H scope (compEnvC scope cl C X.env) fp) Φ gl ifs c)
    (hi1 : ∀ (s : Shared) (H : Hp) (C : Addr) (cl : List (Str × Addr)) (fp : List Addr), PIv (X.blk s H scope (compEnvC scope cl C X.env) fp) Φ gl tg1 iter1 it1)
    (hg1 : ∀ (s : Shared) (H : Hp) (C : Addr) (cl : List (Str × Addr)) (fp : List Addr), PGv (X.blk s H scope (compEnvC scope cl C X.env) fp) tg1 g1) (ht1 : ∀ (s : Shared) (H : Hp) (C : Addr) (cl : List (Str × Addr)) (fp : List Addr), PTsv (X.blk s H scope (compEnvC scope cl C X.env) fp) Φ gl ifs1 c1)
    (he : ∀ (s : Shared) (H : Hp) (C : Addr) (cl : List (Str × Addr)) (fp : List Addr), PEv (X.blk s H scope (compEnvC scope cl C X.env) fp) Φ gl elt e) (hs : ∀ x, foldedSetIterable iter X.env x = pure x := by intro _; rfl) (hs1 : ∀ env x, foldedSetIterable iter1 env x = pure x := by intro _ _; rfl) :
    PEv X Φ gl (.ListComp elt [⟨tg, iter, ifs, 0⟩, ⟨tg1, iter1, ifs1, 0⟩] scope pos) (.comp2 vs vs1 g it c g1 it1 c1 e) :=
  (pe_lc2 (g := tG X.K g) (tt := tT X.K Φ gl c) (wi1 := tI X.K Φ gl it1) (g1 := tG X.K g1) (tt1 := tT X.K Φ gl c1) (te := tE X.K Φ gl e) hc hN hi ok (by intro i hi; rw [hvs]; exact h1v i hi) hg ht hi1 hg1 ht1 he hs hs1).imp fun σ H Q w => by rw [hvs]; exact comp2_core hgv hgv1 h1v w
theorem ps_comp2 {elt tg iter tg1 iter1 : Expr} {ifs ifs1 : List Expr} {scope : Scope} {own : List (Str × Nat)} {pos : Pos} {vs vs1 : List Nat} {g g1 : G} {it it1 : I} {c c1 e : E} {i : Nat} {y : Str} {py spos : Pos} (hc : X.calm = true) (hN : X.N.Nodup) (hy : X.N[i]? = some y) (hyl : X.env.scope.names.lookup y = some .local)
    (hsw : swapsWith (.ListComp elt [⟨tg, iter, ifs, 0⟩, ⟨tg1, iter1, ifs1, 0⟩] scope pos) (some (.Name y py)) spos.line X.env = pure true) (hi : PIv X Φ gl tg iter it) (ok : BlkOk X.N X.env.scope scope own) (hvs : own.map (·.2) = vs) (hgv : ∀ i, i ∈ gv g → i ∈ vs) (hgv1 : ∀ i, i ∈ gv g1 → i ∈ vs1) (h1v : ∀ i, i ∈ vs1 → i ∈ vs)
    (hg : ∀ (s : Shared) (H : Hp) (C : Addr) (cl : List (Str × Addr)) (fp : List Addr), PGv (X.blk s H scope (compEnvC scope cl C X.env) fp) tg g) (ht : ∀ (s : Shared) (H : Hp) (C : Addr) (cl : List (Str × Addr)) (fp : List Addr), PTsv (X.blk s H scope (compEnvC scope cl C X.env) fp) Φ gl ifs c)
    (hi1 : ∀ (s : Shared) (H : Hp) (C : Addr) (cl : List (Str × Addr)) (fp : List Addr), PIv (X.blk s H scope (compEnvC scope cl C X.env) fp) Φ gl tg1 iter1 it1)
    (hg1 : ∀ (s : Shared) (H : Hp) (C : Addr) (cl : List (Str × Addr)) (fp : List Addr), PGv (X.blk s H scope (compEnvC scope cl C X.env) fp) tg1 g1) (ht1 : ∀ (s : Shared) (H : Hp) (C : Addr) (cl : List (Str × Addr)) (fp : List Addr), PTsv (X.blk s H scope (compEnvC scope cl C X.env) fp) Φ gl ifs1 c1)
    (he : ∀ (s : Shared) (H : Hp) (C : Addr) (cl : List (Str × Addr)) (fp : List Addr), PEv (X.blk s H scope (compEnvC scope cl C X.env) fp) Φ gl elt e) (hs : ∀ x, foldedSetIterable iter X.env x = pure x := by intro _; rfl) (hs1 : ∀ env x, foldedSetIterable iter1 env x = pure x := by intro _ _; rfl) :
    PS X (.Assign [.Name y py] (.ListComp elt [⟨tg, iter, ifs, 0⟩, ⟨tg1, iter1, ifs1, 0⟩] scope pos) spos) (tAsg (tE X.K Φ gl (.comp2 vs vs1 g it c g1 it1 c1 e)) (gName i)) := by
  have h := ps_setLc2 (g := tG X.K g) (tt := tT X.K Φ gl c) (wi1 := tI X.K Φ gl it1) (g1 := tG X.K g1) (tt1 := tT X.K Φ gl c1) (te := tE X.K Φ gl e) hc hN hy hyl hsw hi ok (by intro i hi; rw [hvs]; exact h1v i hi) hg ht hi1 hg1 ht1 he hs hs1
  refine ⟨fun pins s σ H D I w => h.run pins s σ H D I ?_⟩
  rw [hvs]
  exact comp2_core hgv hgv1 h1v w
end

/-! ### a dict walked: it is locked meanwhile -/
structure Sim (H H' : Hp) : Prop where
  lst : ∀ a xs, H a = some (.lst xs) → H' a = some (.lst xs)
  tup : ∀ a xs, H a = some (.tup xs) → H' a = some (.tup xs)
  dk : ∀ a kvs, RdK H a kvs → RdK H' a kvs
  dt : ∀ a kvs, RdT H a kvs → RdT H' a kvs
section
variable {K : PySem.W.Frag} {P : Addr → Prop} {H H' : Hp}
mutual
theorem Rp.sim (e : Sim H H') : ∀ {v : V} {d : PyData}, Rp K H P v d → Rp K H' P v d
  | _, _, .non => .non
  | _, _, .bl b => .bl b
  | _, _, .int i => .int i
  | _, _, .str x => .str x
  | _, _, .lst n h r => .lst n (e.lst _ _ h) (RpAll.sim e r)
  | _, _, .tup h r => .tup (e.tup _ _ h) (RpAll.sim e r)
  | _, _, .dk n h r => .dk n (e.dk _ _ h) (RpK.sim e r)
  | _, _, .dt n h r => .dt n (e.dt _ _ h) (RpT.sim e r)
theorem RpAll.sim (e : Sim H H') : ∀ {v : List V} {d : List PyData}, RpAll K H P v d → RpAll K H' P v d
  | _, _, .nil => .nil
  | _, _, .cons r rs => .cons (Rp.sim e r) (RpAll.sim e rs)
theorem RpK.sim (e : Sim H H') : ∀ {v : List (L2.Key × V)} {d : List (PyData × PyData)}, RpK K H P v d → RpK K H' P v d
  | _, _, .nil => .nil
  | _, _, .cons r rs => .cons (Rp.sim e r) (RpK.sim e rs)
theorem RpT.sim (e : Sim H H') : ∀ {v : List (List L2.Key × V)} {d : List (PyData × PyData)}, RpT K H P v d → RpT K H' P v d
  | _, _, .nil => .nil
  | _, _, .cons r rs => .cons (Rp.sim e r) (RpT.sim e rs)
end
theorem Own.sim {a : Addr} {d : PyData} (e : Sim H H') (k : H' a = H a) (o : Own K H P a d) : Own K H' P a d := by
  cases o with
  | lst h r => exact .lst (by rw [k]; exact h) (r.sim e)
  | dk h r => exact .dk (by rw [k]; exact h) (r.sim e)
  | dt n h r => exact .dt n (by rw [k]; exact h) (r.sim e)
end
/-- a dict that may be locked -/
inductive IsD : HO → Prop
  | k {kvs : List (L2.Key × V)} : kvs ≠ [] → IsD (.dK kvs)
  | t {kvs : List (List L2.Key × V)} : kvs ≠ [] → IsD (.dT kvs)
theorem IsD.mut {u : HO} (h : IsD u) : Mut (some u) := by cases h <;> exact True.intro
theorem sim_lock {H : Hp} {a : Addr} {u : HO} {od : Obj} (h : H a = some u) (d : IsD u) : Sim H (upd H a (.frz od u)) := by
  refine ⟨fun b xs e => ?_, fun b xs e => ?_, fun b kvs e => ?_, fun b kvs e => ?_⟩
  · rw [upd_ne fun z => by rw [z, h] at e; cases e; cases d]; exact e
  · rw [upd_ne fun z => by rw [z, h] at e; cases e; cases d]; exact e
  · by_cases z : b = a
    · subst z
      rcases e with e | ⟨n, o, e⟩
      · rw [h] at e; cases e
        cases d with
        | k n => exact .inr ⟨n, od, upd_same⟩
      · rw [h] at e; cases e; cases d
    · rcases e with e | ⟨n, o, e⟩
      · exact .inl (by rw [upd_ne z]; exact e)
      · exact .inr ⟨n, o, by rw [upd_ne z]; exact e⟩
  · by_cases z : b = a
    · subst z
      rcases e with ⟨n, e | ⟨o, e⟩⟩
      · rw [h] at e; cases e
        exact ⟨n, .inr ⟨od, upd_same⟩⟩
      · rw [h] at e; cases e; cases d
    · rcases e with ⟨n, e | ⟨o, e⟩⟩
      · exact ⟨n, .inl (by rw [upd_ne z]; exact e)⟩
      · exact ⟨n, .inr ⟨o, by rw [upd_ne z]; exact e⟩⟩
theorem sim_unlock {H : Hp} {a : Addr} {u : HO} {od : Obj} (h : H a = some (.frz od u)) (d : IsD u) : Sim H (upd H a u) := by
  refine ⟨fun b xs e => ?_, fun b xs e => ?_, fun b kvs e => ?_, fun b kvs e => ?_⟩
  · rw [upd_ne fun z => by rw [z, h] at e; cases e]; exact e
  · rw [upd_ne fun z => by rw [z, h] at e; cases e]; exact e
  · by_cases z : b = a
    · subst z
      rcases e with e | ⟨n, o, e⟩
      · rw [h] at e; cases e
      · rw [h] at e; cases e; exact .inl upd_same
    · rcases e with e | ⟨n, o, e⟩
      · exact .inl (by rw [upd_ne z]; exact e)
      · exact .inr ⟨n, o, by rw [upd_ne z]; exact e⟩
  · by_cases z : b = a
    · subst z
      rcases e with ⟨n, e | ⟨o, e⟩⟩
      · rw [h] at e; cases e
      · rw [h] at e; cases e; exact ⟨n, .inl upd_same⟩
    · rcases e with ⟨n, e | ⟨o, e⟩⟩
      · exact ⟨n, .inl (by rw [upd_ne z]; exact e)⟩
      · exact ⟨n, .inr ⟨o, by rw [upd_ne z]; exact e⟩⟩
section
variable {K : PySem.W.Frag} {F : Fr} {ρ ρ' : PEnv} {σ : L2.St} {H H' : Hp}
theorem EnvOk.sim (en : EnvOk K F ρ σ H) (e : Sim H H') (k : ∀ i a, i ∈ F.O → σ[i]? = some (some (V.ref a)) → H' a = H a) (ht : ∀ a, F.P a → ∃ u, H' a = some u) : EnvOk K F ρ σ H' where
  adr := en.adr
  inj := en.inj
  zp := en.zp
  mo := en.mo
  shape := en.shape
  ow := fun i d e1 => let ⟨h, a, e2, o⟩ := en.ow i d e1; ⟨h, a, e2, o.sim e (k i a h e2)⟩
  fz := fun i d e1 => let ⟨v, e2, r⟩ := en.fz i d e1; ⟨v, e2, r.sim e⟩
  there := ht
  nd := en.nd
  len := en.len
/-- a dict that is read is no own thing -/
theorem EnvOk.noD (en : EnvOk K F ρ σ H) (hk : lkM ∈ F.A) {a : Addr} (np : ¬ F.P a) {o : HO} (h : H a = some o) (nl : ∀ xs, o ≠ .lst xs) : ∀ i b, i ∈ F.O → σ[i]? = some (some (V.ref b)) → b ≠ a := fun i b hi e z => by
  subst z
  obtain ⟨b, e2, h1, _⟩ := en.adr i hi
  rw [e] at e2; cases e2
  by_cases hA : i ∈ F.A
  · obtain ⟨d, hd⟩ := en.shape i hi
    have n := en.nd hk i d hA hd
    obtain ⟨_, b, e3, w⟩ := en.ow i d hd
    rw [e] at e3; cases e3
    cases w with
    | lst e4 _ => rw [h] at e4; cases e4; exact nl _ rfl
    | dk e4 _ => cases n
    | dt _ e4 _ => cases n
  · exact np (h1.mpr hA)
theorem upd_keep {H : Hp} {a : Addr} {o : HO} : ∀ b, (∃ u, H b = some u) → ∃ u, upd H a o b = some u := fun b ⟨u, hu⟩ => by
  by_cases z : b = a
  · subst z; exact ⟨_, upd_same⟩
  · exact ⟨u, by rw [upd_ne z]; exact hu⟩
theorem EnvOk.lock (en : EnvOk K F ρ σ H) (hk : lkM ∈ F.A) {a : Addr} {u : HO} {od : Obj} (np : ¬ F.P a) (h : H a = some u) (d : IsD u) : EnvOk K F ρ σ (upd H a (.frz od u)) :=
  en.sim (sim_lock h d) (fun i b hi e => upd_ne (en.noD hk np h (fun xs z => by subst z; cases d) i b hi e)) fun b hb => upd_keep b (en.there b hb)
theorem EnvOk.unlock (en : EnvOk K F ρ σ H) (hk : lkM ∈ F.A) {a : Addr} {u : HO} {od : Obj} (np : ¬ F.P a) (h : H a = some (.frz od u)) (d : IsD u) : EnvOk K F ρ σ (upd H a u) :=
  en.sim (sim_unlock h d) (fun i b hi e => upd_ne (en.noD hk np h (fun xs z => nomatch z) i b hi e)) fun b hb => upd_keep b (en.there b hb)
theorem backP_wipe {ρ : PEnv} {vs : List Nat} : backP ρ (wipeP ρ vs) vs = ρ := by
  apply List.ext_getElem?
  intro i
  by_cases h : i ∈ vs
  · exact backP_in (wipeP_len ρ vs).symm h
  · rw [backP_out h, wipeP_out h]
/-- [elt for tg in d if ..], d a dict -/
theorem compK_core {Φ : Nat → List PyData → Option (PyData × List PyData)} {gl : List PyData} {vs : List Nat} {g : G} {i : Nat} {c e : E} (hg : ∀ i, i ∈ gv g → i ∈ vs) {Q : VK} (w : tE K Φ gl (.comp vs g (.dk i) c e) σ H Q) :
    tLc (iKeys (tVar i)) (tG K g) (tT K Φ gl c) (tE K Φ gl e) vs σ H Q ∨ tLockE (tLc (iKeys (tVar i)) (tG K g) (tT K Φ gl c) (tE K Φ gl e) vs) σ H Q := by
  obtain ⟨F, ρ, d, fl, ρ', en, sa, sm, h, q⟩ := w
  simp only [ev, evi] at h
  obtain ⟨⟨ds, ρ1⟩, h1, h⟩ := bind_some h
  cases hs : getS ρ i with
  | none => rw [hs] at h1; cases h1
  | some dd =>
  rw [hs] at h1
  cases dd with
  | dict kvs =>
    cases h1
    dsimp only at h
    split at h
    · rename_i hn
      obtain ⟨⟨acc, ρ2⟩, h2, h⟩ := bind_some h
      cases h
      have sa : ∀ j, j ∈ [i, lkM] ++ (als c ++ als e) → j ∈ F.A := by simpa [als, alsI] using sa
      have sm : ∀ i, i ∈ mods c ++ mods e → i ∈ F.M := by simpa [mods, modsI] using sm
      have hk : lkM ∈ F.A := sa _ (by simp)
      have sa' : ∀ j, j ∈ als c ++ als e → j ∈ F.A := fun j z => sa j (List.mem_append_right _ z)
      have slot : ∃ v, σ[i]? = some (some v) ∧ Rp K H F.P v (.dict kvs) := by
        unfold getS at hs
        cases e2 : ρ[i]? with
        | none => rw [e2] at hs; cases hs
        | some s =>
          rw [e2] at hs
          cases s with
          | no => cases hs
          | fz d2 => cases hs; exact en.fz i _ e2
          | ow d2 =>
            cases hs
            have := en.nd hk i _ (sa i (by simp)) e2
            cases this
      obtain ⟨v, e3, r⟩ := slot
      -- locked by us
      have locking : ∀ {a : Addr} {u : HO}, ¬ F.P a → H a = some u → IsD u → v = .ref a → (∀ od, ∃ J, ItOk K F.P J (upd H a (.frz od u)) (kvs.map (·.1)) ∧ ∀ R : It → Hp → Prop, R J (upd H a (.frz od u)) → iKeys (tVar i) σ (upd H a (.frz od u)) R) →
          tLockE (tLc (iKeys (tVar i)) (tG K g) (tT K Φ gl c) (tE K Φ gl e) vs) σ H Q := by
        intro a u np ha hd hv hj
        refine ⟨a, u, ha, hd.mut, fun od => ?_⟩
        obtain ⟨J, ok, hR⟩ := hj od
        refine hR _ (comp_walk (Q := fun v H' => H' a = some (.frz od u) ∧ Q v (upd H' a u)) hg (en.lock hk np ha hd) hn ok sa' sm h2 fun v H' en' k' r' => ?_)
        have nw : ¬ Wr σ F.M a := fun z => np (en.wr z)
        have hf : H' a = some (.frz od u) := k'.keep a _ upd_same nw
        have old : ∀ b, b ≠ a → upd H a (.frz od u) b = H b := fun b hb => upd_ne hb
        refine ⟨hf, q v _ (en'.unlock hk np hf hd) ⟨fun b o hb nb => ?_, fun b xs hb => ?_, fun b hb => ?_⟩ ⟨r'.rp.sim (sim_unlock hf hd), fun z => ?_⟩⟩
        · by_cases z : b = a
          · subst z; rw [ha] at hb; cases hb; exact upd_same
          · rw [upd_ne z]; exact k'.keep b o (by rw [old b z]; exact hb) nb
        · have z : b ≠ a := fun z => by subst z; rw [ha] at hb; cases hb; cases hd
          rw [upd_ne z]; exact k'.tups b xs (by rw [old b z]; exact hb)
        · by_cases z : b = a
          · subst z; rw [upd_same] at hb; cases hb
          · rw [upd_ne z] at hb
            have := k'.gone b hb
            rw [old b z] at this; exact this
        · obtain ⟨b, g1, g2, g3, g4⟩ := r'.fr z
          have nb : b ≠ a := fun z => by subst z; rw [upd_same] at g2; cases g2
          exact ⟨b, g1, by rw [old b nb] at g2; exact g2, g3.sim (sim_unlock hf hd) (upd_ne nb), g4.unlock hk (fun z => z.elim np fun z => nb z.symm) hf hd⟩
      cases r with
      | @dk a kv _ n hr ra =>
        rcases hr with ha | ⟨ne, o, ha⟩
        · refine .inr ?_
          cases kv with
          | nil =>
            cases ra
            simp only [List.map_nil, compL, compL2, Option.some.injEq, Prod.mk.injEq] at h2
            obtain ⟨rfl, rfl⟩ := h2
            rw [backP_wipe] at q
            refine ⟨a, .dK [], ha, True.intro, fun od => ?_⟩
            refine ⟨_, e3, a, od, rfl, .inl ⟨[], upd_same, fun D hD => ⟨fun j m H' => j = 0 ∧ H' = upd (upd H a (.frz od (.dK []))) D (.lst []), ⟨0, rfl, rfl⟩, ?_⟩⟩⟩
            rintro j m H' ⟨rfl, rfl⟩
            have nD : a ≠ D := fun z => by subst z; rw [upd_same] at hD; cases hD
            have hD' : H D = none := by rw [upd_ne nD.symm] at hD; exact hD
            have hf : upd (upd H a (.frz od (.dK []))) D (.lst []) a = some (.frz od (.dK [])) := by rw [upd_ne nD, upd_same]
            have eqH : upd (upd (upd H a (.frz od (.dK []))) D (.lst [])) a (.dK []) = upd H D (.lst []) := by
              funext b
              by_cases z : b = a
              · subst z; rw [upd_same, upd_ne nD]; exact ha.symm
              · rw [upd_ne z]
                by_cases z2 : b = D
                · subst z2; rw [upd_same, upd_same]
                · rw [upd_ne z2, upd_ne z, upd_ne z2]
            refine .inl ⟨⟨hf, Nat.le_refl _⟩, hf, ?_⟩
            rw [eqH]
            exact fin en .refl q _ _ (.fr hD' rfl (.lst upd_same .nil))
          | cons x xs =>
            refine locking n ha (.k (by simp)) rfl fun od => ⟨Itk a od (x :: xs), it_keys n upd_same (ra.sim (sim_lock ha (.k (by simp)))), fun R hR => ⟨_, e3, a, od, rfl, .inl ⟨_, upd_same, hR⟩⟩⟩
        · refine .inl ⟨_, e3, a, o, rfl, .inl ⟨kv, ha, ?_⟩⟩
          exact comp_walk hg en hn (it_keys n ha ra) sa' sm h2 q
      | @dt a kv _ n hr ra =>
        obtain ⟨ne, hr⟩ := hr
        rcases hr with ha | ⟨o, ha⟩
        · refine .inr (locking n ha (.t ne) rfl fun od => ⟨Itkt a od kv, it_keysT n upd_same (ra.sim (sim_lock ha (.t ne))), fun R hR => ⟨_, e3, a, od, rfl, .inr ⟨_, upd_same, hR⟩⟩⟩)
        · refine .inl ⟨_, e3, a, o, rfl, .inr ⟨kv, ha, ?_⟩⟩
          exact comp_walk hg en hn (it_keysT n ha ra) sa' sm h2 q
    · cases h
  | _ => cases h1
end
section
variable {X : Cx} {Φ : Nat → List PyData → Option (PyData × List PyData)} {gl : List PyData}
theorem e_compK {elt tg : Expr} {ifs : List Expr} {scope : Scope} {own : List (Str × Nat)} {pos p : Pos} {vs : List Nat} {g : G} {i : Nat} {x : Str} {c e : E} (hc : X.calm = true) (hN : X.N.Nodup) (hx : X.N[i]? = some x) (hv : Vis X.env.scope x) (ok : BlkOk X.N X.env.scope scope own) (hvs : own.map (·.2) = vs) (hgv : ∀ i, i ∈ gv g → i ∈ vs)
    (hg : ∀ (s : Shared) (H : Hp) (C : Addr) (cl : List (Str × Addr)) (fp : List Addr), PGv (X.blk s H scope (compEnvC scope cl C X.env) fp) tg g) (ht : ∀ (s : Shared) (H : Hp) (C : Addr) (cl : List (Str × Addr)) (fp : List Addr), PTsv (X.blk s H scope (compEnvC scope cl C X.env) fp) Φ gl ifs c)
    (he : ∀ (s : Shared) (H : Hp) (C : Addr) (cl : List (Str × Addr)) (fp : List Addr), PEv (X.blk s H scope (compEnvC scope cl C X.env) fp) Φ gl elt e) (hd : (x == ("__debug__" : Str)) = false := by decide) (hcd : (x == ("__classdict__" : Str)) = false := by decide) (hs : ∀ z, foldedSetIterable (.Name x p) X.env z = pure z := by intro _; rfl) :
    PEv X Φ gl (.ListComp elt [⟨tg, .Name x p, ifs, 0⟩] scope pos) (.comp vs g (.dk i) c e) := by
  have h := pe_lc (pos := pos) (g := tG X.K g) (tt := tT X.K Φ gl c) (te := tE X.K Φ gl e) hc hN (pi_keys (tg := tg) (pe_var (pos := p) hx hv hd hcd)) ok hg ht he hs
  have h2 := pe_lock h
  refine ⟨fun pins s σ H Q I w => ?_⟩
  subst hvs
  rcases compK_core hgv w with w | w
  · exact h.run pins s σ H Q I w
  · exact h2.run pins s σ H Q I w
end
end PP

/-! PP10: statements. -/
namespace PP
open PySem PySem.Spec PyProof.Rows L2 RZ

/-- fixed through a def's run: Z hidden from the start, W what may be changed of what was there, H0 the heap at the start, io the changed parameters -/
structure Bs where
  Z : Addr → Prop
  W : Addr → Prop
  H0 : Hp
  io : List (Nat × Addr)
abbrev frO (B : Bs) (P : Addr → Prop) (O : List Nat) : Fr := ⟨B.Z, P, O, [], []⟩
structure EnvS (K : PySem.W.Frag) (B : Bs) (P : Addr → Prop) (O : List Nat) (ρ : PEnv) (σ : L2.St) (H : Hp) : Prop where
  env : EnvOk K (frO B P O) ρ σ H
  hid : ∀ a, P a → B.Z a ∨ B.W a ∨ B.H0 a = none
  keep : Keep B.W B.H0 H
  io : ∀ p, p ∈ B.io → p.1 ∈ O → σ[p.1]? = some (some (V.ref p.2))
def ES (K : PySem.W.Frag) (B : Bs) (ρ : PEnv) (σ : L2.St) (H : Hp) : Prop := ∃ P O, EnvS K B P O ρ σ H
/-- what a value is that has come: new ones are nobody's -/
structure Got (K : PySem.W.Frag) (B : Bs) (P : Addr → Prop) (O : List Nat) (σ : L2.St) (H : Hp) (v : V) (d : PyData) (f : Fl) : Prop where
  rp : f = .sh → Rp K H P v d
  fr : f = .fr → ∃ a, v = .ref a ∧ P a ∧ B.H0 a = none ∧ ¬ B.Z a ∧ (∀ j, j ∈ O → σ[j]? ≠ some (some (V.ref a))) ∧ Own K H P a d
section
variable {K : PySem.W.Frag} {Φ : Nat → List PyData → Option (PyData × List PyData)} {gl : List PyData} {B : Bs} {P : Addr → Prop} {O : List Nat} {ρ ρ1 ρ2 : PEnv} {σ : L2.St} {H H1 : Hp}
theorem Own.tracked {a : Addr} {d : PyData} (o : Own K H P a d) : H a ≠ none := fun z => by
  obtain ⟨u, e, _⟩ := o.there
  rw [z] at e; cases e
theorem EnvS.at (s : EnvS K B P O ρ σ H) {i : Nat} (hi : i ∈ O) : ∃ a d, σ[i]? = some (some (V.ref a)) ∧ ρ[i]? = some (.ow d) ∧ P a ∧ ¬ B.Z a ∧ Own K H P a d := by
  obtain ⟨d, hd⟩ := s.env.shape i hi
  obtain ⟨_, a, e, o⟩ := s.env.ow i d hd
  obtain ⟨b, e2, h1, h2⟩ := s.env.adr i hi
  rw [e] at e2; cases e2
  exact ⟨a, d, e, hd, h1.mpr (by simp), h2, o⟩
/-- the frame of an expression -/
def frE (B : Bs) (P : Addr → Prop) (O : List Nat) (σ : L2.St) (as ms : List Nat) : Fr := ⟨B.Z, fun a => P a ∧ ¬ ∃ i, i ∈ O ∧ i ∈ as ∧ σ[i]? = some (some (V.ref a)), O, as, ms⟩
theorem EnvS.open' (s : EnvS K B P O ρ σ H) {as ms : List Nat} (h : okM ρ as ms = true) : EnvOk K (frE B P O σ as ms) ρ σ H := by
  unfold okM at h
  rw [Bool.and_eq_true] at h
  obtain ⟨h1, h2⟩ := h
  have x : Ext P (frE B P O σ as ms).P H H := .less fun a z => z.1
  refine ⟨fun i hi => ?_, s.env.inj, fun a z => ⟨s.env.zp a z, fun ⟨i, hi, _, e⟩ => ?_⟩, fun i hi => ?_, s.env.shape, fun i d e => ?_, fun i d e => ?_, fun a z => s.env.there a z.1, fun hk i d hi e => ?_, s.env.len⟩
  · obtain ⟨a, d, e1, e2, p1, p2, o⟩ := s.at hi
    refine ⟨a, e1, ⟨fun z hA => z.2 ⟨i, hi, hA, e1⟩, fun z => ⟨p1, fun ⟨j, hj, hA, e⟩ => ?_⟩⟩, p2⟩
    have := s.env.inj i j a hi hj e1 e
    subst this
    exact z hA
  · obtain ⟨a', d, e1, e2, p1, p2, o⟩ := s.at hi
    rw [e] at e1; cases e1
    exact p2 z
  · have := List.all_eq_true.mp h1 i hi
    rw [Bool.and_eq_true] at this
    obtain ⟨q1, q2⟩ := this
    unfold isOwn at q1
    split at q1
    · rename_i d e
      exact ⟨(s.env.ow i d e).1, show i ∉ as by simpa using q2⟩
    · cases q1
  · obtain ⟨hi, a, e2, o⟩ := s.env.ow i d e
    exact ⟨hi, a, e2, o.ext x fun _ z => z⟩
  · obtain ⟨v, e2, r⟩ := s.env.fz i d e
    exact ⟨v, e2, r.ext x⟩
  · have hk : lkM ∈ as := hk
    have hk' : as.contains lkM = true := by simpa using hk
    rw [hk', Bool.not_true, Bool.false_or] at h2
    have := List.all_eq_true.mp h2 i hi
    rw [e] at this
    exact this
theorem frz1_get {ρ : PEnv} {i j : Nat} : (match ρ[i]? with | some (Sl.ow d) => ρ.set i (.fz d) | _ => ρ)[j]? = if j = i then (ρ[j]?).map frzS else ρ[j]? := by
  by_cases z : j = i
  · subst z
    rw [if_pos rfl]
    cases e : ρ[j]? with
    | none => simp [e]
    | some s =>
      cases s with
      | ow d =>
        have hl := (List.getElem?_eq_some_iff.mp e).1
        simp [List.getElem?_set_self hl, frzS]
      | no => simp [e, frzS]
      | fz d => simp [e, frzS]
  · rw [if_neg z]
    split
    · rw [List.getElem?_set_ne fun h => z h.symm]
    · rfl
theorem frz_get : ∀ {is : List Nat} {ρ : PEnv} {j : Nat}, (frz ρ is)[j]? = if j ∈ is then (ρ[j]?).map frzS else ρ[j]?
  | [], ρ, j => by simp [frz]
  | i :: is, ρ, j => by
    have e : frz ρ (i :: is) = frz (match ρ[i]? with | some (Sl.ow d) => ρ.set i (.fz d) | _ => ρ) is := rfl
    rw [e, frz_get, frz1_get]
    by_cases z : j = i
    · subst z
      simp only [if_true, List.mem_cons, true_or]
      split
      · cases ρ[j]? with
        | none => rfl
        | some s => cases s <;> rfl
      · rfl
    · rw [if_neg z]
      simp only [List.mem_cons, z, false_or]
theorem frz_len : ∀ {is : List Nat} {ρ : PEnv}, (frz ρ is).length = ρ.length
  | [], ρ => rfl
  | i :: is, ρ => by
    have e : frz ρ (i :: is) = frz (match ρ[i]? with | some (Sl.ow d) => ρ.set i (.fz d) | _ => ρ) is := rfl
    rw [e, frz_len]
    split <;> simp
/-- what was read as it stands is no longer one's own -/
def Fr.froz (F : Fr) : Fr := ⟨F.Z, F.P, F.O.filter fun i => !F.A.contains i, [], []⟩
theorem EnvOk.froz {F : Fr} (en : EnvOk K F ρ σ H) : EnvOk K F.froz (frz ρ F.A) σ H := by
  have mem : ∀ {i}, i ∈ F.froz.O ↔ i ∈ F.O ∧ i ∉ F.A := fun {i} => by unfold Fr.froz; simp
  refine ⟨fun i hi => ?_, fun i j a hi hj => en.inj i j a (mem.mp hi).1 (mem.mp hj).1, en.zp, fun i z => by unfold Fr.froz at z; simp at z, fun i hi => ?_, fun i d e => ?_, fun i d e => ?_, en.there, fun z => by unfold Fr.froz at z; simp at z, by rw [frz_len]; exact en.len⟩
  · obtain ⟨h1, h2⟩ := mem.mp hi
    obtain ⟨a, e, p, n⟩ := en.adr i h1
    exact ⟨a, e, ⟨fun _ z => by unfold Fr.froz at z; simp at z, fun _ => p.mpr h2⟩, n⟩
  · obtain ⟨h1, h2⟩ := mem.mp hi
    rw [frz_get, if_neg h2]
    exact en.shape i h1
  · rw [frz_get] at e
    split at e
    · obtain ⟨y, _, e2⟩ := Option.map_eq_some_iff.mp e
      cases y <;> simp [frzS] at e2
    · rename_i hA
      obtain ⟨hi, r⟩ := en.ow i d e
      exact ⟨mem.mpr ⟨hi, hA⟩, r⟩
  · rw [frz_get] at e
    split at e
    · rename_i hA
      obtain ⟨y, e1, e2⟩ := Option.map_eq_some_iff.mp e
      cases y with
      | no => simp [frzS] at e2
      | fz d2 => simp only [frzS, Sl.fz.injEq] at e2; subst e2; exact en.fz i _ e1
      | ow d2 =>
        simp only [frzS, Sl.fz.injEq] at e2
        subst e2
        obtain ⟨hi, a, e3, o⟩ := en.ow i _ e1
        obtain ⟨b, e4, p, _⟩ := en.adr i hi
        rw [e3] at e4; cases e4
        exact ⟨_, e3, o.rp fun z => p.mp z hA⟩
    · exact en.fz i d e

/-- behind an expression of a statement -/
theorem after {as ms : List Nat} {b : Bool} (s : EnvS K B P O ρ σ H) (ok : okM ρ as ms = true) (en : EnvOk K (frE B P O σ as ms) ρ1 σ H1) (k : Keep (Wr σ ms) H H1) (e2 : ρ2 = frzIf ρ ρ1 as ms b) :
    ∃ P2 O2, EnvS K B P2 O2 ρ2 σ H1 ∧ (∀ a, P2 a → P a) ∧ (∀ i, i ∈ O2 → i ∈ O) ∧ (∀ a, P a → (∀ j, j ∈ O → σ[j]? ≠ some (some (V.ref a))) → P2 a) ∧ (∀ v d, ((b && ms.isEmpty) = true → immD d = true) → Rp K H1 (frE B P O σ as ms).P v d → Rp K H1 P2 v d) ∧
      ∀ a d, H a = none → ((b && ms.isEmpty) = true → immTop d = true) → Own K H1 (fun b => (frE B P O σ as ms).P b ∨ b = a) a d → EnvOk K ((frE B P O σ as ms).plus a) ρ1 σ H1 → Own K H1 (fun b => P2 b ∨ b = a) a d ∧ EnvOk K ((frO B P2 O2).plus a) ρ2 σ H1 := by
  have en0 := s.open' ok
  have kW : Keep B.W B.H0 H1 := ⟨fun a o e n => k.keep a o (s.keep.keep a o e n) fun z => ?_, fun a xs e => k.tups a xs (s.keep.tups a xs e), fun a e => s.keep.gone a (k.gone a e)⟩
  · unfold frzIf at e2
    split at e2
    · rename_i hb
      subst e2
      have hm : ms = [] := by
        rw [Bool.and_eq_true] at hb
        exact List.isEmpty_iff.mp hb.2
      have g : ∀ a o, H a = some o → H1 a = some o := k.all fun a ⟨i, hi, _⟩ => by rw [hm] at hi; simp at hi
      have ht : ∀ a xs, H1 a = some (.tup xs) → H1 a = some (.tup xs) := fun _ _ z => z
      refine ⟨P, O, ⟨s.env.grow g, s.hid, kW, s.io⟩, fun _ z => z, fun _ z => z, fun _ z _ => z, fun v d hi r => r.imm ht (hi hb), fun a d ha hi o _ => ?_⟩
      have o' : Own K H1 (fun b => P b ∨ b = a) a d := o.imm ht (fun _ z => z) (hi hb)
      exact ⟨o', s.env.hideG ha g (let ⟨u, hu, _⟩ := o'.there; ⟨u, hu⟩)⟩
    · rename_i hb
      subst e2
      refine ⟨(frE B P O σ as ms).P, _, ⟨en.froz, fun a z => s.hid a z.1, kW, fun p hp hi => s.io p hp ?_⟩, fun a z => z.1, fun i hi => ?_, fun a z n => ⟨z, fun ⟨i, hi, _, e⟩ => n i hi e⟩, fun v d _ r => r, fun a d _ _ o en2 => ⟨o, en2.froz⟩⟩
      · exact (List.mem_filter.mp hi).1
      · exact (List.mem_filter.mp hi).1
  · obtain ⟨i, hi, e1⟩ := z
    have := en0.mo i hi
    obtain ⟨a', d, e3, _, p1, p2, o⟩ := s.at this.1
    rw [e1] at e3; cases e3
    rcases s.hid _ p1 with z | z | z
    · exact p2 z
    · exact n z
    · rw [z] at e; cases e
/-- from one point of a def's run to another, the slots as they were -/
structure Mv (P : Addr → Prop) (O : List Nat) (P2 : Addr → Prop) (O2 : List Nat) (σ : L2.St) (H H1 : Hp) : Prop where
  ext : Ext P P2 H H1
  hid : ∀ a, P a → (∀ j, j ∈ O → σ[j]? ≠ some (some (V.ref a))) → P2 a
  own : ∀ a o, H a = some o → (∀ j, j ∈ O → σ[j]? ≠ some (some (V.ref a))) → H1 a = some o
  sub : ∀ i, i ∈ O2 → i ∈ O
  gone : ∀ a, H1 a = none → H a = none
theorem Mv.refl : Mv P O P O σ H H := ⟨.refl, fun _ z _ => z, fun _ _ z _ => z, fun _ z => z, fun _ z => z⟩
theorem Mv.trans {P2 P3 : Addr → Prop} {O2 O3 : List Nat} {H2 : Hp} (a : Mv P O P2 O2 σ H H1) (b : Mv P2 O2 P3 O3 σ H1 H2) : Mv P O P3 O3 σ H H2 where
  ext := ⟨fun x o e n => b.ext.keep x o (a.ext.keep x o e n) fun z => (a.ext.sub x z).elim n fun z => (by rw [e] at z; cases z), fun x xs e => b.ext.tups x xs (a.ext.tups x xs e), fun x z => (b.ext.sub x z).elim (a.ext.sub x) fun z => .inr (a.gone x z)⟩
  hid := fun x p n => b.hid x (a.hid x p n) fun j hj => n j (a.sub j hj)
  own := fun x o e n => b.own x o (a.own x o e n) fun j hj => n j (a.sub j hj)
  sub := fun i z => a.sub i (b.sub i z)
  gone := fun x z => a.gone x (b.gone x z)
theorem Got.mv {P2 : Addr → Prop} {O2 : List Nat} {v : V} {d : PyData} {f : Fl} (q : Got K B P O σ H v d f) (m : Mv P O P2 O2 σ H H1) : Got K B P2 O2 σ H1 v d f :=
  ⟨fun z => (q.rp z).ext m.ext, fun z => let ⟨a, e, p, h0, nz, n, o⟩ := q.fr z; ⟨a, e, m.hid a p n, h0, nz, fun j hj => n j (m.sub j hj), o.ext m.ext fun u hu => m.own a u hu n⟩⟩
theorem evE_ok {e : E} {d : PyData} {f : Fl} (s : EnvS K B P O ρ σ H) (h : evE Φ gl e ρ = some (d, f, ρ2)) {Q : VK}
    (q : ∀ v H1 P2 O2, EnvS K B P2 O2 ρ2 σ H1 → Mv P O P2 O2 σ H H1 → Rp K H1 P2 v d → (f = .fr → ∃ a, v = .ref a ∧ H a = none ∧ Own K H1 (fun b => P2 b ∨ b = a) a d ∧ EnvS K B (fun b => P2 b ∨ b = a) O2 ρ2 σ H1) → Q v H1) : tE K Φ gl e σ H Q := by
  unfold evE at h
  split at h
  · rename_i ok
    obtain ⟨⟨d', f', ρ1⟩, h1, h⟩ := bind_some h
    cases h
    have en0 := s.open' ok
    refine ⟨frE B P O σ (als e) (mods e), ρ, d, f, ρ1, en0, fun i z => z, fun i z => z, h1, fun v H1 en1 k1 r1 => ?_⟩
    obtain ⟨P2, O2, s2, hp, ho, hh, hr, hw⟩ := after s ok en1 k1 rfl
    have m : Mv P O P2 O2 σ H H1 := ⟨⟨fun a o e n => k1.keep a o e fun z => n (en0.wr z).1, k1.tups, fun a z => .inl (hp a z)⟩, hh, fun a o e n => k1.keep a o e fun ⟨i, hi, z⟩ => n i (en0.mo i hi).1 z, ho, k1.gone⟩
    refine q v H1 P2 O2 s2 m ?_ fun z => ?_
    · cases f with
      | sh => exact hr v d (fun z => by rw [Bool.and_eq_true] at z; exact z.1) r1.rp
      | fr =>
        obtain ⟨a, e1, e2, o, en3⟩ := r1.fr rfl
        obtain ⟨o', _⟩ := hw a d e2 (fun z => by rw [Bool.and_eq_true] at z; exact z.1) o en3
        subst e1
        refine (o'.ext (Ext.less fun b z => .inl z) fun _ z => z).rp fun z => ?_
        obtain ⟨u, z⟩ := s.env.there a (hp a z)
        rw [e2] at z; cases z
    · subst z
      obtain ⟨a, e1, e2, o, en3⟩ := r1.fr rfl
      obtain ⟨o', en4⟩ := hw a d e2 (fun z => by rw [Bool.and_eq_true] at z; exact z.1) o en3
      exact ⟨a, e1, e2, o', en4, fun b z => z.elim (s2.hid b) fun z => .inr (.inr (by rw [z]; exact s.keep.gone a e2)), s2.keep, s2.io⟩
  · cases h
/-- .. the value nobody's, where it is new -/
theorem evE_got {e : E} {d : PyData} {f : Fl} (s : EnvS K B P O ρ σ H) (h : evE Φ gl e ρ = some (d, f, ρ2)) {Q : VK}
    (q : ∀ v H1 P2 O2, EnvS K B P2 O2 ρ2 σ H1 → Mv P O P2 O2 σ H H1 → Got K B P2 O2 σ H1 v d f → (f = .fr → ∃ a, v = .ref a ∧ H a = none) → Q v H1) : tE K Φ gl e σ H Q :=
  evE_ok s h fun v H1 P2 O2 s2 m r w => by
    cases f with
    | sh => exact q v H1 P2 O2 s2 m ⟨fun _ => r, (fun z => nomatch z)⟩ (fun z => nomatch z)
    | fr =>
      obtain ⟨a, e1, e2, o, s3⟩ := w rfl
      have nz : ¬ B.Z a := fun z => by
        obtain ⟨u, z⟩ := s.env.there a (s.env.zp a z)
        rw [e2] at z; cases z
      have no : ∀ j, j ∈ O2 → σ[j]? ≠ some (some (V.ref a)) := fun j hj z => by
        obtain ⟨b, d2, e3, _, _, _, o2⟩ := s.at (m.sub j hj)
        rw [z] at e3; cases e3
        exact o2.tracked e2
      have x : Ext P (fun b => P2 b ∨ b = a) H H1 := ⟨m.ext.keep, m.ext.tups, fun b z => z.elim (m.ext.sub b) fun z => .inr (by rw [z]; exact e2)⟩
      exact q v H1 _ O2 s3 ⟨x, fun b p n => .inl (m.hid b p n), m.own, m.sub, m.gone⟩ ⟨(fun z => nomatch z), fun _ => ⟨a, e1, .inr rfl, s.keep.gone a e2, nz, no, o⟩⟩ fun _ => ⟨a, e1, e2⟩
theorem evT_ok {e : E} {b : Bool} (s : EnvS K B P O ρ σ H) (h : evT Φ gl e ρ = some (b, ρ2)) {Q : Bool → Hp → Prop} (q : ∀ H1, ES K B ρ2 σ H1 → Q b H1) : tT K Φ gl e σ H Q := by
  unfold evT at h
  obtain ⟨⟨d, f, ρ3⟩, h1, h⟩ := bind_some h
  unfold evE at h1
  split at h1
  · rename_i ok
    obtain ⟨⟨d', f', ρ1⟩, h2, h1⟩ := bind_some h1
    cases h1
    cases d with
    | bool b' =>
      cases h
      have en0 := s.open' ok
      refine ⟨frE B P O σ (als e) (mods e), ρ, b, f, ρ1, en0, fun i z => z, fun i z => z, h2, fun H1 en1 k1 => ?_⟩
      obtain ⟨P2, O2, s2, _⟩ := after s ok en1 k1 rfl
      exact q H1 ⟨P2, O2, s2⟩
    | _ => cases h
  · cases h1
theorem evIt_ok {it : I} {ds : List PyData} {ρ2 : PEnv} (s : EnvS K B P O ρ σ H) (h : evIt Φ gl it ρ = some (ds, ρ2)) {Q : It → Hp → Prop} (q : ∀ J H1 P2 O2, EnvS K B P2 O2 ρ2 σ H1 → ItOk K P2 J H1 ds → Q J H1) : tI K Φ gl it σ H Q := by
  unfold evIt at h
  split at h
  · rename_i ok
    obtain ⟨⟨ds', ρ1⟩, h2, h⟩ := bind_some h
    simp only [Option.pure_def, Option.some.injEq, Prod.mk.injEq] at h
    obtain ⟨hd, e2⟩ := h
    subst hd
    have en0 := s.open' ok
    refine ⟨frE B P O σ (alsI it) (modsI it), ρ, ds', ρ1, en0, fun i z => z, fun i z => z, h2, fun J H1 en1 k1 w => ?_⟩
    have key : ∀ b, ρ2 = frzIf ρ ρ1 (alsI it) (modsI it) b → (b = false ∨ ∃ es, it = .rng es) → Q J H1 := fun b e hb => by
      have hP : ∃ P2 O2, EnvS K B P2 O2 ρ2 σ H1 ∧ (P2 = (frE B P O σ (alsI it) (modsI it)).P ∨ ∃ es, it = .rng es) := by
        rcases hb with hb | hb
        · subst hb
          subst e
          refine ⟨_, _, ⟨en1.froz, fun a z => s.hid a z.1, ?_, fun p hp hi => s.io p hp (List.mem_filter.mp hi).1⟩, .inl rfl⟩
          obtain ⟨P2, O2, s2, _⟩ := after (b := false) s ok en1 k1 rfl
          exact s2.keep
        · obtain ⟨P2, O2, s2, _⟩ := after s ok en1 k1 e
          exact ⟨P2, O2, s2, .inr hb⟩
      obtain ⟨P2, O2, s2, e | ⟨es, e⟩⟩ := hP
      · subst e
        exact q J H1 _ O2 s2 (itP_ok w)
      · subst e
        exact q J H1 P2 O2 s2 fun i P' H2 x => w i P' H2 ⟨fun a o _ n => absurd trivial n, x.tups, fun a _ => .inl trivial⟩
    cases it with
    | rng es => exact key true e2.symm (.inr ⟨es, rfl⟩)
    | _ => exact key false e2.symm (.inl rfl)
  · cases h
end
end PP

/-! PP11: statements: stores, blocks, loops. -/
namespace PP
open PySem PySem.Spec PyProof.Rows L2 RZ
section
variable {K : PySem.W.Frag} {Φ : Nat → List PyData → Option (PyData × List PyData)} {gl : List PyData} {B : Bs} {P : Addr → Prop} {O : List Nat} {ρ ρ1 ρ2 : PEnv} {σ : L2.St} {H H1 : Hp}
theorem EnvS.setSh (s : EnvS K B P O ρ σ H) {i : Nat} {v : V} {d : PyData} (hl : i < ρ.length) (r : Rp K H P v d) : EnvS K B P (O.filter fun j => !([i] : List Nat).contains j) (ρ.set i (.fz d)) (σ.set i (some v)) H := by
  refine ⟨s.env.setFz (by simp) hl r, s.hid, s.keep, fun p hp hi => ?_⟩
  obtain ⟨h1, h2⟩ := List.mem_filter.mp hi
  rw [List.getElem?_set_ne fun z => by simp [z] at h2]
  exact s.io p hp h1
theorem EnvS.setOw (s : EnvS K B P O ρ σ H) {i : Nat} {a : Addr} {d : PyData} (hl : i < ρ.length) (hio : i ∉ B.io.map (·.1)) (hp : P a) (nz : ¬ B.Z a) (no : ∀ j, j ∈ O → σ[j]? ≠ some (some (V.ref a))) (o : Own K H P a d) :
    EnvS K B P (i :: O.filter fun j => !([i] : List Nat).contains j) (ρ.set i (.ow d)) (σ.set i (some (.ref a))) H := by
  have hs : i < σ.length := by rw [← s.env.len]; exact hl
  have off : ∀ j, j ≠ i → (σ.set i (some (V.ref a)))[j]? = σ[j]? := fun j hj => List.getElem?_set_ne fun z => hj z.symm
  have offr : ∀ j, j ≠ i → (ρ.set i (.ow d))[j]? = ρ[j]? := fun j hj => List.getElem?_set_ne fun z => hj z.symm
  have mem : ∀ {j}, j ∈ (i :: O.filter fun j => !([i] : List Nat).contains j) → j = i ∨ (j ∈ O ∧ j ≠ i) := fun {j} hj => by
    rcases List.mem_cons.mp hj with z | z
    · exact .inl z
    · obtain ⟨h1, h2⟩ := List.mem_filter.mp z
      exact .inr ⟨h1, fun z => by simp [z] at h2⟩
  have mem' : ∀ {j}, j ∈ O → j ≠ i → j ∈ (i :: O.filter fun j => !([i] : List Nat).contains j) := fun {j} hj n => List.mem_cons_of_mem _ (List.mem_filter.mpr ⟨hj, by simp [n]⟩)
  have get : (σ.set i (some (V.ref a)))[i]? = some (some (V.ref a)) := List.getElem?_set_self hs
  refine ⟨⟨fun j hj => ?_, fun j k b hj hk e1 e2 => ?_, s.env.zp, fun j hj => by simp at hj, fun j hj => ?_, fun j d2 e => ?_, fun j d2 e => ?_, s.env.there, fun hk => by simp at hk, by rw [List.length_set, List.length_set]; exact s.env.len⟩, s.hid, s.keep, fun p hpp hi => ?_⟩
  · rcases mem hj with z | ⟨h1, h2⟩
    · subst z
      exact ⟨a, get, ⟨fun _ z => by simp at z, fun _ => hp⟩, nz⟩
    · rw [off j h2]
      exact s.env.adr j h1
  · rcases mem hj with z | ⟨h1, h2⟩
    · rcases mem hk with z2 | ⟨h3, h4⟩
      · rw [z, z2]
      · rw [off k h4] at e2
        subst z
        rw [get] at e1; cases e1
        exact absurd e2 (no k h3)
    · rw [off j h2] at e1
      rcases mem hk with z2 | ⟨h3, h4⟩
      · subst z2
        rw [get] at e2; cases e2
        exact absurd e1 (no j h1)
      · rw [off k h4] at e2
        exact s.env.inj j k b h1 h3 e1 e2
  · rcases mem hj with z | ⟨h1, h2⟩
    · subst z; exact ⟨d, List.getElem?_set_self hl⟩
    · rw [offr j h2]
      exact s.env.shape j h1
  · by_cases z : j = i
    · subst z
      rw [List.getElem?_set_self hl] at e
      cases e
      exact ⟨List.mem_cons_self .., a, get, o⟩
    · rw [offr j z] at e
      obtain ⟨h1, b, e2, o2⟩ := s.env.ow j d2 e
      exact ⟨mem' h1 z, b, by rw [off j z]; exact e2, o2⟩
  · by_cases z : j = i
    · subst z
      rw [List.getElem?_set_self hl] at e
      cases e
    · rw [offr j z] at e
      rw [off j z]
      exact s.env.fz j d2 e
  · rcases mem hi with z | ⟨h1, h2⟩
    · exact absurd (List.mem_map.mpr ⟨p, hpp, z⟩) hio
    · rw [off p.1 h2]
      exact s.io p hpp h1
/-- a value is stored -/
theorem EnvS.store (s : EnvS K B P O ρ σ H) {i : Nat} {v : V} {d : PyData} {f : Fl} (hl : i < ρ.length) (hio : i ∉ B.io.map (·.1)) (g : Got K B P O σ H v d f) : ∃ O', EnvS K B P O' (setF ρ i d f) (σ.set i (some v)) H ∧ ∀ j, j ∈ O' → (j = i ∧ f = .fr) ∨ (j ∈ O ∧ j ≠ i) := by
  cases f with
  | sh => exact ⟨_, s.setSh hl (g.rp rfl), fun j hj => .inr ⟨(List.mem_filter.mp hj).1, fun z => by have := (List.mem_filter.mp hj).2; simp [z] at this⟩⟩
  | fr =>
    obtain ⟨a, e, hp, h0, nz, no, o⟩ := g.fr rfl
    subst e
    refine ⟨_, s.setOw hl hio hp nz no o, fun j hj => ?_⟩
    rcases List.mem_cons.mp hj with z | z
    · exact .inl ⟨z, rfl⟩
    · exact .inr ⟨(List.mem_filter.mp z).1, fun z2 => by have := (List.mem_filter.mp z).2; simp [z2] at this⟩
/-- slots forgotten, what they hold left alone -/
theorem EnvS.forget (s : EnvS K B P O ρ σ H) (vs : List Nat) : EnvS K B P (O.filter fun j => !vs.contains j) (wipeP ρ vs) σ H := by
  have mem : ∀ {j}, j ∈ (O.filter fun j => !vs.contains j) → j ∈ O ∧ j ∉ vs := fun {j} hj => by simpa using hj
  refine ⟨⟨fun j hj => s.env.adr j (mem hj).1, fun j k b hj hk => s.env.inj j k b (mem hj).1 (mem hk).1, s.env.zp, fun j hj => by simp at hj, fun j hj => ?_, fun j d e => ?_, fun j d e => ?_, s.env.there, fun hk => by simp at hk, by rw [wipeP_len]; exact s.env.len⟩, s.hid, s.keep, fun p hp hi => s.io p hp (mem hi).1⟩
  · rw [wipeP_out (mem hj).2]
    exact s.env.shape j (mem hj).1
  · obtain ⟨e1, e2⟩ := wipeP_some e (by simp)
    obtain ⟨h1, r⟩ := s.env.ow j d e1
    exact ⟨List.mem_filter.mpr ⟨h1, by simp [e2]⟩, r⟩
  · obtain ⟨e1, e2⟩ := wipeP_some e (by simp)
    exact s.env.fz j d e1
theorem EnvS.grow (s : EnvS K B P O ρ σ H) (g : ∀ a o, H a = some o → H1 a = some o) : EnvS K B P O ρ σ H1 := ⟨s.env.grow g, s.hid, s.keep.grow g, s.io⟩
/-- what is one's own changes -/
theorem EnvS.write (s : EnvS K B P O ρ σ H) {i : Nat} {a : Addr} {d' : PyData} {u : HO} (hi : i ∈ O) (ha : σ[i]? = some (some (V.ref a))) (o : Own K (upd H a u) P a d') : EnvS K B P O (ρ.set i (.ow d')) σ (upd H a u) := by
  obtain ⟨b, d, e1, e2, hp, nz, o1⟩ := s.at hi
  rw [ha] at e1; cases e1
  have nt : ∀ x xs, H x = some (.tup xs) → x ≠ a := fun x xs e z => by
    obtain ⟨w, hw, hm⟩ := o1.there
    subst z
    rw [e] at hw; cases hw; exact hm
  have x : Ext P P H (upd H a u) := ⟨fun b w e n => by rw [upd_ne fun z => n (by rw [z]; exact hp)]; exact e, fun b xs e => by rw [upd_ne (nt b xs e)]; exact e, fun _ z => .inl z⟩
  have hl : i < ρ.length := (List.getElem?_eq_some_iff.mp e2).1
  have offr : ∀ j, j ≠ i → (ρ.set i (.ow d'))[j]? = ρ[j]? := fun j hj => List.getElem?_set_ne fun z => hj z.symm
  refine ⟨⟨s.env.adr, s.env.inj, s.env.zp, s.env.mo, fun j hj => ?_, fun j d2 e => ?_, fun j d2 e => ?_, fun b hb => upd_keep b (s.env.there b hb), fun hk => by simp at hk, by rw [List.length_set]; exact s.env.len⟩, s.hid, ⟨fun b w e n => ?_, fun b xs e => x.tups b xs (s.keep.tups b xs e), fun b e => ?_⟩, s.io⟩
  · by_cases z : j = i
    · subst z; exact ⟨d', List.getElem?_set_self hl⟩
    · rw [offr j z]; exact s.env.shape j hj
  · by_cases z : j = i
    · subst z
      rw [List.getElem?_set_self hl] at e; cases e
      exact ⟨hi, a, ha, o⟩
    · rw [offr j z] at e
      obtain ⟨h1, b, e3, o2⟩ := s.env.ow j d2 e
      refine ⟨h1, b, e3, o2.ext x fun w hw => ?_⟩
      rw [upd_ne fun z2 => z (s.env.inj j i a h1 hi (by rw [e3, z2]) ha)]
      exact hw
  · by_cases z : j = i
    · subst z
      rw [List.getElem?_set_self hl] at e; cases e
    · rw [offr j z] at e
      obtain ⟨v, e3, r⟩ := s.env.fz j d2 e
      exact ⟨v, e3, r.ext x⟩
  · have := s.keep.keep b w e n
    rw [upd_ne fun z => ?_]
    · exact this
    · subst z
      rcases s.hid _ hp with q | q | q
      · exact nz q
      · exact n q
      · rw [q] at e; cases e
  · refine s.keep.gone b ?_
    cases e5 : H b with
    | none => rfl
    | some w =>
      obtain ⟨w2, e6⟩ := upd_keep (H := H) (a := a) (o := u) b ⟨w, e5⟩
      rw [e6] at e; cases e
theorem EnvS.extA (s : EnvS K B P O ρ σ H) {i : Nat} {a : Addr} {u : HO} (hi : i ∈ O) (ha : σ[i]? = some (some (V.ref a))) : Ext P P H (upd H a u) := by
  obtain ⟨b, d, e1, e2, hp, nz, o1⟩ := s.at hi
  rw [ha] at e1; cases e1
  have nt : ∀ x xs, H x = some (.tup xs) → x ≠ a := fun x xs e z => by
    obtain ⟨w, hw, hm⟩ := o1.there
    subst z
    rw [e] at hw; cases hw; exact hm
  exact ⟨fun b w e n => by rw [upd_ne fun z => n (by rw [z]; exact hp)]; exact e, fun b xs e => by rw [upd_ne (nt b xs e)]; exact e, fun _ z => .inl z⟩

/-! ### the judgement -/
def Post (K : PySem.W.Frag) (B : Bs) : Out → Ends → Prop
  | .nx ρ', D => ∀ σ' H', ES K B ρ' σ' H' → D.nx σ' H'
  | .bk ρ', D => ∀ σ' H', ES K B ρ' σ' H' → D.bk σ' H'
  | .rt d ρ', D => ∀ v σ' H' P O, EnvS K B P O ρ' σ' H' → Rp K H' P v d → D.rt v H'
variable (K Φ gl) (ios : List Nat)
def tS (st : S) : TS := fun D σ H => ∃ B ρ o, B.io.map (·.1) = ios ∧ ES K B ρ σ H ∧ run Φ gl ios st ρ = some o ∧ Post K B o D
def tSs (st : Ss) : TS := fun D σ H => ∃ B ρ o, B.io.map (·.1) = ios ∧ ES K B ρ σ H ∧ runs Φ gl ios st ρ = some o ∧ Post K B o D
end
def PSv (X : Cx) (Φ : Nat → List PyData → Option (PyData × List PyData)) (gl : List PyData) (ios : List Nat) (p : Stmt) (st : S) : Prop := PS X p (tS X.K Φ gl ios st)
def PSsv (X : Cx) (Φ : Nat → List PyData → Option (PyData × List PyData)) (gl : List PyData) (ios : List Nat) (p : List Stmt) (st : Ss) : Prop := PSs X p (tSs X.K Φ gl ios st)
theorem _root_.L2.PS.imp {X : Cx} {p : Stmt} {t t' : TS} (h : PS X p t) (i : ∀ D σ H, t' D σ H → t D σ H) : PS X p t' := ⟨fun pins s σ H D I w => h.run pins s σ H D I (i D σ H w)⟩
theorem _root_.L2.PSs.imp {X : Cx} {p : List Stmt} {t t' : TS} (h : PSs X p t) (i : ∀ D σ H, t' D σ H → t D σ H) : PSs X p t' := ⟨fun pins s σ H D I w => h.run pins s σ H D I (i D σ H w)⟩
section
variable {X : Cx} {Φ : Nat → List PyData → Option (PyData × List PyData)} {gl : List PyData} {ios : List Nat} {pos : Pos}
theorem ss_nil : PSsv X Φ gl ios [] .nil :=
  pss_nil.imp fun D σ H ⟨B, ρ, o, hb, s, h, q⟩ => by
    simp only [runs, Option.some.injEq] at h
    subst h
    exact q σ H s
theorem ss_cons {p : Stmt} {ps : List Stmt} {st : S} {ss : Ss} (h1 : PSv X Φ gl ios p st) (h2 : PSsv X Φ gl ios ps ss) : PSsv X Φ gl ios (p :: ps) (.cons st ss) :=
  (pss_cons h1 h2).imp fun D σ H ⟨B, ρ, o, hb, s, h, q⟩ => by
    simp only [runs] at h
    obtain ⟨o1, h1, h⟩ := bind_some h
    refine ⟨B, ρ, o1, hb, s, h1, ?_⟩
    cases o1 with
    | nx ρ1 => exact fun σ' H' s' => ⟨B, ρ1, o, hb, s', h, q⟩
    | bk ρ1 => cases h; exact q
    | rt d ρ1 => cases h; exact q
/-- a docstring, pass: nothing -/
theorem ss_skip {p : Stmt} {ps : List Stmt} {ss : Ss} (h1 : PS X p tNext) (h2 : PSsv X Φ gl ios ps ss) : PSsv X Φ gl ios (p :: ps) ss :=
  (pss_cons h1 h2).imp fun D σ H w => w
theorem asg_core {K : PySem.W.Frag} {i : Nat} {e : E} {D : Ends} {σ : L2.St} {H : Hp} (w : tS K Φ gl ios (.asg i e) D σ H) : tAsg (tE K Φ gl e) (gName i) D σ H := by
  obtain ⟨B, ρ, o, hb, ⟨P, O, s⟩, h, q⟩ := w
  simp only [run] at h
  obtain ⟨⟨d, f, ρ1⟩, h1, h⟩ := bind_some h
  dsimp only at h
  split at h
  · rename_i hc
    cases h
    rw [Bool.and_eq_true] at hc
    obtain ⟨c1, c2⟩ := hc
    refine evE_got s h1 fun v H1 P2 O2 s2 m g _ => ?_
    obtain ⟨O3, s3, _⟩ := s2.store (i := i) (by rw [s2.env.len, ← s.env.len]; exact of_decide_eq_true c1) (by rw [hb]; simpa using c2) g
    exact q _ _ ⟨P2, O3, s3⟩
  · cases h
theorem s_asg {i : Nat} {x : Str} {p : Expr} {e : E} {pos' : Pos} (hN : X.N.Nodup) (hi : X.N[i]? = some x) (hx : Loc X.env.scope x) (he : PEv X Φ gl p e) (hs : swapsWith p (some (.Name x pos')) pos.line X.env = pure false := by rfl) (hf : X.fn x = true ∨ X.env.scope.names.lookup x = some .local := by first | exact .inl rfl | exact .inr rfl | assumption) :
    PSv X Φ gl ios (.Assign [.Name x pos'] p pos) (.asg i e) := (ps_set hN hi hx he hs hf).imp fun D σ H w => asg_core w
theorem s_asgC {i : Nat} {e : E} {p : Stmt} (h : PS X p (tAsg (tE X.K Φ gl e) (gName i))) : PSv X Φ gl ios p (.asg i e) := h.imp fun D σ H w => asg_core w
theorem s_asgT {tg p : Expr} {g : G} {e : E} (he : PEv X Φ gl p e) (hg : PGv X tg g) (hs : swapsWithSole [tg] p pos.line X.env = pure false := by rfl) (hw : swappedStores [tg] p X.env = pure none := by rfl)
    (h1 : (assignEach [tg] X.env).map (·.2) = [assign tg X.env] := by rfl) : PSv X Φ gl ios (.Assign [tg] p pos) (.asgT g e) :=
  (ps_asg he hg hs hw h1).imp fun D σ H ⟨B, ρ, o, hb, ⟨P, O, s⟩, h, q⟩ => by
    simp only [run] at h
    obtain ⟨⟨d, f, ρ1⟩, h1, h⟩ := bind_some h
    obtain ⟨ρ2, h2, h⟩ := bind_some h
    cases h
    refine evE_ok s h1 fun v H1 P2 O2 s2 m r _ => ⟨_, ρ1, d, ρ2, s2.env, fun i _ z => by simp at z, r, h2, fun σ' en' k => q _ _ ⟨P2, _, en', s2.hid, s2.keep, fun p hp hi => ?_⟩⟩
    obtain ⟨h3, h4⟩ := mem_less.mp hi
    rw [k p.1 h4]
    exact s2.io p hp h3
theorem s_ret {p : Expr} {e : E} (he : PEv X Φ gl p e) : PSv X Φ gl ios (.Return (some p) pos) (.ret e) :=
  (ps_ret he).imp fun D σ H ⟨B, ρ, o, hb, ⟨P, O, s⟩, h, q⟩ => by
    simp only [run] at h
    obtain ⟨⟨d, f, ρ1⟩, h1, h⟩ := bind_some h
    cases h
    exact evE_ok s h1 fun v H1 P2 O2 s2 m r _ => q v _ _ P2 O2 s2 r
theorem s_brk : PSv X Φ gl ios (.Break pos) .brk :=
  ps_break.imp fun D σ H ⟨B, ρ, o, hb, s, h, q⟩ => by
    simp only [run, Option.some.injEq] at h
    subst h
    exact q _ _ s
theorem s_if {c : Expr} {a b : List Stmt} {ec : E} {sa sb : Ss} (hc : PTv X Φ gl c ec) (ha : PSsv X Φ gl ios a sa) (hb : PSsv X Φ gl ios b sb) : PSv X Φ gl ios (.If c a b pos) (.ifs ec sa sb) :=
  (ps_if hc ha hb).imp fun D σ H ⟨B, ρ, o, hb, ⟨P, O, s⟩, h, q⟩ => by
    simp only [run] at h
    obtain ⟨⟨b, ρ1⟩, h1, h⟩ := bind_some h
    refine evT_ok s h1 fun H1 s1 => ?_
    cases b with
    | true => exact ⟨B, ρ1, o, hb, s1, h, q⟩
    | false => exact ⟨B, ρ1, o, hb, s1, h, q⟩
theorem s_while {c : Expr} {a : List Stmt} {ec : E} {sa : Ss} {dead : List Nat} (hp : PassesOwn (model X.prog X.w) X.A X.env X.xe) (hc : PTv X Φ gl c ec) (ha : PSsv X Φ gl ios a sa) : PSv X Φ gl ios (.While c a [] pos) (.whil ec sa dead) :=
  (ps_while hp hc ha).imp fun D σ H ⟨B, ρ, o, hb, s, h, q⟩ => by
    simp only [run] at h
    refine ⟨fun m σ H => ∃ ρ, ES X.K B ρ σ H ∧ whileL (fun ρ => evT Φ gl ec ρ) (fun ρ => runs Φ gl ios sa ρ) dead m ρ = some o, ⟨1000000, ρ, s, h⟩, ?_⟩
    rintro m σ H ⟨ρ, ⟨P, O, s⟩, h⟩
    cases m with
    | zero => simp [whileL] at h
    | succ m =>
      simp only [whileL] at h
      obtain ⟨⟨b, ρ1⟩, h1, h⟩ := bind_some h
      refine evT_ok (s.forget dead) h1 fun H1 s1 => ?_
      cases b with
      | false =>
        cases h
        exact q _ _ s1
      | true =>
        obtain ⟨o1, h2, h⟩ := bind_some h
        refine ⟨fun σ' H' => ∃ ρ, ES X.K B ρ σ' H' ∧ whileL (fun ρ => evT Φ gl ec ρ) (fun ρ => runs Φ gl ios sa ρ) dead m ρ = some o, fun σ' H' z => ⟨m, Nat.lt_succ_self m, z⟩, B, ρ1, o1, hb, s1, h2, ?_⟩
        cases o1 with
        | nx ρ2 => exact fun σ' H' s' => ⟨ρ2, s', h⟩
        | bk ρ2 =>
          cases h
          exact fun σ' H' ⟨P', O', s'⟩ => q _ _ ⟨P', _, s'.forget dead⟩
        | rt d ρ2 => cases h; exact q
/-- a fresh start within a def's run -/
theorem EnvS.rebase {K : PySem.W.Frag} {B : Bs} {P : Addr → Prop} {O : List Nat} {ρ : PEnv} {σ : L2.St} {H : Hp} (s : EnvS K B P O ρ σ H) : EnvS K ⟨B.Z, fun a => P a ∧ ¬ B.Z a, H, B.io⟩ P O ρ σ H :=
  ⟨s.env, fun a p => by
    by_cases z : B.Z a
    · exact .inl z
    · exact .inr (.inl ⟨p, z⟩), .refl, s.io⟩
theorem EnvS.unbase {K : PySem.W.Frag} {B : Bs} {P P' : Addr → Prop} {O O' : List Nat} {ρ ρ' : PEnv} {σ σ' : L2.St} {H H' : Hp} (s : EnvS K B P O ρ σ H) (s' : EnvS K ⟨B.Z, fun a => P a ∧ ¬ B.Z a, H, B.io⟩ P' O' ρ' σ' H') : EnvS K B P' O' ρ' σ' H' :=
  ⟨s'.env, fun a p => by
    rcases s'.hid a p with z | z | z
    · exact .inl z
    · exact s.hid a z.1
    · exact .inr (.inr (s.keep.gone a z)), ⟨fun a o e n => s'.keep.keep a o (s.keep.keep a o e n) fun z => (by
      rcases s.hid a z.1 with q | q | q
      · exact z.2 q
      · exact n q
      · rw [q] at e; cases e), fun a xs e => s'.keep.tups a xs (s.keep.tups a xs e), fun a e => s.keep.gone a (s'.keep.gone a e)⟩, s'.io⟩
theorem EnvS.extB {K : PySem.W.Frag} {B : Bs} {P P' : Addr → Prop} {O O' : List Nat} {ρ ρ' : PEnv} {σ σ' : L2.St} {H H' : Hp} (s : EnvS K B P O ρ σ H) (s' : EnvS K ⟨B.Z, fun a => P a ∧ ¬ B.Z a, H, B.io⟩ P' O' ρ' σ' H') : Ext P P' H H' :=
  ⟨fun a o e n => s'.keep.keep a o e fun z => n z.1, s'.keep.tups, fun a p => by
    rcases s'.hid a p with z | z | z
    · exact .inl (s.env.zp a z)
    · exact .inl z.1
    · exact .inr z⟩
theorem Post.unbase {K : PySem.W.Frag} {B : Bs} {P : Addr → Prop} {O : List Nat} {ρ : PEnv} {σ : L2.St} {H : Hp} (s : EnvS K B P O ρ σ H) {o : Out} {D : Ends} (q : Post K B o D) : Post K ⟨B.Z, fun a => P a ∧ ¬ B.Z a, H, B.io⟩ o D := by
  cases o with
  | nx ρ' => exact fun σ' H' ⟨P', O', s'⟩ => q _ _ ⟨P', O', s.unbase s'⟩
  | bk ρ' => exact fun σ' H' ⟨P', O', s'⟩ => q _ _ ⟨P', O', s.unbase s'⟩
  | rt d ρ' => exact fun v σ' H' P' O' s' r => q v _ _ P' O' (s.unbase s') r
theorem for_core {K : PySem.W.Frag} {g : G} {sa : Ss} {dead : List Nat} {o : Out} {D : Ends} {B : Bs} {P : Addr → Prop} {O : List Nat} {ρ : PEnv} {σ : L2.St} {H : Hp} {J : It} {ds : List PyData} (hb : B.io.map (·.1) = ios) (s : EnvS K B P O ρ σ H) (ok : ItOk K P J H ds)
    (h : forL (asgG g) (fun ρ => runs Φ gl ios sa ρ) dead ds ρ = some o) (q : Post K B o D) : ∃ W : Nat → Nat → L2.St → Hp → Prop, (∃ m, W 0 m σ H) ∧ ∀ i m σ H, W i m σ H →
    (J.stop i H ∧ D.nx σ H) ∨ (J.go i H ∧ ∃ N : L2.St → Hp → Prop, (∀ σ' H', N σ' H' → ∃ m', m' < m ∧ W (i + 1) m' σ' H') ∧ ∀ x H', J.yld i H x H' → tG K g x σ H' fun σ2 H2 => tSs K Φ gl ios sa { D with nx := N, ct := N, bk := D.nx } σ2 H2) := by
  refine ⟨fun i m σ' H' => m = ds.length - i ∧ i ≤ ds.length ∧ ∃ ρ', ES K ⟨B.Z, fun a => P a ∧ ¬ B.Z a, H, B.io⟩ ρ' σ' H' ∧ forL (asgG g) (fun ρ => runs Φ gl ios sa ρ) dead (ds.drop i) ρ' = some o, ⟨ds.length, by simp, Nat.zero_le _, ρ, ⟨P, O, s.rebase⟩, by simpa using h⟩, ?_⟩
  rintro i m σ' H' ⟨rfl, hi, ρ', ⟨P', O', s'⟩, h⟩
  have x := s.extB s'
  obtain ⟨hstop, hgo⟩ := ok i P' H' x
  have q' := Post.unbase s q
  by_cases hlt : i < ds.length
  · obtain ⟨go, yl⟩ := hgo ds[i] (by simp [hlt])
    rw [List.drop_eq_getElem_cons hlt] at h
    simp only [forL] at h
    obtain ⟨ρ1, h1, h⟩ := bind_some h
    obtain ⟨o1, h2, h⟩ := bind_some h
    refine .inr ⟨go, fun σ2 H2 => ∃ ρ2, ES K ⟨B.Z, fun a => P a ∧ ¬ B.Z a, H, B.io⟩ ρ2 σ2 H2 ∧ forL (asgG g) (fun ρ => runs Φ gl ios sa ρ) dead (ds.drop (i + 1)) ρ2 = some o, fun σ2 H2 ⟨ρ2, z1, z2⟩ => ⟨ds.length - (i + 1), by omega, rfl, hlt, ρ2, z1, z2⟩, fun v H1 hy => ?_⟩
    obtain ⟨g1, r1⟩ := yl v H1 hy
    have s1 := (s'.forget dead).grow g1
    refine ⟨_, _, ds[i], ρ1, s1.env, fun i _ z => by simp at z, r1, h1, fun σ2 en2 k2 => ?_⟩
    refine ⟨⟨B.Z, fun a => P a ∧ ¬ B.Z a, H, B.io⟩, ρ1, o1, hb, ⟨P', _, en2, s1.hid, s1.keep, fun p hp hi => ?_⟩, h2, ?_⟩
    · obtain ⟨h3, h4⟩ := mem_less.mp hi
      rw [k2 p.1 h4]
      exact s1.io p hp h3
    · cases o1 with
      | nx ρ2 => exact fun σ3 H3 s3 => ⟨ρ2, s3, h⟩
      | bk ρ2 =>
        cases h
        exact fun σ3 H3 ⟨P3, O3, s3⟩ => q' _ _ ⟨P3, _, s3.forget dead⟩
      | rt d ρ2 => cases h; exact q'
  · rw [List.drop_eq_nil_of_le (by omega)] at h
    simp only [forL, Option.some.injEq] at h
    subst h
    exact .inl ⟨hstop (by omega), q' _ _ ⟨P', _, s'.forget dead⟩⟩
theorem s_for {tg iter : Expr} {a : List Stmt} {g : G} {it : I} {sa : Ss} {dead : List Nat} (hp : PassesOwn (model X.prog X.w) X.A X.env X.xe) (hc : X.calm = true) (hi : PIv X Φ gl tg iter it) (hg : PGv X tg g) (ha : PSsv X Φ gl ios a sa)
    (hs : ∀ x, foldedSetIterable iter X.env x = pure x := by intro _; rfl) : PSv X Φ gl ios (.For tg iter a [] pos) (.for_ g it sa dead) :=
  (ps_for hp hc hi hg ha hs).imp fun D σ H ⟨B, ρ, o, hb, ⟨P, O, s⟩, h, q⟩ => by
    simp only [run] at h
    obtain ⟨⟨ds, ρ1⟩, h1, h⟩ := bind_some h
    exact evIt_ok s h1 fun J H1 P2 O2 s2 ok => for_core hb s2 ok h q
/-- slots that are only read from here on -/
theorem ss_frz {is : List Nat} {ps : List Stmt} {ss : Ss} (h2 : PSsv X Φ gl ios ps ss) : PSsv X Φ gl ios ps (.cons (.frz is) ss) :=
  PSs.imp h2 fun D σ H ⟨B, ρ, o, hb, ⟨P, O, s⟩, h, q⟩ => by
    simp only [runs, run] at h
    split at h
    · cases h
    · rename_i hk
      simp only [Option.bind_eq_bind, Option.bind_some] at h
      have ok : okM ρ is [] = true := by
        unfold okM
        simp only [List.all_nil, Bool.true_and, Bool.or_eq_true, Bool.not_eq_true']
        exact .inl (by simpa using hk)
      have en := (s.open' ok).froz
      exact ⟨B, _, o, hb, ⟨_, _, ⟨en, fun a z => s.hid a z.1, s.keep, fun p hp hi => s.io p hp (List.mem_filter.mp hi).1⟩⟩, h, q⟩
end
end PP

/-! PP12: statements that change lists and dicts; several stores at once. -/
namespace PP
open PySem PySem.Spec PyProof.Rows L2 RZ
section
variable {K : PySem.W.Frag} {H : Hp} {P : Addr → Prop}
theorem rpT_has {k : List L2.Key} : ∀ {kvs : List (List L2.Key × V)} {ds : List (PyData × PyData)}, RpT K H P kvs ds → (kvs.any fun kv => decide (kv.1 = k)) = dhas ds (.inr k)
  | _, _, .nil => rfl
  | _, _, .cons (k := k') r rs => by
    rw [List.any_cons, rpT_has rs]
    show _ = (decide (dkey (PyData.tuple (k'.map keyPD)) = some (Sum.inr k)) || dhas _ _)
    rw [dkey_t]
    by_cases h : k' = k
    · simp [h]
    · have : ¬ (some (Sum.inr k') : Option DK) = some (Sum.inr k) := fun e => h (Sum.inr.inj (Option.some.inj e))
      simp [h, this]
theorem rpT_map {k : List L2.Key} {v : V} {d : PyData} (r : Rp K H P v d) : ∀ {kvs : List (List L2.Key × V)} {ds : List (PyData × PyData)}, RpT K H P kvs ds →
    RpT K H P (kvs.map fun kv => if kv.1 = k then (kv.1, v) else kv) (ds.map fun p => if dkey p.1 = some (.inr k) then (p.1, d) else p)
  | _, _, .nil => .nil
  | _, _, .cons (k := k') r' rs => by
    have ih := rpT_map r (k := k) rs
    rw [List.map_cons, List.map_cons]
    show RpT K H P _ ((if dkey (PyData.tuple (k'.map keyPD)) = some (Sum.inr k) then _ else _) :: _)
    rw [dkey_t]
    by_cases h : k' = k
    · subst h
      simp only [if_true]
      exact .cons r ih
    · have : ¬ (some (Sum.inr k') : Option DK) = some (Sum.inr k) := fun e => h (Sum.inr.inj (Option.some.inj e))
      simp only [if_neg this, if_neg h]
      exact .cons r' ih
theorem rpT_snoc {k : List L2.Key} {v : V} {d : PyData} (r : Rp K H P v d) : ∀ {kvs : List (List L2.Key × V)} {ds : List (PyData × PyData)}, RpT K H P kvs ds → RpT K H P (kvs ++ [(k, v)]) (ds ++ [(.tuple (k.map keyPD), d)])
  | _, _, .nil => .cons r .nil
  | _, _, .cons r' rs => .cons r' (rpT_snoc r rs)
theorem dput_rpT {k : List L2.Key} {v : V} {d : PyData} (r : Rp K H P v d) {kvs : List (List L2.Key × V)} {ds : List (PyData × PyData)} (rk : RpT K H P kvs ds) : RpT K H P (putK kvs k v) (dput ds (.inr k) (.tuple (k.map keyPD)) d) := by
  unfold putK dput
  rw [rpT_has rk]
  split
  · exact rpT_map r rk
  · exact rpT_snoc r rk
theorem putK_ne {α : Type} [DecidableEq α] {kvs : List (α × V)} {k : α} {v : V} : putK kvs k v ≠ [] := by
  unfold putK
  split
  · rename_i h
    cases kvs with
    | nil => simp at h
    | cons _ _ => simp
  · simp
end
/-- o[i] = v, o one's own -/
def rSt (K : PySem.W.Frag) : TSet := fun o i v H Q => ∃ (P : Addr → Prop) (a : Addr) (d kd dv d' : PyData), o = .ref a ∧ P a ∧ Own K H P a d ∧ Rp K H P i kd ∧ Rp K H P v dv ∧ setV d kd dv = some d' ∧ ∀ u, Own K (upd H a u) P a d' → Q (upd H a u)
section
variable {X : Cx}
theorem own_ext {H : Hp} {P : Addr → Prop} {a : Addr} {u o : HO} (hp : P a) (h : H a = some o) (hm : ∀ xs, o ≠ .tup xs) : Ext P P H (upd H a u) :=
  ⟨fun b w e n => by rw [upd_ne fun z => n (by rw [z]; exact hp)]; exact e, fun b xs e => by rw [upd_ne fun z => by rw [z, h] at e; cases e; exact hm _ rfl]; exact e, fun _ z => .inl z⟩
theorem set_own (hu : X.A.units + 70 < cLine) : PSet X (rSt X.K) := by
  intro pins s σ H o i v ov iv u Q I ro ri rv ⟨P, a, d, kd, dv, d', e, hp, ow, rk, rd, hs, q⟩
  subst e
  cases ow with
  | lst h r =>
    cases kd with
    | int k =>
      simp only [setV] at hs
      obtain ⟨j, ej, ed⟩ := Option.map_eq_some_iff.mp hs
      subst ed
      cases rk
      refine set_list pins s σ H _ _ _ ov iv u Q I ro ri rv ⟨a, _, k, j, rfl, rfl, h, by rw [r.length]; exact ej, q _ (.lst upd_same ((r.set j rd).ext (own_ext hp h fun _ z => nomatch z)))⟩
    | _ => simp [setV] at hs
  | dk h r =>
    simp only [setV] at hs
    obtain ⟨k, ek, hs⟩ := bind_some hs
    split at hs
    · rename_i hf
      rw [Bool.and_eq_true] at hf
      obtain ⟨hf, hz⟩ := hf
      have hz := of_decide_eq_true hz
      cases hs
      cases (show ov = Value.ref a from ro)
      cases k with
      | inl k =>
        have e : kd = keyPD k := dkey_inv ek
        subst e
        have := key_val rk
        subst this
        exact d_setItem (by omega) I (.k h (by rw [r.length]; exact hz)) ri rv fun s' I' => ⟨_, I', q _ (.dk upd_same ((dput_rp rd r).ext (own_ext hp h fun _ z => nomatch z)))⟩
      | inr ks =>
        have e : kd = .tuple (ks.map keyPD) := dkey_inv ek
        subst e
        obtain ⟨rfl, rfl⟩ := fit_k r hf
        cases rk with
        | tup hb rb =>
          rename_i b vs
          rw [keys_val rb] at hb
          have hb' : upd H a (.dT []) b = some (.tup (ks.map kV)) := by
            rw [upd_ne fun z => by rw [z, h] at hb; cases hb]; exact hb
          refine d_setItem (by omega) (to_dT I h) (.t upd_same hb' (Nat.lt_of_le_of_lt (Nat.zero_le _) hz)) ri rv fun s' I' => ⟨_, I', ?_⟩
          rw [upd_upd]
          exact q _ (.dt putK_ne upd_same ((dput_rpT rd .nil).ext (own_ext hp h fun _ z => nomatch z)))
    · cases hs
  | dt n h r =>
    simp only [setV] at hs
    obtain ⟨k, ek, hs⟩ := bind_some hs
    split at hs
    · rename_i hf
      rw [Bool.and_eq_true] at hf
      obtain ⟨hf, hz⟩ := hf
      have hz := of_decide_eq_true hz
      cases hs
      cases (show ov = Value.ref a from ro)
      cases k with
      | inl k => exact absurd (fit_t r hf).1 n
      | inr ks =>
        have e : kd = .tuple (ks.map keyPD) := dkey_inv ek
        subst e
        cases rk with
        | tup hb rb =>
          rename_i b vs
          rw [keys_val rb] at hb
          exact d_setItem (by omega) I (.t h hb (by rw [r.length]; exact hz)) ri rv fun s' I' => ⟨_, I', q _ (.dt putK_ne upd_same ((dput_rpT rd r).ext (own_ext hp h fun _ z => nomatch z)))⟩
    · cases hs
end
section
variable {X : Cx} {Φ : Nat → List PyData → Option (PyData × List PyData)} {gl : List PyData} {ios : List Nat} {pos cpos apos p : Pos}
theorem EnvS.atO {K : PySem.W.Frag} {B : Bs} {P : Addr → Prop} {O : List Nat} {ρ : PEnv} {σ : L2.St} {H : Hp} (s : EnvS K B P O ρ σ H) {i : Nat} {d : PyData} (h : getO ρ i = some d) : i ∈ O ∧ ∃ a, σ[i]? = some (some (V.ref a)) ∧ P a ∧ Own K H P a d := by
  have e := getO_iff h
  obtain ⟨hi, a, e2, o⟩ := s.env.ow i d e
  obtain ⟨b, d2, e3, e4, hp, _, _⟩ := s.at hi
  rw [e2] at e3; cases e3
  exact ⟨hi, a, e2, hp, o⟩
/-- x[k] = e -/
theorem s_setIx {i : Nat} {x : Str} {k e : Expr} {ek ee : E} {pos' : Pos} (hu : X.A.units + 70 < cLine) (hN : X.N[i]? = some x) (hv : Vis X.env.scope x) (hk : PEv X Φ gl k ek) (he : PEv X Φ gl e ee) (hd : (x == ("__debug__" : Str)) = false := by decide) (hcd : (x == ("__classdict__" : Str)) = false := by decide)
    (ha : ∀ v, assign (.Subscript (.Name x p) k pos') X.env v = (do
      let ov ← holding [v] (eval (.Name x p) X.env)
      let iv ← holding [v, ov] (eval k X.env)
      standAt pos'
      holding [v, ov, iv] (setItem ov iv v)
      release [v, ov, iv] []) := by intro _; rfl)
    (hs : swapsWithSole [.Subscript (.Name x p) k pos'] e pos.line X.env = pure false := by rfl) (hw : swappedStores [.Subscript (.Name x p) k pos'] e X.env = pure none := by rfl)
    (h1 : (assignEach [.Subscript (.Name x p) k pos'] X.env).map (·.2) = [assign (.Subscript (.Name x p) k pos') X.env] := by rfl) :
    PSv X Φ gl ios (.Assign [.Subscript (.Name x p) k pos'] e pos) (.setIx i ek ee) :=
  (ps_asg he (pg_sub (pe_var hN hv hd hcd) hk (set_own hu) ha) hs hw h1).imp fun D σ H ⟨B, ρ, o, hb, ⟨P, O, s⟩, h, q⟩ => by
    simp only [run] at h
    obtain ⟨⟨dv, fv, ρ1⟩, h1, h⟩ := bind_some h
    obtain ⟨c0, h2, h⟩ := bind_some h
    obtain ⟨⟨kd, fk, ρ2⟩, h3, h⟩ := bind_some h
    obtain ⟨c, h4, h⟩ := bind_some h
    obtain ⟨d', h5, h⟩ := bind_some h
    cases h
    refine evE_ok s h1 fun v H1 P1 O1 s1 m1 r1 _ => ?_
    obtain ⟨hi1, a, e1, hp1, o1⟩ := s1.atO h2
    refine ⟨_, e1, evE_ok s1 h3 fun kv H2 P2 O2 s2 m2 r2 _ => ?_⟩
    obtain ⟨hi2, a2, e2, hp2, o2⟩ := s2.atO h4
    have : a = a2 := by
      have e1 : σ[i]? = some (some (V.ref a)) := e1
      have e2 : σ[i]? = some (some (V.ref a2)) := e2
      rw [e1] at e2
      injection e2 with e2
      injection e2 with e2
      injection e2
    subst this
    exact ⟨P2, a, c, kd, dv, d', rfl, hp2, o2, r2, r1.ext m2.ext, h5, fun u ou => q _ _ ⟨P2, O2, s2.write hi2 e2 ou⟩⟩
theorem mut_core {K : PySem.W.Frag} {m : String} {i : Nat} {e : E} {D : Ends} {σ : L2.St} {H : Hp} {T : String} {r : V → List V → Hp → VK → Prop} (w : tS K Φ gl ios (.mut m i e) D σ H)
    (hT : ∀ P a d, mKind m d = true → Own K H P a d → tyV K T (.ref a) H)
    (hr : ∀ P H1 a v d dv d', P a → Own K H1 P a d → Rp K H1 P v dv → mutV m d dv = some d' → ∀ Q : VK, (∀ u z, Own K (upd H1 a u) P a d' → Q z (upd H1 a u)) → r (.ref a) [v] H1 Q) :
    tDrop (tBM K T r (tVar i) (tCons (tE K Φ gl e) tNil)) D σ H := by
  obtain ⟨B, ρ, o, hb, ⟨P, O, s⟩, h, q⟩ := w
  simp only [run] at h
  obtain ⟨d0, h0, h⟩ := bind_some h
  split at h
  · rename_i hk
    obtain ⟨⟨dv, fv, ρ1⟩, h1, h⟩ := bind_some h
    obtain ⟨d1, h2, h⟩ := bind_some h
    obtain ⟨d2, h3, h⟩ := bind_some h
    cases h
    obtain ⟨hi, a, e1, hp, o0⟩ := s.atO h0
    refine ⟨_, e1, hT P a d0 hk o0, evE_ok s h1 fun v H1 P1 O1 s1 m1 r1 _ => ?_⟩
    obtain ⟨hi1, a1, e2, hp1, o1⟩ := s1.atO h2
    have : a = a1 := by
      rw [e1] at e2
      injection e2 with e2
      injection e2 with e2
      injection e2
    subst this
    exact hr P1 H1 a v d1 dv d2 hp1 o1 r1 h3 _ fun u z ou => q _ _ ⟨P1, O1, s1.write hi1 e2 ou⟩
  · cases h
theorem ty_list {K : PySem.W.Frag} {H : Hp} (m : String) (hm : m ≠ "update") : ∀ (P : Addr → Prop) a d, mKind m d = true → Own K H P a d → tyV K "list" (.ref a) H := fun P a d hk o => by
  cases o with
  | lst h r => exact .inl ⟨rfl, _, .inl (.inl h)⟩
  | dk h r =>
    exfalso
    unfold mKind at hk
    split at hk <;> first | (exact absurd rfl hm) | (cases hk; done) | (rename_i z; cases z)
  | dt n h r =>
    exfalso
    unfold mKind at hk
    split at hk <;> first | (exact absurd rfl hm) | (cases hk; done) | (rename_i z; cases z)
variable {i : Nat} {x : Str} {e : Expr} {ee : E}
theorem s_append (hN : X.N[i]? = some x) (hv : Vis X.env.scope x) (he : PEv X Φ gl e ee) (hd : (x == ("__debug__" : Str)) = false := by decide) (hcd : (x == ("__classdict__" : Str)) = false := by decide)
    (hbase : attributeBase (.Name x p) "append" X.env (eval (.Name x p) X.env) = eval (.Name x p) X.env := by rfl)
    (hfew : ((backTo cpos (starEach [e] X.env)).all (fun x => !x.1) && (backToKw cpos (keywordEach [] X.env)).all (fun x => x.1.isSome)
      && decide (([e] : List Expr).length + ([] : List Keyword).length + (if ([] : List Keyword).isEmpty then 0 else 1) < 30)) = true := by rfl)
    (hline : (apos.endLine == cpos.line) = true := by rfl) (hs : starEach [e] X.env = (false, eval e X.env) :: starEach [] X.env := by rfl) (hplain : (backTo cpos (starEach [] X.env)).any (·.1) = false := by rfl)
    (hsw : swapsWith (.Call (.Attribute (.Name x p) "append" apos) [e] [] cpos) none pos.line X.env = pure false := by rfl) :
    PSv X Φ gl ios (.Expr (.Call (.Attribute (.Name x p) "append" apos) [e] [] cpos) pos) (.mut "append" i ee) :=
  (ps_expr (pe_bm (id := "list.append") PySem.F.plainAttrs_list PySem.F.slot_list_append PySem.F.type_list_append mt_append (pe_var hN hv hd hcd) (pa_cons he pa_nil hs) hbase hfew hline hs hplain) hsw).imp fun D σ H w =>
    mut_core w (ty_list _ (by decide)) fun P H1 a v d dv d' hp o r hm Q hQ => by
      cases o with
      | lst h ra =>
        simp only [mutV] at hm
        split at hm
        · rename_i hz
          cases hm
          exact ⟨a, _, v, rfl, rfl, h, by rw [ra.length]; exact hz, hQ _ _ (.lst upd_same ((ra.append (.cons r .nil)).ext (own_ext hp h fun _ z => nomatch z)))⟩
        · cases hm
      | dk h r => simp [mutV] at hm
      | dt n h r => simp [mutV] at hm
theorem s_extend (hN : X.N[i]? = some x) (hv : Vis X.env.scope x) (he : PEv X Φ gl e ee) (hd : (x == ("__debug__" : Str)) = false := by decide) (hcd : (x == ("__classdict__" : Str)) = false := by decide)
    (hbase : attributeBase (.Name x p) "extend" X.env (eval (.Name x p) X.env) = eval (.Name x p) X.env := by rfl)
    (hfew : ((backTo cpos (starEach [e] X.env)).all (fun x => !x.1) && (backToKw cpos (keywordEach [] X.env)).all (fun x => x.1.isSome)
      && decide (([e] : List Expr).length + ([] : List Keyword).length + (if ([] : List Keyword).isEmpty then 0 else 1) < 30)) = true := by rfl)
    (hline : (apos.endLine == cpos.line) = true := by rfl) (hs : starEach [e] X.env = (false, eval e X.env) :: starEach [] X.env := by rfl) (hplain : (backTo cpos (starEach [] X.env)).any (·.1) = false := by rfl)
    (hsw : swapsWith (.Call (.Attribute (.Name x p) "extend" apos) [e] [] cpos) none pos.line X.env = pure false := by rfl) :
    PSv X Φ gl ios (.Expr (.Call (.Attribute (.Name x p) "extend" apos) [e] [] cpos) pos) (.mut "extend" i ee) :=
  (ps_expr (pe_bm (id := "list.extend") PySem.F.plainAttrs_list PySem.F.slot_list_extend PySem.F.type_list_extend mt_extend (pe_var hN hv hd hcd) (pa_cons he pa_nil hs) hbase hfew hline hs hplain) hsw).imp fun D σ H w =>
    mut_core w (ty_list _ (by decide)) fun P H1 a v d dv d' hp o r hm Q hQ => by
      cases o with
      | lst h ra =>
        cases r with
        | lst n2 h2 rb =>
          simp only [mutV] at hm
          split at hm
          · rename_i hz
            cases hm
            exact ⟨a, _, _, _, rfl, rfl, h, h2, by rw [ra.length, rb.length]; exact hz, hQ _ _ (.lst upd_same ((ra.append rb).ext (own_ext hp h fun _ z => nomatch z)))⟩
          · cases hm
        | _ => simp [mutV] at hm
      | dk h r => simp [mutV] at hm
      | dt n h r => simp [mutV] at hm
/-- tg = x.pop() -/
theorem s_pop {tg : Expr} {g : G} (hN : X.N[i]? = some x) (hv : Vis X.env.scope x) (hg : PGv X tg g) (hd : (x == ("__debug__" : Str)) = false := by decide) (hcd : (x == ("__classdict__" : Str)) = false := by decide)
    (hbase : attributeBase (.Name x p) "pop" X.env (eval (.Name x p) X.env) = eval (.Name x p) X.env := by rfl) (hline : (apos.endLine == cpos.line) = true := by rfl)
    (hs : swapsWithSole [tg] (.Call (.Attribute (.Name x p) "pop" apos) [] [] cpos) pos.line X.env = pure false := by rfl) (hw : swappedStores [tg] (.Call (.Attribute (.Name x p) "pop" apos) [] [] cpos) X.env = pure none := by rfl)
    (h1 : (assignEach [tg] X.env).map (·.2) = [assign tg X.env] := by rfl) : PSv X Φ gl ios (.Assign [tg] (.Call (.Attribute (.Name x p) "pop" apos) [] [] cpos) pos) (.pop g i) :=
  (ps_asg (pe_bm0 (id := "list.pop") PySem.F.plainAttrs_list PySem.F.slot_list_pop PySem.F.type_list_pop mt_pop (pe_var hN hv hd hcd) hbase hline) hg hs hw h1).imp fun D σ H ⟨B, ρ, o, hb, ⟨P, O, s⟩, h, q⟩ => by
    simp only [run] at h
    obtain ⟨d0, h0, h⟩ := bind_some h
    cases d0 with
    | list xs =>
      obtain ⟨y, h1, h⟩ := bind_some h
      obtain ⟨ρ2, h2, h⟩ := bind_some h
      cases h
      obtain ⟨hi, a, e1, hp, o0⟩ := s.atO h0
      cases o0 with
      | @lst vs _ h ra =>
        obtain ⟨v, hv, rv⟩ := ra.get h1
        rw [← ra.length] at hv
        have x := own_ext (u := .lst vs.dropLast) hp h fun _ z => nomatch z
        have s2 := s.write hi e1 (.lst (xs := vs.dropLast) upd_same ((show RpAll X.K H P vs.dropLast xs.dropLast from by
          have := ra.take (xs.length - 1)
          rw [← List.dropLast_eq_take, ← ra.length, ← List.dropLast_eq_take] at this
          exact this).ext x))
        refine ⟨_, e1, .inl ⟨rfl, _, .inl (.inl h)⟩, a, _, v, rfl, rfl, h, hv, _, _, y, ρ2, s2.env, fun i _ z => by simp at z, rv.ext x, h2, fun σ' en' k => q _ _ ⟨P, _, en', s2.hid, s2.keep, fun p hp hi => ?_⟩⟩
        obtain ⟨h3, h4⟩ := mem_less.mp hi
        rw [k p.1 h4]
        exact s2.io p hp h3
    | _ => cases h
/-- x op= e, ints -/
theorem s_aug {op : Operator} {pos' : Pos} (hop : op = .Add ∨ op = .Sub) (hN : X.N.Nodup) (hi : X.N[i]? = some x) (hx : Loc X.env.scope x) (he : PEv X Φ gl e ee) (hf : X.fn x = true ∨ X.env.scope.names.lookup x = some .local := by first | exact .inl rfl | exact .inr rfl | assumption) :
    PSv X Φ gl ios (.AugAssign (.Name x pos') op e pos) (.aug i op ee) := by
  have core : ∀ (f : Int → Int → Int) (D : Ends) (σ : L2.St) (H : Hp), (∀ a b : Int, augV op (.int a) (.int b) = some (.int (f a b))) → tS X.K Φ gl ios (.aug i op ee) D σ H → tAug i (tE X.K Φ gl ee) (ipI f) D σ H := by
    intro f D σ H hf' ⟨B, ρ, o, hb, ⟨P, O, s⟩, h, q⟩
    simp only [run] at h
    obtain ⟨⟨y, fy, ρ1⟩, h1, h⟩ := bind_some h
    obtain ⟨c, hg, h⟩ := bind_some h
    obtain ⟨z, h2, h⟩ := bind_some h
    split at h
    · cases h
    · cases h
      have ab : ∃ a b : Int, c = .int a ∧ y = .int b := by
        cases c <;> cases y <;> first | exact ⟨_, _, rfl, rfl⟩ | (rcases hop with rfl | rfl <;> cases h2)
      obtain ⟨a, b, rfl, rfl⟩ := ab
      rw [hf'] at h2
      cases h2
      have slot : ρ[i]? = some (.fz (.int a)) := by
        unfold getS at hg
        cases e2 : ρ[i]? with
        | none => rw [e2] at hg; cases hg
        | some z =>
          rw [e2] at hg
          cases z with
          | no => cases hg
          | fz d => cases hg; rfl
          | ow d =>
            cases hg
            obtain ⟨_, _, _, o⟩ := s.env.ow i _ e2
            cases o
      obtain ⟨v, e3, r⟩ := s.env.fz i _ slot
      cases r
      refine ⟨_, e3, evE_ok s h1 fun w H1 P1 O1 s1 m1 r1 _ => ?_⟩
      cases r1
      exact ⟨a, b, rfl, rfl, q _ _ ⟨P1, _, s1.setSh (by rw [s1.env.len, ← s.env.len]; exact (List.getElem?_eq_some_iff.mp slot).1) (.int _)⟩⟩
  rcases hop with rfl | rfl
  · exact (ps_aug hN hi hx he ip_add hf).imp fun D σ H w => core _ D σ H (fun _ _ => rfl) w
  · exact (ps_aug hN hi hx he ip_sub hf).imp fun D σ H w => core _ D σ H (fun _ _ => rfl) w
/-- x[k] op= e, x a dict, ints -/
theorem s_augIx {op : Operator} {k : Expr} {ek : E} {tpos : Pos} (hop : op = .Add ∨ op = .Sub) (hu : X.A.units + 70 < cLine) (hN : X.N[i]? = some x) (hv : Vis X.env.scope x) (hk : PEv X Φ gl k ek) (he : PEv X Φ gl e ee) (hd : (x == ("__debug__" : Str)) = false := by decide) (hcd : (x == ("__classdict__" : Str)) = false := by decide)
    (ha : ∀ ov iv new, augStore k ov iv new = (do holding [new, ov, iv] (setItem ov iv new); release [new, ov, iv] []; pure .next) := by intros; rfl) : PSv X Φ gl ios (.AugAssign (.Subscript (.Name x p) k tpos) op e pos) (.augIx i ek op ee) := by
  have core : ∀ (f : Int → Int → Int) (D : Ends) (σ : L2.St) (H : Hp), (∀ a b : Int, augV op (.int a) (.int b) = some (.int (f a b))) → tS X.K Φ gl ios (.augIx i ek op ee) D σ H →
      sDAug (tVar i) (tE X.K Φ gl ek) (tE X.K Φ gl ee) (fun x y H Q => ∃ i j, x = .int i ∧ y = .int j ∧ Q (.int (f i j)) H) D σ H := by
    intro f D σ H hf' ⟨B, ρ, o, hb, ⟨P, O, s⟩, h, q⟩
    simp only [run] at h
    obtain ⟨c0, h0, h⟩ := bind_some h
    obtain ⟨⟨kd, fk, ρ1⟩, h1, h⟩ := bind_some h
    obtain ⟨c1, h2, h⟩ := bind_some h
    cases c1 with
    | dict kvs =>
      cases hk2 : dkey kd with
      | none => rw [hk2] at h; cases h
      | some kk =>
      rw [hk2] at h
      cases kk with
      | inr ks => cases h
      | inl k2 =>
      dsimp only at h
      obtain ⟨old, h3, h⟩ := bind_some h
      cases old with
      | int a =>
        dsimp only at h
        obtain ⟨⟨y, fy, ρ2⟩, h4, h⟩ := bind_some h
        cases y with
        | int b =>
          dsimp only at h
          obtain ⟨c, h5, h⟩ := bind_some h
          cases c with
          | dict ds =>
          dsimp only at h
          obtain ⟨z, h6, h⟩ := bind_some h
          obtain ⟨d', h7, h⟩ := bind_some h
          cases h
          rw [hf'] at h6
          cases h6
          have ekd : kd = keyPD k2 := dkey_inv hk2
          subst ekd
          obtain ⟨hi, a0, e0, hp0, o0⟩ := s.atO h0
          refine ⟨_, e0, evE_ok s h1 fun kv H1 P1 O1 s1 m1 r1 _ => ?_⟩
          obtain ⟨hi1, a1, e1, hp1, o1⟩ := s1.atO h2
          have : a0 = a1 := by
            rw [e0] at e1
            injection e1 with e1
            injection e1 with e1
            injection e1
          subst this
          have := key_val r1
          subst this
          -- what stands there
          simp only [ixV, hk2] at h3
          split at h3
          · rename_i hf
            have get : DGet H1 a0 (kV k2) (some (.int a)) := by
              cases o1 with
              | dk hh ra =>
                obtain ⟨v, hv, rv⟩ := (look_k (k := k2) ra).1 _ h3
                cases rv
                rw [← hv]
                exact .k hh
              | dt n hh ra => exact absurd (fit_t ra hf).1 n
            refine ⟨a0, _, rfl, get, evE_ok s1 h4 fun w H2 P2 O2 s2 m2 r2 _ => ?_⟩
            cases r2
            obtain ⟨hi2, a2, e2, hp2, o2⟩ := s2.atO h5
            have : a0 = a2 := by
              rw [e0] at e2
              injection e2 with e2
              injection e2 with e2
              injection e2
            subst this
            refine ⟨a, b, rfl, rfl, ?_⟩
            simp only [setV, hk2] at h7
            obtain ⟨kk, ekk, h7⟩ := bind_some h7
            cases ekk
            split at h7
            · rename_i hf2
              cases h7
              rw [Bool.and_eq_true] at hf2
              cases o2 with
              | dk hh ra =>
                exact ⟨_, .k hh (by rw [ra.length]; exact of_decide_eq_true hf2.2), q _ _ ⟨P2, O2, s2.write hi2 e2 (.dk upd_same ((dput_rp (.int _) ra).ext (own_ext hp2 hh fun _ z => nomatch z)))⟩⟩
              | dt n hh ra => exact absurd (fit_t ra hf2.1).1 n
            · cases h7
          · cases h3
          | _ => cases h
        | _ => cases h
      | _ => cases h
    | _ => cases h
  rcases hop with rfl | rfl
  · exact (ps_daug (by omega) (pe_var hN hv hd hcd) hk he in_add ha).imp fun D σ H w => core _ D σ H (fun _ _ => rfl) w
  · exact (ps_daug (by omega) (pe_var hN hv hd hcd) hk he in_sub ha).imp fun D σ H w => core _ D σ H (fun _ _ => rfl) w
end

/-! ### several stores at once -/
section
variable {K : PySem.W.Frag} {Φ : Nat → List PyData → Option (PyData × List PyData)} {gl : List PyData} {B : Bs}
/-- values that have come, the new ones apart -/
inductive GotL (K : PySem.W.Frag) (B : Bs) (P : Addr → Prop) (O : List Nat) (σ : L2.St) (H : Hp) : List V → List (PyData × Fl) → Prop
  | nil : GotL K B P O σ H [] []
  | cons {v : V} {vs : List V} {d : PyData} {f : Fl} {r : List (PyData × Fl)} : Got K B P O σ H v d f → (f = .fr → v ∉ vs) → GotL K B P O σ H vs r → GotL K B P O σ H (v :: vs) ((d, f) :: r)
def setVs : List Nat → List V → L2.St → L2.St
  | i :: is, v :: vs, σ => setVs is vs (σ.set i (some v))
  | _, _, σ => σ
/-- the other values are as they were, and not the one stored -/
theorem GotL.keep {P : Addr → Prop} {O O' : List Nat} {σ : L2.St} {H : Hp} {i : Nat} {v : V} {f : Fl} (hO : ∀ j, j ∈ O' → (j = i ∧ f = .fr) ∨ (j ∈ O ∧ j ≠ i)) (hl : i < σ.length) : ∀ {vs : List V} {r : List (PyData × Fl)}, (f = .fr → v ∉ vs) → GotL K B P O σ H vs r → GotL K B P O' (σ.set i (some v)) H vs r
  | _, _, _, .nil => .nil
  | w :: vs, (d, f') :: r, hn, .cons g n t => .cons ⟨g.rp, fun z => by
      obtain ⟨a, e, p, h0, nz, no, o⟩ := g.fr z
      refine ⟨a, e, p, h0, nz, fun j hj e2 => ?_, o⟩
      rcases hO j hj with ⟨q1, q2⟩ | ⟨q1, q2⟩
      · subst q1
        rw [List.getElem?_set_self hl] at e2
        injection e2 with e2
        injection e2 with e2
        subst e2 e
        exact hn q2 (List.mem_cons_self ..)
      · rw [List.getElem?_set_ne fun z => q2 z.symm] at e2
        exact no j q1 e2⟩ n (GotL.keep hO hl (fun z q => hn z (List.mem_cons_of_mem _ q)) t)
theorem stores {P : Addr → Prop} : ∀ {is : List Nat} {vs : List V} {r : List (PyData × Fl)} {O : List Nat} {ρ : PEnv} {σ : L2.St} {H : Hp}, EnvS K B P O ρ σ H → (∀ i, i ∈ is → i < ρ.length ∧ i ∉ B.io.map (·.1)) → is.length = r.length → GotL K B P O σ H vs r → ∃ O', EnvS K B P O' (setAll is r ρ) (setVs is vs σ) H
  | [], _, _, O, ρ, σ, H, s, _, hl, .nil => ⟨O, s⟩
  | i :: is, v :: vs, (d, f) :: r, O, ρ, σ, H, s, hi, hl, .cons g n t => by
    obtain ⟨h1, h2⟩ := hi i (List.mem_cons_self ..)
    obtain ⟨O1, s1, hO⟩ := s.store h1 h2 g
    have hlen : (setF ρ i d f).length = ρ.length := by unfold setF; rw [List.length_set]
    exact stores (is := is) (vs := vs) (r := r) s1 (fun j hj => ⟨by rw [hlen]; exact (hi j (List.mem_cons_of_mem _ hj)).1, (hi j (List.mem_cons_of_mem _ hj)).2⟩) (by simpa using hl) (GotL.keep hO (by rw [← s.env.len]; exact h1) n t)
  | [], _, _ :: _, _, _, _, _, _, _, hl, _ => by simp at hl
  | _ :: _, _, [], _, _, _, _, _, _, hl, _ => by simp at hl
/-- the expressions, each on its own -/
def tDs (ps : List E) : TA := match ps with
  | [] => tNil
  | e :: es => tCons (tE K Φ gl e) (tDs es)
def esL : Es → List E
  | .nil => []
  | .cons e es => e :: esL es
theorem asgDs_len : ∀ {is : List Nat} {es : Es} {ρ ρ' : PEnv} {r : List (PyData × Fl)}, asgDs Φ gl is es ρ = some (r, ρ') → is.length = r.length
  | [], .nil, _, _, _, e => by simp only [asgDs, Option.some.injEq, Prod.mk.injEq] at e; rw [← e.1]; rfl
  | i :: is, .cons e es, ρ, ρ', r, h => by
    simp only [asgDs] at h
    obtain ⟨⟨d, f, ρ1⟩, h1, h⟩ := bind_some h
    obtain ⟨⟨r2, ρ2⟩, h2, h⟩ := bind_some h
    cases h
    rw [List.length_cons, List.length_cons, asgDs_len h2]
  | [], .cons _ _, _, _, _, e => by simp [asgDs] at e
  | _ :: _, .nil, _, _, _, e => by simp [asgDs] at e
/-- a value is not what one owns apart from the slots -/
theorem got_ne {P : Addr → Prop} {O : List Nat} {σ : L2.St} {H H0 : Hp} {v : V} {d d2 : PyData} {f : Fl} {a : Addr} (g : Got K B P O σ H v d f) (hf : f = .fr → ∃ b, v = .ref b ∧ H0 b = none) (ha : H0 a ≠ none) (hp : P a) (o : Own K H P a d2) : v ≠ .ref a := fun e => by
  subst e
  cases f with
  | fr =>
    obtain ⟨b, e, n⟩ := hf rfl
    cases e
    exact ha n
  | sh =>
    have r := g.rp rfl
    cases r with
    | lst n _ _ => exact n hp
    | dk n _ _ => exact n hp
    | dt n _ _ => exact n hp
    | tup h _ =>
      obtain ⟨u, hu, hm⟩ := o.there
      rw [h] at hu; cases hu; exact hm
theorem asgDs_ok : ∀ {es : Es} {is : List Nat} {ρ ρ' : PEnv} {r : List (PyData × Fl)} {P : Addr → Prop} {O : List Nat} {σ : L2.St} {H : Hp} {Q : List V → Hp → Prop}, EnvS K B P O ρ σ H → asgDs Φ gl is es ρ = some (r, ρ') →
    (∀ vs H' P' O', EnvS K B P' O' ρ' σ H' → Mv P O P' O' σ H H' → GotL K B P' O' σ H' vs r → (∀ a d, P a → Own K H P a d → (∀ j, j ∈ O → σ[j]? ≠ some (some (V.ref a))) → V.ref a ∉ vs) → Q vs H') → tDs (K := K) (Φ := Φ) (gl := gl) (esL es) σ H Q
  | .nil, [], ρ, ρ', r, P, O, σ, H, Q, s, h, q => by
    simp only [asgDs, Option.some.injEq, Prod.mk.injEq] at h
    obtain ⟨rfl, rfl⟩ := h
    exact q [] H P O s .refl .nil fun _ _ _ _ _ => by simp
  | .cons e es, i :: is, ρ, ρ', r, P, O, σ, H, Q, s, h, q => by
    simp only [asgDs] at h
    obtain ⟨⟨d, f, ρ1⟩, h1, h⟩ := bind_some h
    obtain ⟨⟨r2, ρ2⟩, h2, h⟩ := bind_some h
    cases h
    refine evE_got s h1 fun v H1 P1 O1 s1 m1 g1 hf => asgDs_ok s1 h2 fun vs H' P' O' s' m' gl' nv => ?_
    refine q _ H' P' O' s' (m1.trans m') (.cons (g1.mv m') (fun z => ?_) gl') fun a d2 hp o no => ?_
    · obtain ⟨a, e, p, h0, nz, no, o⟩ := g1.fr z
      rw [e]
      exact nv a d p o no
    · have o1 : Own K H1 P1 a d2 := o.ext m1.ext fun u hu => m1.own a u hu no
      have p1 := m1.hid a hp no
      rw [List.mem_cons, not_or]
      exact ⟨fun z => got_ne g1 hf o.tracked p1 o1 z.symm, nv a d2 p1 o1 fun j hj => no j (m1.sub j hj)⟩
  | .nil, _ :: _, _, _, _, _, _, _, _, _, _, h, _ => by simp [asgDs] at h
  | .cons _ _, [], _, _, _, _, _, _, _, _, _, h, _ => by simp [asgDs] at h
theorem GotL.length {P : Addr → Prop} {O : List Nat} {σ : L2.St} {H : Hp} : ∀ {vs : List V} {r : List (PyData × Fl)}, GotL K B P O σ H vs r → vs.length = r.length
  | _, _, .nil => rfl
  | _, _, .cons _ _ t => by rw [List.length_cons, List.length_cons, t.length]
theorem GotL.grow {P : Addr → Prop} {O : List Nat} {σ : L2.St} {H H2 : Hp} (g2 : ∀ a o, H a = some o → H2 a = some o) : ∀ {vs : List V} {r : List (PyData × Fl)}, GotL K B P O σ H vs r → GotL K B P O σ H2 vs r
  | _, _, .nil => .nil
  | _, _, .cons g n t => .cons ⟨fun z => (g.rp z).ext (.same g2), fun z => let ⟨a, e, p, h0, nz, no, o⟩ := g.fr z; ⟨a, e, p, h0, nz, no, o.ext (.same g2) fun u hu => g2 a u hu⟩⟩ n (GotL.grow g2 t)
theorem tE_mono {e : E} {σ : L2.St} {H : Hp} {Q Q' : VK} (h : tE K Φ gl e σ H Q) (m : ∀ v H, Q v H → Q' v H) : tE K Φ gl e σ H Q' :=
  let ⟨F, ρ, d, fl, ρ', en, sa, sm, h, q⟩ := h; ⟨F, ρ, d, fl, ρ', en, sa, sm, h, fun v H' a b c => m v H' (q v H' a b c)⟩
theorem par_core {ios is : List Nat} {es : Es} {D : Ends} {σ : L2.St} {H : Hp} (w : tS K Φ gl ios (.asgD is es) D σ H) : tDs (K := K) (Φ := Φ) (gl := gl) (esL es) σ H fun vs H1 => vs.length = is.length ∧ ∀ H2, (∀ a o, H1 a = some o → H2 a = some o) → D.nx (setVs is vs σ) H2 := by
  obtain ⟨B, ρ, o, hb, ⟨P, O, s⟩, h, q⟩ := w
  simp only [run] at h
  obtain ⟨⟨r, ρ1⟩, h1, h⟩ := bind_some h
  dsimp only at h
  split at h
  · rename_i hc
    cases h
    refine asgDs_ok s h1 fun vs H1 P1 O1 s1 m1 g1 _ => ?_
    have hl := g1.length
    refine ⟨by rw [hl, asgDs_len h1], fun H2 g2 => ?_⟩
    have s2 := s1.grow g2
    have gl2 := g1.grow g2
    obtain ⟨O', s3⟩ := stores s2 (fun i hi => by
      have := List.all_eq_true.mp hc i hi
      rw [Bool.and_eq_true] at this
      exact ⟨by rw [s2.env.len, ← s.env.len]; exact of_decide_eq_true this.1, by rw [hb]; simpa using this.2⟩) (asgDs_len h1) gl2
    exact q _ _ ⟨P1, O', s3⟩
  · cases h
end
section
variable {X : Cx} {Φ : Nat → List PyData → Option (PyData × List PyData)} {gl : List PyData} {ios : List Nat} {pos : Pos}
theorem s_par {i j : Nat} {x y : Str} {a b : Expr} {ea eb : E} {px py pt : Pos} {kt k2 pt2} (hc : X.calm = true) (hN : X.N.Nodup) (hi : X.N[i]? = some x) (hj : X.N[j]? = some y) (hij : i ≠ j)
    (hx : X.env.scope.names.lookup x = some .local) (hy : X.env.scope.names.lookup y = some .local) (ha : PEv X Φ gl a ea) (hb : PEv X Φ gl b eb)
    (hw : swappedStores [.Tuple [.Name x px, .Name y py] kt pt] (.Tuple [a, b] k2 pt2) X.env = pure (some [x, y]))
    (hs : swapsWithSole [.Tuple [.Name x px, .Name y py] kt pt] (.Tuple [a, b] k2 pt2) pos.line X.env = pure false := by rfl)
    (h1 : starEach [a, b] X.env = (false, eval a X.env) :: starEach [b] X.env := by rfl) (h2 : starEach [b] X.env = (false, eval b X.env) :: starEach [] X.env := by rfl) :
    PSv X Φ gl ios (.Assign [.Tuple [.Name x px, .Name y py] kt pt] (.Tuple [a, b] k2 pt2) pos) (.asgD [i, j] (.cons ea (.cons eb .nil))) :=
  (ps_par hc hN hi hj hij hx hy (pa_cons ha (pa_cons hb pa_nil h2) h1) hw hs).imp fun D σ H w => by
    refine tE_mono (par_core w) fun v H1 h => tE_mono h fun u H2 h => ?_
    obtain ⟨_, h⟩ := h
    exact ⟨v, u, rfl, h H2 fun _ _ z => z⟩
theorem s_par3 {i j l : Nat} {x y z : Str} {a b c : Expr} {ea eb ec : E} {px py pz pt : Pos} {kt k2 pt2} (hc : X.calm = true) (hN : X.N.Nodup) (hi : X.N[i]? = some x) (hj : X.N[j]? = some y) (hl : X.N[l]? = some z) (hij : i ≠ j) (hil : i ≠ l) (hjl : j ≠ l)
    (hx : X.env.scope.names.lookup x = some .local) (hy : X.env.scope.names.lookup y = some .local) (hz : X.env.scope.names.lookup z = some .local) (ha : PEv X Φ gl a ea) (hb : PEv X Φ gl b eb) (hcc : PEv X Φ gl c ec)
    (hw : swappedStores [.Tuple [.Name x px, .Name y py, .Name z pz] kt pt] (.Tuple [a, b, c] k2 pt2) X.env = pure (some [x, y, z]))
    (hs : swapsWithSole [.Tuple [.Name x px, .Name y py, .Name z pz] kt pt] (.Tuple [a, b, c] k2 pt2) pos.line X.env = pure false := by rfl)
    (h1 : starEach [a, b, c] X.env = (false, eval a X.env) :: starEach [b, c] X.env := by rfl) (h2 : starEach [b, c] X.env = (false, eval b X.env) :: starEach [c] X.env := by rfl) (h3 : starEach [c] X.env = (false, eval c X.env) :: starEach [] X.env := by rfl) :
    PSv X Φ gl ios (.Assign [.Tuple [.Name x px, .Name y py, .Name z pz] kt pt] (.Tuple [a, b, c] k2 pt2) pos) (.asgD [i, j, l] (.cons ea (.cons eb (.cons ec .nil)))) :=
  (ps_par3 hc hN hi hj hl hij hil hjl hx hy hz (pa_cons ha (pa_cons hb (pa_cons hcc pa_nil h3) h2) h1) hw hs).imp fun D σ H w => by
    refine tE_mono (par_core w) fun v H1 h => tE_mono h fun u H2 h => tE_mono h fun t H3 h => ?_
    obtain ⟨_, h⟩ := h
    exact ⟨v, u, t, rfl, h H3 fun _ _ z => z⟩
/-- names, stored in order -/
def gNames : List Nat → TGs
  | [] => gNil
  | i :: is => gCons (gName i) (gNames is)
theorem gNames_ok : ∀ {is : List Nat} {vs : List V} {σ : L2.St} {H : Hp} {Q : L2.St → Hp → Prop}, vs.length = is.length → Q (setVs is vs σ) H → gNames is vs σ H Q
  | [], [], σ, H, Q, _, q => ⟨rfl, q⟩
  | i :: is, v :: vs, σ, H, Q, h, q => ⟨v, vs, rfl, gNames_ok (by simpa using h) q⟩
  | [], _ :: _, _, _, _, h, _ => by simp at h
  | _ :: _, [], _, _, _, h, _ => by simp at h
theorem n_nil : PGs X [] (gNames []) := pgs_nil
theorem n_cons {i : Nat} {x : Str} {es : List Expr} {is : List Nat} (hN : X.N.Nodup) (hi : X.N[i]? = some x) (hx : Loc X.env.scope x) (h2 : PGs X es (gNames is)) (hf : X.fn x = true ∨ X.env.scope.names.lookup x = some .local := by first | exact .inl rfl | exact .inr rfl | assumption)
    (hs : (assignEach (.Name x pos :: es) X.env).map (·.2) = assign (.Name x pos) X.env :: (assignEach es X.env).map (·.2) := by rfl) : PGs X (.Name x pos :: es) (gNames (i :: is)) := pgs_cons (pg_name hN hi hx hf) h2 hs
/-- the expressions of a display -/
theorem d_nil : PA X [] (tDs (K := X.K) (Φ := Φ) (gl := gl) []) := pa_nil
theorem d_cons {a : Expr} {ea : E} {ps : List Expr} {es : List E} (ha : PEv X Φ gl a ea) (hr : PA X ps (tDs (K := X.K) (Φ := Φ) (gl := gl) es)) (hs : starEach (a :: ps) X.env = (false, eval a X.env) :: starEach ps X.env := by rfl) : PA X (a :: ps) (tDs (K := X.K) (Φ := Φ) (gl := gl) (ea :: es)) := pa_cons ha hr hs
theorem tDs_mono {K : PySem.W.Frag} : ∀ {es : List E} {σ : L2.St} {H : Hp} {Q Q' : List V → Hp → Prop}, tDs (K := K) (Φ := Φ) (gl := gl) es σ H Q → (∀ v H, Q v H → Q' v H) → tDs (K := K) (Φ := Φ) (gl := gl) es σ H Q'
  | [], _, _, _, _, h, m => m _ _ h
  | _ :: _, _, _, _, _, h, m => tE_mono h fun v H h => tDs_mono h fun vs H h => m _ _ h
/-- a, b, .. = x, y, .., by a tuple of its own -/
theorem s_parT {tgs ps : List Expr} {is : List Nat} {es : Es} {kt kp : Nat} {pt pp : Pos} (hc : X.calm = true) (he : PA X ps (tDs (K := X.K) (Φ := Φ) (gl := gl) (esL es))) (hg : PGs X tgs (gNames is)) (hn : (assignEach tgs X.env).length = is.length := by rfl) (hst : (assignEach tgs X.env).findIdx? (·.1) = none := by rfl) (hz : is.length ≤ 16 := by decide)
    (hs : swapsWithSole [.Tuple tgs kt pt] (.Tuple ps kp pp) pos.line X.env = pure false := by rfl) (hw : swappedStores [.Tuple tgs kt pt] (.Tuple ps kp pp) X.env = pure none := by rfl)
    (h1 : (assignEach [.Tuple tgs kt pt] X.env).map (·.2) = [assign (.Tuple tgs kt pt) X.env] := by rfl) : PSv X Φ gl ios (.Assign [.Tuple tgs kt pt] (.Tuple ps kp pp) pos) (.asgD is es) :=
  (ps_asg (pe_tup he) (pg_tup hc hg hn hst) hs hw h1).imp fun D σ H w => by
    refine tDs_mono (par_core w) fun vs H1 ⟨hl, h⟩ => ⟨by rw [hl, sizeLine_eq]; omega, fun p hp => ⟨p, vs, rfl, .inl (.inl upd_same), hl, gNames_ok hl ?_⟩⟩
    exact h _ fun a o e => by rw [upd_ne (ne_of_none e hp)]; exact e
theorem noIL_lst {ds : List PyData} (q : PP.noIL (.list ds) = true) : noILs ds = true ∧ ∀ x xs, ds ≠ .int x :: xs := by
  cases ds with
  | nil => exact ⟨rfl, fun _ _ z => nomatch z⟩
  | cons d ds =>
    cases d with
    | int i => simp [PP.noIL] at q
    | _ => exact ⟨by simpa [PP.noIL] using q, fun _ _ z => nomatch z⟩
mutual
theorem Rp.noIL {K : PySem.W.Frag} {H : Hp} {P P' : Addr → Prop} (hP : ∀ a, P' a → P a ∨ ∃ x xs, H a = some (.lst (.int x :: xs))) : ∀ {v : V} {d : PyData}, PP.noIL d = true → Rp K H P v d → Rp K H P' v d
  | _, _, _, .non => .non
  | _, _, _, .bl b => .bl b
  | _, _, _, .int i => .int i
  | _, _, _, .str x => .str x
  | .ref a, .list ds, q, .lst n h r => by
    have q' := noIL_lst q
    refine .lst (fun z => (hP a z).elim n fun ⟨x, ys, e⟩ => ?_) h (RpAll.noIL hP q'.1 r)
    rw [h] at e
    cases e
    cases r with
    | cons r1 _ =>
      cases r1
      exact q'.2 _ _ rfl
  | _, _, q, .tup h r => .tup h (RpAll.noIL hP (by simpa [PP.noIL] using q) r)
  | _, _, q, .dk n h r => by simp [PP.noIL] at q
  | _, _, q, .dt n h r => by simp [PP.noIL] at q
theorem RpAll.noIL {K : PySem.W.Frag} {H : Hp} {P P' : Addr → Prop} (hP : ∀ a, P' a → P a ∨ ∃ x xs, H a = some (.lst (.int x :: xs))) : ∀ {v : List V} {d : List PyData}, noILs d = true → RpAll K H P v d → RpAll K H P' v d
  | _, _, _, .nil => .nil
  | _, _, q, .cons h r => by
    rw [noILs, Bool.and_eq_true] at q
    exact .cons (Rp.noIL hP q.1 h) (RpAll.noIL hP q.2 r)
end
theorem argL_sh {K : PySem.W.Frag} {H : Hp} {P' : Addr → Prop} {F : Fr} {σ : L2.St} : ∀ {es : Es} {vs : List V} {ds : List PyData}, noIo es = true → ArgOk K F σ H es vs ds → RpAll K H P' vs ds → ArgL K H P' (maskE es) vs ds ∧ ioA (maskE es) vs = []
  | _, _, _, _, .nil, _ => ⟨.nil, rfl⟩
  | _, _, _, n, .io _ _ _, _ => by simp [noIo, isIo] at n
  | .cons ea es, v :: vs, d :: ds, n, .cons ne hr r, .cons h t => by
    rw [noIo, Bool.and_eq_true] at n
    obtain ⟨h1, h2⟩ := argL_sh n.2 r t
    have e : isIo ea = false := by simpa using n.1
    have m : maskE (.cons ea es) = isIo ea :: maskE es := rfl
    rw [m, e]
    refine ⟨.sh h h1, ?_⟩
    cases v <;> exact h2
/-- x, y = f(..): the list that f made is one's own -/
theorem s_asgO {i j f k : Nat} {tgs ps : List Expr} {e : Expr} {es : Es} {x : Str} {bs : List Bool} {kt : Nat} {pt p pc : Pos} (hc : X.calm = true) (c : Cal X.prog X.w X.K X.mg X.base k x (spP X.K (Φ f) bs)) (hr : Room k X.A) (hgl : Gl X x) (ha : PAv X Φ gl (e :: ps) es) (hg : PGs X tgs (gNames [i, j])) (hb : maskE es = bs := by rfl) (hio : noIo es = true := by rfl)
    (hdb : (x == ("__debug__" : Str)) = false := by decide) (he : starEach (e :: ps) X.env = (false, eval e X.env) :: starEach ps X.env := by rfl) (hpl : (backTo pc (starEach ps X.env)).any (·.1) = false := by rfl)
    (hn : (assignEach tgs X.env).length = 2 := by rfl) (hst : (assignEach tgs X.env).findIdx? (·.1) = none := by rfl)
    (hs : swapsWithSole [.Tuple tgs kt pt] (.Call (.Name x p) (e :: ps) [] pc) pos.line X.env = pure false := by rfl) (hw : swappedStores [.Tuple tgs kt pt] (.Call (.Name x p) (e :: ps) [] pc) X.env = pure none := by rfl)
    (h1 : (assignEach [.Tuple tgs kt pt] X.env).map (·.2) = [assign (.Tuple tgs kt pt) X.env] := by rfl) : PSv X Φ gl ios (.Assign [.Tuple tgs kt pt] (.Call (.Name x p) (e :: ps) [] pc) pos) (.asgO i j f es) :=
  (ps_asg (pe_cal c hr hgl ha hdb he hpl) (pg_tup hc hg hn hst) hs hw h1).imp fun D σ H ⟨B, ρ, o, hbi, ⟨P, O, s⟩, h, q⟩ => by
    subst hb
    simp only [run] at h
    split at h
    · rename_i hk
      rw [Bool.and_eq_true] at hk
      obtain ⟨ok, hm⟩ := hk
      have hm : modss es = [] := List.isEmpty_iff.mp hm
      obtain ⟨⟨ds, ρ1⟩, h1, h⟩ := bind_some h
      dsimp only at h
      split at h
      · rename_i hil
        obtain ⟨⟨d, outs⟩, h2, h⟩ := bind_some h
        have en0 := s.open' ok
        refine ⟨_, ρ, ds, ρ1, en0, fun i z => z, (fun i z => by rw [hm] at z; cases z), h1, fun vs H1 en1 k1 r1 => ?_⟩
        show spP X.K (Φ f) (maskE es) (vs ++ []) H1 _ _
        rw [List.append_nil]
        have hP : ∀ a, ((frE B P O σ (alss es) []).P a ∨ ∃ x xs, H1 a = some (.lst (.int x :: xs))) → (frE B P O σ (alss es) []).P a ∨ ∃ x xs, H1 a = some (.lst (.int x :: xs)) := fun a z => z
        obtain ⟨al, ai⟩ := argL_sh hio r1 (RpAll.noIL (P := (frE B P O σ (alss es) []).P) hP hil (r1.rp hio))
        refine ⟨_, ds, d, outs, fun a z => z.elim (en1.there a) fun ⟨x, xs, e⟩ => ⟨_, e⟩, al, by rw [ai]; exact List.nodup_nil, h2, fun v H2 k2 r2 o2 => ?_⟩

        split at h
        · rename_i heq
          cases heq
          rename_i x xs y
          split at h
          · rename_i hz
            cases h
            simp only [Bool.and_eq_true, Bool.not_eq_true', decide_eq_true_eq, decide_eq_false_iff_not] at hz
            obtain ⟨⟨⟨⟨⟨him, hi⟩, hii⟩, hj⟩, hjj⟩, hij⟩ := hz
            cases r2 with
            | tup et ra =>
              cases ra with
              | cons ra1 ra =>
                cases ra with
                | cons rb ra =>
                  cases ra
                  cases rb
                  cases ra1 with
                  | lst na el rl =>
                    rename_i t a us
                    have hz1 : H1 a = none := by
                      cases e5 : H1 a with
                      | none => rfl
                      | some w =>
                        have := k2.keep a w e5 (by rw [ai]; exact fun z => nomatch z)
                        rw [el] at this
                        cases this
                        cases rl with
                        | cons r1' _ =>
                          cases r1'
                          exact absurd (Or.inr ⟨_, _, e5⟩) na
                    have hz0 : H a = none := k1.gone a hz1
                    have g1 : ∀ a o, H a = some o → H1 a = some o := k1.all fun a ⟨i, hi, _⟩ => nomatch hi
                    have g2 : ∀ a o, H1 a = some o → H2 a = some o := k2.all fun a z => by rw [ai] at z; cases z
                    have g : ∀ a o, H a = some o → H2 a = some o := fun a o z => g2 a o (g1 a o z)
                    have en2 : EnvOk X.K (frO B (fun b => P b ∨ b = a) O) ρ σ H2 := s.env.hideG hz0 g ⟨_, el⟩
                    have s2 : EnvS X.K B (fun b => P b ∨ b = a) O ρ σ H2 := ⟨en2, fun b z => z.elim (s.hid b) fun z => .inr (.inr (by rw [z]; exact s.keep.gone a hz0)), s.keep.grow g, s.io⟩
                    have nz : ¬ B.Z a := fun z => by
                      obtain ⟨u, z⟩ := s.env.there a (s.env.zp a z)
                      rw [hz0] at z; cases z
                    have no : ∀ j, j ∈ O → σ[j]? ≠ some (some (V.ref a)) := fun j hj z => by
                      obtain ⟨b, d2, e3, _, _, _, o2⟩ := s.at hj
                      rw [z] at e3; cases e3
                      exact o2.tracked hz0
                    have ow : Own X.K H2 (fun b => P b ∨ b = a) a (.list (.int x :: xs)) := .lst el (rl.imm (fun _ _ z => z) (by simp [immAll, immD, him]))
                    have s3 := s2.setOw (i := i) hi (by rw [hbi]; simpa using hii) (.inr rfl) nz no ow
                    have s4 := s3.setSh (i := j) (d := .int y) (by rw [List.length_set]; exact hj) (.int y)
                    exact ⟨t, [.ref a, .int y], rfl, .inl (.inl et), rfl, gNames_ok rfl (q _ _ ⟨_, _, s4⟩)⟩
          · cases h
        · cases h
      · cases h
    · cases h
/-- x[k], y = a, b -/
theorem s_asgDS {i j : Nat} {x y : Str} {k a b : Expr} {ek ea eb : E} {p pos' py pt pp : Pos} {kt kp : Nat} (hc : X.calm = true) (hu : X.A.units + 70 < cLine) (hnd : X.N.Nodup) (hN : X.N[i]? = some x) (hv : Vis X.env.scope x) (hj : X.N[j]? = some y) (hy : Loc X.env.scope y) (hk : PEv X Φ gl k ek) (ha : PEv X Φ gl a ea) (hb : PEv X Φ gl b eb)
    (hf : X.fn y = true ∨ X.env.scope.names.lookup y = some .local := by first | exact .inl rfl | exact .inr rfl | assumption) (hd : (x == ("__debug__" : Str)) = false := by decide) (hcd : (x == ("__classdict__" : Str)) = false := by decide)
    (hsub : ∀ v, assign (.Subscript (.Name x p) k pos') X.env v = (do
      let ov ← holding [v] (eval (.Name x p) X.env)
      let iv ← holding [v, ov] (eval k X.env)
      standAt pos'
      holding [v, ov, iv] (setItem ov iv v)
      release [v, ov, iv] []) := by intro _; rfl)
    (e1 : starEach [a, b] X.env = (false, eval a X.env) :: starEach [b] X.env := by rfl) (e2 : starEach [b] X.env = (false, eval b X.env) :: starEach [] X.env := by rfl)
    (t1 : (assignEach [.Subscript (.Name x p) k pos', .Name y py] X.env).map (·.2) = assign (.Subscript (.Name x p) k pos') X.env :: (assignEach [.Name y py] X.env).map (·.2) := by rfl)
    (t2 : (assignEach [.Name y py] X.env).map (·.2) = assign (.Name y py) X.env :: (assignEach [] X.env).map (·.2) := by rfl)
    (hn : (assignEach [.Subscript (.Name x p) k pos', .Name y py] X.env).length = 2 := by rfl) (hst : (assignEach [.Subscript (.Name x p) k pos', .Name y py] X.env).findIdx? (·.1) = none := by rfl)
    (hs : swapsWithSole [.Tuple [.Subscript (.Name x p) k pos', .Name y py] kt pt] (.Tuple [a, b] kp pp) pos.line X.env = pure false := by rfl) (hw : swappedStores [.Tuple [.Subscript (.Name x p) k pos', .Name y py] kt pt] (.Tuple [a, b] kp pp) X.env = pure none := by rfl)
    (h1 : (assignEach [.Tuple [.Subscript (.Name x p) k pos', .Name y py] kt pt] X.env).map (·.2) = [assign (.Tuple [.Subscript (.Name x p) k pos', .Name y py] kt pt) X.env] := by rfl) :
    PSv X Φ gl ios (.Assign [.Tuple [.Subscript (.Name x p) k pos', .Name y py] kt pt] (.Tuple [a, b] kp pp) pos) (.asgDS i ek j ea eb) :=
  (ps_asg (pe_tup (pa_cons ha (pa_cons hb pa_nil e2) e1)) (pg_tup hc (pgs_cons (pg_sub (pe_var hN hv hd hcd) hk (set_own hu) hsub) (pgs_cons (pg_name hnd hj hy hf) pgs_nil t2) t1) hn hst) hs hw h1).imp fun D σ H ⟨B, ρ, o, hbi, ⟨P, O, s⟩, h, q⟩ => by
    simp only [run] at h
    obtain ⟨⟨dx, fx, ρ1⟩, h1, h⟩ := bind_some h
    obtain ⟨⟨dy, fy, ρ2⟩, h2, h⟩ := bind_some h
    obtain ⟨c0, h3, h⟩ := bind_some h
    obtain ⟨⟨kd, fk, ρ3⟩, h4, h⟩ := bind_some h
    obtain ⟨c, h5, h⟩ := bind_some h
    obtain ⟨d', h6, h⟩ := bind_some h
    split at h
    · rename_i hz
      cases h
      rw [Bool.and_eq_true] at hz
      obtain ⟨z1, z2⟩ := hz
      refine evE_ok s h1 fun v H1 P1 O1 s1 m1 r1 _ => ?_
      refine evE_ok s1 h2 fun w H2 P2 O2 s2 m2 r2 _ => ?_
      refine ⟨by rw [sizeLine_eq]; simp, fun q0 hq0 => ?_⟩
      have g : ∀ b u, H2 b = some u → upd H2 q0 (.tup [v, w]) b = some u := fun b u z => by rw [upd_ne (ne_of_none z hq0)]; exact z
      have s3 := s2.grow g
      obtain ⟨hi3, a3, ea3, hp3, o3⟩ := s3.atO h3
      refine ⟨q0, [v, w], rfl, .inl (.inl upd_same), rfl, v, [w], rfl, _, ea3, ?_⟩
      refine evE_ok s3 h4 fun kv H4 P4 O4 s4 m4 r4 _ => ?_
      obtain ⟨hi4, a4, ea4, hp4, o4⟩ := s4.atO h5
      have : a3 = a4 := by
        have x1 : σ[i]? = some (some (V.ref a3)) := ea3
        have x2 : σ[i]? = some (some (V.ref a4)) := ea4
        rw [x1] at x2
        injection x2 with x2
        injection x2 with x2
        injection x2
      subst this
      refine ⟨P4, a3, c, kd, dx, d', rfl, hp4, o4, r4, ((r1.ext m2.ext).ext (.same g)).ext m4.ext, h6, fun u ou => ?_⟩
      have s5 := s4.write hi4 ea4 ou
      have rw5 : Rp X.K (upd H4 a3 u) P4 w dy := ((r2.ext (.same g)).ext m4.ext).ext (s4.extA hi4 ea4)
      have s6 := s5.setSh (i := j) (d := dy) (by rw [List.length_set, s4.env.len, ← s.env.len]; exact of_decide_eq_true z1) rw5
      exact ⟨w, [], rfl, rfl, q _ _ ⟨_, _, s6⟩⟩
    · cases h
end
end PP

/-! PP13: a def keeps the promise that the evaluator makes. -/
namespace PP
open PySem PySem.Spec PyProof.Rows L2 RZ

/-! ### the order of stores, looked up in the scope -/
def notFn (sc : Scope) : Bool := (if sc.kind.isAnnotationScope then ScopeKind.function else sc.kind) != .function
def swT (sc : Scope) (ts vs : List Expr) : Option (Option (List Str)) :=
  if !(ts.length == 2 || ts.length == 3) || vs.length != ts.length || notFn sc then some none
  else if vs.any fun | .Starred .. => true | _ => false then some none
  else
    if (ts.filterMap fun
      | .Name id pos => if sc.names.lookup id == some .local && pos.line == (ts.head?.map (·.pos.line)).getD 0 then some id else none
      | _ => none).length != ts.length || (ts.filterMap fun
      | .Name id pos => if sc.names.lookup id == some .local && pos.line == (ts.head?.map (·.pos.line)).getD 0 then some id else none
      | _ => none).eraseDups.length != (ts.filterMap fun
      | .Name id pos => if sc.names.lookup id == some .local && pos.line == (ts.head?.map (·.pos.line)).getD 0 then some id else none
      | _ => none).length then some none
    else if vs.all (foldedForSure 8) then some none
    else if vs.all (constantsAlone 8) then none
    else some (some (ts.filterMap fun
      | .Name id pos => if sc.names.lookup id == some .local && pos.line == (ts.head?.map (·.pos.line)).getD 0 then some id else none
      | _ => none))
theorem sw_of {env : Env} {sc : Scope} (hs : env.scope = sc) {ts vs : List Expr} {kt kv : Nat} {pt pv : Pos} {r : Option (List Str)} (h : swT sc ts vs = some r) : swappedStores [.Tuple ts kt pt] (.Tuple vs kv pv) env = pure r := by
  subst hs
  unfold swT at h
  split at h
  · rename_i c
    cases h
    exact if_pos c
  · rename_i c1
    refine (if_neg c1).trans ?_
    split at h
    · rename_i c
      cases h
      exact if_pos c
    · rename_i c2
      refine (if_neg c2).trans ?_
      split at h
      · rename_i c
        cases h
        exact if_pos c
      · rename_i c3
        refine (if_neg c3).trans ?_
        split at h
        · rename_i c
          cases h
          exact if_pos c
        · rename_i c4
          refine (if_neg c4).trans ?_
          split at h
          · cases h
          · rename_i c5
            cases h
            exact if_neg c5
def visB (sc : Scope) (x : Str) : Bool := match sc.names.lookup x with | some .local => true | some .cell => true | some .free => true | _ => false
def locB (sc : Scope) (x : Str) : Bool := match sc.names.lookup x with | some .local => true | some .cell => true | _ => false
theorem vis_of {sc sc' : Scope} (hs : sc' = sc) {x : Str} (h : visB sc x = true) : Vis sc' x := by
  subst hs
  unfold visB at h
  split at h
  · rename_i e; exact .inl e
  · rename_i e; exact .inr (.inl e)
  · rename_i e; exact .inr (.inr e)
  · cases h
theorem loc_of {sc sc' : Scope} (hs : sc' = sc) {x : Str} (h : locB sc x = true) : Loc sc' x := by
  subst hs
  unfold locB at h
  split at h
  · rename_i e; exact .inl e
  · rename_i e; exact .inr e
  · cases h
theorem look_of {sc sc' : Scope} (hs : sc' = sc) {x : Str} {k : NameKind} (h : decide (sc.names.lookup x = some k) = true) : sc'.names.lookup x = some k := by
  subst hs
  exact of_decide_eq_true h

/-! ### at a def's start -/
/-- the places of the changed parameters -/
def trues : List Bool → Nat → List Nat
  | [], _ => []
  | true :: bs, k => k :: trues bs (k + 1)
  | false :: bs, k => trues bs (k + 1)
section
variable {K : PySem.W.Frag} {H : Hp} {P : Addr → Prop}
theorem ioA_false {bs : List Bool} {v : V} {vs : List V} : ioA (false :: bs) (v :: vs) = ioA bs vs := by cases v <;> rfl
theorem ArgL.length : ∀ {bs : List Bool} {vs : List V} {ds : List PyData}, ArgL K H P bs vs ds → vs.length = bs.length ∧ ds.length = bs.length
  | _, _, _, .nil => ⟨rfl, rfl⟩
  | _, _, _, .io _ _ r => by simp [ArgL.length r]
  | _, _, _, .sh _ r => by simp [ArgL.length r]
theorem ArgL.get : ∀ {bs : List Bool} {vs : List V} {ds : List PyData} {i : Nat} {b : Bool}, ArgL K H P bs vs ds → bs[i]? = some b → ∃ v d, vs[i]? = some v ∧ ds[i]? = some d ∧ (b = true → ∃ a, v = .ref a ∧ P a ∧ Own K H P a d) ∧ (b = false → Rp K H P v d)
  | _, _, _, _, _, .nil, e => by simp at e
  | _, _, _, 0, _, .io (a := a) p o r, e => by simp at e; subst e; exact ⟨_, _, rfl, rfl, fun _ => ⟨a, rfl, p, o⟩, fun z => nomatch z⟩
  | _, _, _, 0, _, .sh h r, e => by simp at e; subst e; exact ⟨_, _, rfl, rfl, (fun z => nomatch z), fun _ => h⟩
  | _, _, _, i + 1, _, .io p o r, e => by
    obtain ⟨v, d, h1, h2, h3⟩ := ArgL.get (i := i) r (by simpa using e)
    exact ⟨v, d, by simpa using h1, by simpa using h2, h3⟩
  | _, _, _, i + 1, _, .sh h r, e => by
    obtain ⟨v, d, h1, h2, h3⟩ := ArgL.get (i := i) r (by simpa using e)
    exact ⟨v, d, by simpa using h1, by simpa using h2, h3⟩
theorem ioA_mem : ∀ {bs : List Bool} {vs : List V} {ds : List PyData} {i : Nat} {a : Addr}, ArgL K H P bs vs ds → bs[i]? = some true → vs[i]? = some (.ref a) → a ∈ ioA bs vs
  | _, _, _, _, _, .nil, e, _ => by simp at e
  | _, _, _, 0, _, .io p o r, e, e2 => by simp at e2; subst e2; exact List.mem_cons_self ..
  | _, _, _, 0, _, .sh h r, e, _ => by simp at e
  | _, _, _, i + 1, _, .io p o r, e, e2 => List.mem_cons_of_mem _ (ioA_mem (i := i) r (by simpa using e) (by simpa using e2))
  | _, _, _, i + 1, _, .sh h r, e, e2 => by rw [ioA_false]; exact ioA_mem (i := i) r (by simpa using e) (by simpa using e2)
theorem ioA_inj : ∀ {bs : List Bool} {vs : List V} {ds : List PyData} {i j : Nat} {a : Addr}, ArgL K H P bs vs ds → (ioA bs vs).Nodup → bs[i]? = some true → bs[j]? = some true → vs[i]? = some (.ref a) → vs[j]? = some (.ref a) → i = j
  | _, _, _, _, _, _, .nil, _, e, _, _, _ => by simp at e
  | _, _, _, 0, 0, _, _, _, _, _, _, _ => rfl
  | _, _, _, 0, j + 1, _, .io p o r, nd, _, e2, e3, e4 => by
    simp at e3; subst e3
    exact absurd (ioA_mem (i := j) r (by simpa using e2) (by simpa using e4)) (List.nodup_cons.mp (show (_ :: ioA _ _).Nodup from nd)).1
  | _, _, _, i + 1, 0, _, .io p o r, nd, e1, _, e3, e4 => by
    simp at e4; subst e4
    exact absurd (ioA_mem (i := i) r (by simpa using e1) (by simpa using e3)) (List.nodup_cons.mp (show (_ :: ioA _ _).Nodup from nd)).1
  | _, _, _, i + 1, j + 1, _, .io p o r, nd, e1, e2, e3, e4 => by
    rw [ioA_inj (i := i) (j := j) r (List.nodup_cons.mp (show (_ :: ioA _ _).Nodup from nd)).2 (by simpa using e1) (by simpa using e2) (by simpa using e3) (by simpa using e4)]
  | _, _, _, 0, j + 1, _, .sh h r, _, e1, _, _, _ => by simp at e1
  | _, _, _, i + 1, 0, _, .sh h r, _, _, e2, _, _ => by simp at e2
  | _, _, _, i + 1, j + 1, _, .sh h r, nd, e1, e2, e3, e4 => by
    rw [ioA_false] at nd
    rw [ioA_inj (i := i) (j := j) r nd (by simpa using e1) (by simpa using e2) (by simpa using e3) (by simpa using e4)]
theorem ioA_pair : ∀ {bs : List Bool} {vs ws : List V} {ds : List PyData} {k : Nat}, ArgL K H P bs vs ds → ws.drop k = vs → Paired (fun i a => ws[i]? = some (.ref a) ∧ (k ≤ i ∧ bs[i - k]? = some true)) (trues bs k) (ioA bs vs)
  | _, _, _, _, _, .nil, _ => .nil
  | _, _, ws, _, k, .io (a := a) (vs := vs) (bs := bs) p o r, e => by
    have h0 : ws[k]? = some (.ref a) := by rw [← List.head?_drop, e]; rfl
    refine .cons ⟨h0, Nat.le_refl _, by simp⟩ (Paired.mapP (ioA_pair (ws := ws) (k := k + 1) r (by rw [← List.tail_drop, e]; rfl)) fun i a z => ⟨z.1, by omega, ?_⟩)
    have : i - k = (i - (k + 1)) + 1 := by omega
    rw [this]
    simpa using z.2.2
  | _, _, ws, _, k, .sh (v := v) (vs := vs) (bs := bs) h r, e => by
    rw [ioA_false]
    refine Paired.mapP (ioA_pair (ws := ws) (k := k + 1) r (by rw [← List.tail_drop, e]; rfl)) fun i a z => ⟨z.1, by omega, ?_⟩
    have : i - k = (i - (k + 1)) + 1 := by omega
    rw [this]
    simpa using z.2.2
theorem mem_trues : ∀ {bs : List Bool} {k i : Nat}, i ∈ trues bs k ↔ k ≤ i ∧ bs[i - k]? = some true
  | [], k, i => by simp [trues]
  | true :: bs, k, i => by
    show i ∈ k :: trues bs (k + 1) ↔ _
    rw [List.mem_cons, mem_trues]
    constructor
    · rintro (z | ⟨z1, z2⟩)
      · subst z; exact ⟨Nat.le_refl _, by simp⟩
      · refine ⟨by omega, ?_⟩
        have : i - k = (i - (k + 1)) + 1 := by omega
        rw [this]; simpa using z2
    · rintro ⟨z1, z2⟩
      by_cases h : i = k
      · exact .inl h
      · refine .inr ⟨by omega, ?_⟩
        have : i - k = (i - (k + 1)) + 1 := by omega
        rw [this] at z2; simpa using z2
  | false :: bs, k, i => by
    show i ∈ trues bs (k + 1) ↔ _
    rw [mem_trues]
    constructor
    · rintro ⟨z1, z2⟩
      refine ⟨by omega, ?_⟩
      have : i - k = (i - (k + 1)) + 1 := by omega
      rw [this]; simpa using z2
    · rintro ⟨z1, z2⟩
      by_cases h : i = k
      · subst h; simp at z2
      · refine ⟨by omega, ?_⟩
        have : i - k = (i - (k + 1)) + 1 := by omega
        rw [this] at z2; simpa using z2
end
section
variable {K : PySem.W.Frag} {tbl : List Def} {gl : List PyData}
theorem envOf_lt {D : Def} {ds : List PyData} {i : Nat} {d : PyData} (h : ds[i]? = some d) : (envOf D ds)[i]? = some (if D.ios.contains i then Sl.ow d else .fz d) := by
  unfold envOf
  have hl : i < ds.length := (List.getElem?_eq_some_iff.mp h).1
  rw [List.getElem?_append_left (by rw [List.length_map, List.length_zipIdx]; exact hl), List.getElem?_map, List.getElem?_zipIdx, h]
  simp
theorem envOf_ge {D : Def} {ds : List PyData} {i : Nat} {s : Sl} (h : ds.length ≤ i) (e : (envOf D ds)[i]? = some s) : s = .no := by
  unfold envOf at e
  rw [List.getElem?_append_right (by rw [List.length_map, List.length_zipIdx]; exact h)] at e
  obtain ⟨_, e⟩ := List.getElem?_eq_some_iff.mp e
  rw [List.getElem_replicate] at e
  exact e.symm
theorem start_lt {N : List Str} {vs : List V} {i : Nat} {v : V} (h : vs[i]? = some v) : (L2.start N vs)[i]? = some (some v) := by
  unfold L2.start
  have hl : i < vs.length := (List.getElem?_eq_some_iff.mp h).1
  rw [List.getElem?_append_left (by rw [List.length_map]; exact hl), List.getElem?_map, h]
  rfl
theorem outs_of {ρ : PEnv} : ∀ {is : List Nat} {outs : List PyData}, outsOf ρ is = some outs → ∀ {P : Addr → Prop} {H : Hp} {as : List Addr}, Paired (fun i a => ∀ d, getO ρ i = some d → Own K H P a d) is as → OwnL K H P as outs
  | [], outs, e, _, _, _, .nil => by
    simp only [outsOf, Option.some.injEq] at e
    subst e; exact .nil
  | i :: is, outs, e, _, _, _, .cons h t => by
    simp only [outsOf] at e
    obtain ⟨d, e1, e⟩ := bind_some e
    obtain ⟨ds, e2, e⟩ := bind_some e
    cases e
    exact .cons (h d e1) (outs_of e2 t)
theorem outs_mem {ρ : PEnv} : ∀ {is : List Nat} {outs : List PyData}, outsOf ρ is = some outs → ∀ i, i ∈ is → ∃ d, getO ρ i = some d
  | [], _, _, i, h => by simp at h
  | j :: is, outs, e, i, h => by
    simp only [outsOf] at e
    obtain ⟨d, e1, e⟩ := bind_some e
    obtain ⟨ds, e2, e⟩ := bind_some e
    rcases List.mem_cons.mp h with z | z
    · subst z; exact ⟨d, e1⟩
    · exact outs_mem e2 i z
theorem body_ok {n f : Nat} {D : Def} {bs : List Bool} {N : List Str} (hf : tbl[f]? = some D) (hi : D.ios = trues bs 0) (hb : bs.length = D.np) (hN : N.length = D.ns) {vs : List V} {H : Hp} {Q : VK} {E : XK} (h : spP K (phi tbl gl (n + 1) f) bs vs H Q E) :
    tSs K (phi tbl gl n) gl D.ios D.body { nx := fun _ H' => Q .non H', rt := Q } (L2.start N vs) H := by
  obtain ⟨P, ds, d, outs, th, al, nd, hg, q⟩ := h
  simp only [phi, hf] at hg
  split at hg
  · rename_i hl
    obtain ⟨o, h1, hg⟩ := bind_some hg
    obtain ⟨l1, l2⟩ := al.length
    have iosm : ∀ {i}, i ∈ D.ios ↔ bs[i]? = some true := fun {i} => by rw [hi, mem_trues]; simp
    have pr0 := ioA_pair (ws := vs) (k := 0) al rfl
    rw [← hi] at pr0
    have pr : Paired (fun i a => vs[i]? = some (.ref a) ∧ bs[i]? = some true) D.ios (ioA bs vs) := Paired.mapP pr0 fun i a z => ⟨z.1, by simpa using z.2.2⟩
    -- a changed parameter
    have par : ∀ {i}, i ∈ D.ios → ∃ a x, vs[i]? = some (.ref a) ∧ ds[i]? = some x ∧ P a ∧ Own K H P a x := fun {i} hi => by
      obtain ⟨v, x, e1, e2, e3, _⟩ := al.get (iosm.mp hi)
      obtain ⟨a, e, p, o⟩ := e3 rfl
      subst e
      exact ⟨a, x, e1, e2, p, o⟩
    have hns : D.ns = N.length := hN.symm
    have s0 : EnvS K ⟨fun a => P a ∧ a ∉ ioA bs vs, fun a => a ∈ ioA bs vs, H, D.ios.zip (ioA bs vs)⟩ P D.ios (envOf D ds) (L2.start N vs) H := by
      refine ⟨⟨fun i hi => ?_, fun i j a hi hj e1 e2 => ?_, fun a z => z.1, fun i z => by simp at z, fun i hi => ?_, fun i x e => ?_, fun i x e => ?_, th, fun z => by simp at z, ?_⟩, fun a p => ?_, .refl, fun p hp hi => ?_⟩
      · obtain ⟨a, x, e1, e2, p, o⟩ := par hi
        exact ⟨a, start_lt e1, ⟨fun _ z => by simp at z, fun _ => p⟩, fun z => z.2 (ioA_mem al (iosm.mp hi) e1)⟩
      · obtain ⟨a1, x1, e3, _⟩ := par hi
        obtain ⟨a2, x2, e4, _⟩ := par hj
        rw [start_lt e3] at e1; cases e1
        rw [start_lt e4] at e2; cases e2
        exact ioA_inj al nd (iosm.mp hi) (iosm.mp hj) e3 e4
      · obtain ⟨a, x, e1, e2, p, o⟩ := par hi
        refine ⟨x, ?_⟩
        rw [envOf_lt e2, if_pos (by simpa using hi)]
      · by_cases hlt : i < ds.length
        · rw [envOf_lt (List.getElem?_eq_getElem hlt)] at e
          split at e
          · rename_i hc
            have hi' : i ∈ D.ios := by simpa using hc
            obtain ⟨a, x', e1, e2, p, o⟩ := par hi'
            rw [List.getElem?_eq_getElem hlt] at e2
            cases e2
            cases e
            exact ⟨hi', a, start_lt e1, o⟩
          · cases e
        · cases envOf_ge (by omega) e
      · by_cases hlt : i < ds.length
        · rw [envOf_lt (List.getElem?_eq_getElem hlt)] at e
          split at e
          · cases e
          · rename_i hc
            cases e
            have hbl : i < bs.length := by omega
            cases hv : bs[i] with
            | true => exact absurd (by simpa using iosm.mpr (by rw [List.getElem?_eq_getElem hbl, hv])) hc
            | false =>
              obtain ⟨v, x', e1, e2, _, e4⟩ := al.get (show bs[i]? = some false by rw [List.getElem?_eq_getElem hbl, hv])
              rw [List.getElem?_eq_getElem hlt] at e2
              cases e2
              exact ⟨v, start_lt e1, e4 rfl⟩
        · cases envOf_ge (by omega) e
      · unfold envOf L2.start
        rw [List.length_append, List.length_append, List.length_map, List.length_zipIdx, List.length_replicate, List.length_map, List.length_replicate]
        omega
      · by_cases z : a ∈ ioA bs vs
        · exact .inr (.inl z)
        · exact .inl ⟨p, z⟩
      · obtain ⟨k, hk⟩ := List.mem_iff_getElem?.mp hp
        rw [List.getElem?_zip_eq_some] at hk
        obtain ⟨a, g1, g2⟩ := prL pr hk.1
        rw [hk.2] at g1
        cases g1
        exact start_lt g2.1
    have len : D.ios.length = (ioA bs vs).length := Paired.length pr
    refine ⟨_, envOf D ds, o, ?_, ⟨P, D.ios, s0⟩, h1, ?_⟩
    · exact List.map_fst_zip (Nat.le_of_eq len)
    · have fin : ∀ v x ρ' σ' H' P' O', EnvS K ⟨fun a => P a ∧ a ∉ ioA bs vs, fun a => a ∈ ioA bs vs, H, D.ios.zip (ioA bs vs)⟩ P' O' ρ' σ' H' → outsOf ρ' D.ios = some outs → Rp K H' P' v x → x = d → Q v H' := by
        intro v x ρ' σ' H' P' O' s' ho r ed
        subst ed
        have slot : ∀ i a y, i ∈ D.ios → vs[i]? = some (.ref a) → getO ρ' i = some y → P' a ∧ Own K H' P' a y := fun i a y hi hv hy => by
          obtain ⟨hO, b, e, p, o⟩ := s'.atO hy
          obtain ⟨k, hk⟩ := List.mem_iff_getElem?.mp hi
          obtain ⟨a', g1, g2⟩ := prL pr hk
          rw [hv] at g2
          have ea : a' = a := by
            have := g2.1
            injection this with this
            injection this with this
            exact this.symm
          subst ea
          have := s'.io (i, a') (List.mem_of_getElem? (i := k) (by rw [List.getElem?_zip_eq_some]; exact ⟨hk, g1⟩)) hO
          rw [e] at this
          injection this with this
          injection this with this
          injection this with this
          subst this
          exact ⟨p, o⟩
        have sub : ∀ a, P a → P' a := fun a p => by
          by_cases z : a ∈ ioA bs vs
          · obtain ⟨k, hk⟩ := List.mem_iff_getElem?.mp z
            obtain ⟨i, g1, g2⟩ := prR pr hk
            obtain ⟨y, hy⟩ := outs_mem ho i (List.mem_of_getElem? g1)
            exact (slot i a y (List.mem_of_getElem? g1) g2.1 hy).1
          · exact s'.env.zp a ⟨p, z⟩
        have less : Ext P' P H' H' := .less sub
        refine q v H' s'.keep (r.ext less) (outs_of ho ?_)
        have mems : ∀ i, i ∈ D.ios → i ∈ D.ios := fun i z => z
        have key : ∀ {is : List Nat} {as : List Addr}, Paired (fun i a => vs[i]? = some (V.ref a) ∧ bs[i]? = some true) is as → (∀ i, i ∈ is → i ∈ D.ios) → Paired (fun i a => ∀ y, getO ρ' i = some y → Own K H' P a y) is as := by
          intro is as p
          induction p with
          | nil => exact fun _ => .nil
          | cons h t ih => exact fun hm => .cons (fun y hy => (slot _ _ y (hm _ (List.mem_cons_self ..)) h.1 hy).2.ext less fun _ z => z) (ih fun i hi => hm i (List.mem_cons_of_mem _ hi))
        exact key pr mems
      cases o with
      | nx ρ' =>
        dsimp only at hg
        obtain ⟨outs', h2, hg⟩ := bind_some hg
        cases hg
        exact fun σ' H' ⟨P', O', s'⟩ => fin .non _ ρ' σ' H' P' O' s' h2 .non rfl
      | bk ρ' => cases hg
      | rt x ρ' =>
        dsimp only at hg
        obtain ⟨outs', h2, hg⟩ := bind_some hg
        cases hg
        exact fun v σ' H' P' O' s' r => fin v _ ρ' σ' H' P' O' s' h2 r rfl
  · cases hg
/-- the promise of the def f -/
abbrev spF (K : PySem.W.Frag) (tbl : List Def) (gl : List PyData) (n f : Nat) (bs : List Bool) : Sp := spP K (phi tbl gl n f) bs
theorem spP_len {g : List PyData → Option (PyData × List PyData)} {bs : List Bool} {vs : List V} {H : Hp} {Q : VK} {E : XK} (h : spP K g bs vs H Q E) : vs.length = bs.length := by
  obtain ⟨P, ds, d, outs, th, al, _⟩ := h
  exact al.length.1
/-- what a def's body may use -/
structure Ctx (tbl : List Def) (gl : List PyData) (gn : List Str) (T : List (Str × List Bool)) (bn : List Str) (n : Nat) (X : Cx) : Prop where
  calm : X.calm = true
  room : Room n X.A
  free : ∀ x, x ∈ bn → X.mg x = none
  call : ∀ (f : Nat) (x : Str) (bs : List Bool), T[f]? = some (x, bs) → Cal X.prog X.w X.K X.mg X.base n x (spF X.K tbl gl n f bs)
  gstr : ∀ (g : Nat) (x z : Str), gn[g]? = some x → gl[g]? = some (.str z) → ∃ t, X.mg x = some (.str z t)
  gtup : ∀ (g : Nat) (x : Str) (ds : List PyData), gn[g]? = some x → gl[g]? = some (.tuple ds) → ∃ a xs, X.mg x = some (.ref a) ∧ (∀ H, SqT X.K H a xs) ∧ ∀ H P, RpAll X.K H P xs ds
theorem Ctx.units {tbl : List Def} {gl : List PyData} {gn : List Str} {T : List (Str × List Bool)} {bn : List Str} {n : Nat} {X : Cx} (C : Ctx tbl gl gn T bn n X) : X.A.units + 70 < cLine := by have := C.room.un; omega
theorem Ctx.blk {tbl : List Def} {gl : List PyData} {gn : List Str} {T : List (Str × List Bool)} {bn : List Str} {n : Nat} {X : Cx} (C : Ctx tbl gl gn T bn n X) (s : Shared) (H : Hp) (scope : Scope) (cenv : Env) (fp : List Addr) : Ctx tbl gl gn T bn n (X.blk s H scope cenv fp) where
  calm := C.calm
  room := C.room
  free := C.free
  call := C.call
  gstr := C.gstr
  gtup := C.gtup
/-- the def f at level n + 1, by its body -/
theorem cal_ok {P : Program} {w : World} {K : PySem.W.Frag} {mg : Str → Option Value} {base : Heap} {n f : Nat} {x qual : Str} {params : Arguments} {body : List Stmt} {scope : Scope} {fa : Addr} {fd : FuncData} {D : Def} {bs : List Bool} {N ps : List Str}
    (F : FunD K x qual params body scope [] [] fa fd) (hm : mg x = some (.ref fa)) (b : Binds K fd ps []) (S : FnScope N ps scope) (hl : ps.length = bs.length)
    (hf : tbl[f]? = some D) (hi : D.ios = trues bs 0) (hb : bs.length = D.np) (hN : N.length = D.ns)
    (hw : ∀ (qual' : Str) (cdv : Value) (A : Around) (outer : List Env) (s : Shared) (H : Hp) (E : XK), Room n (A.deeper (envOfC qual' scope s.heap.objs.size fa cdv)) → PSsv ((cxOf L2.CX0 P w K mg base N qual' scope fa cdv A outer s H E).nox) (phi tbl gl n) gl D.ios body D.body) :
    Cal P w K mg base (n + 1) x (spF K tbl gl (n + 1) f bs) := by
  refine ⟨fa, fd, ps, F.ok S (fun vs H Q E h => by rw [spP_len h, hl]) fun cdv A outer s H vs Q E hr h => ⟨_, PSs.nox (hw qual cdv A outer s H E hr), ?_⟩, hm, F.kp, b⟩
  exact body_ok hf hi hb hN h
/-- nothing is promised at level 0 -/
theorem cal_0 {P : Program} {w : World} {K : PySem.W.Frag} {mg : Str → Option Value} {base : Heap} {f : Nat} {x : Str} {fa : Addr} {fd : FuncData} {bs : List Bool} {ps : List Str} (hk : PySem.W.keepIn K (.ref fa) = true) (hm : mg x = some (.ref fa)) (b : Binds K fd ps []) :
    Cal P w K mg base 0 x (spF K tbl gl 0 f bs) := by
  have no : ∀ {vs : List V} {H : Hp} {Q : VK} {E : XK}, ¬ spF K tbl gl 0 f bs vs H Q E := fun ⟨_, _, _, _, _, _, _, h, _⟩ => by simp [phi] at h
  exact ⟨fa, fd, ps, ⟨fun vs H Q E h => (no h).elim, fun A outer s H args us vs Q E _ _ _ _ h => (no h).elim⟩, hm, hk, b⟩
end
end PP

/-! PP14: more built-in calls: isinstance, len(set(ints)), list(range), dict.get, join, the module's constants. -/
namespace PP
open PySem PySem.Spec PyProof.Rows L2 RZ
section
variable {X : Cx} {Φ : Nat → List PyData → Option (PyData × List PyData)} {gl : List PyData} {a b c : Expr} {ea eb ec : E} {pos p p2 q cpos apos : Pos}
/-! isinstance -/
def tyN : PyData → String
  | .none => "NoneType"
  | .bool _ => "bool"
  | .int _ => "int"
  | .str _ => "str"
  | .tuple _ => "tuple"
  | .list _ => "list"
  | .dict _ => "dict"
theorem kit_rp {pins : List (Addr × Obj)} {σ : L2.St} {H : Hp} {s : Shared} {P : Addr → Prop} {v : V} {u : Value} {d : PyData} (I : Inv X pins σ H s) (rx : RelV v u) (r : Rp X.K H P v d) :
    ∃ P : Heap → Prop, PySem.W.KitX X.K u (.type (tyN d)) P ∧ P s.heap ∧ u ≠ .builtin "__main__.__loader__#opaque" := by
  cases r with
  | non => exact kit_of I rx (.base .non)
  | bl y => exact kit_of I rx (.base (.bl y))
  | int y => exact kit_of I rx (.base (.int y))
  | str y => exact kit_of I rx (.base (.str y))
  | lst n h _ => exact kit_of I rx (.base (.lst h))
  | tup h _ => exact kit_of I rx (.base (.tup h))
  | @dk a kvs ds n h _ =>
    cases (show u = Value.ref a from rx)
    obtain ⟨_, _, vs, _, o, es, ep, h1, h2, _⟩ := dk_rd I.hok h.rd
    exact ⟨_, PySem.W.kitx_dict, ⟨o, h1, h2.1⟩, fun z => nomatch z⟩
  | @dt a kvs ds n h _ =>
    cases (show u = Value.ref a from rx)
    obtain ⟨_, _, xs, _, o, es, ep, h1, h2, _⟩ := dt_rd I.hok h.rd
    exact ⟨_, PySem.W.kitx_dict, ⟨o, h1, h2.1⟩, fun z => nomatch z⟩
theorem isT_ok {K : PySem.W.Frag} {t : String} {d : PyData} {b : Bool} {P : Addr → Prop} {H : Hp} {v : V} (r : Rp K H P v d) (h : isT t d = some b) : PySem.W.kitOne K (.type (tyN d)) (.type t) = some b := by
  have go : ∀ (n : String) (g : String → Bool), (if t ∈ ["int", "str", "tuple", "list", "dict", "bool"] then some (g t) else none) = some b → (∀ t, t ∈ ["int", "str", "tuple", "list", "dict", "bool"] → kitB n t = some (g t)) → PySem.W.kitOne K (.type n) (.type t) = some b := fun n g e k => by
    split at e
    · rename_i ht
      cases e
      exact kit_ty (k t ht)
    · cases e
  cases r with
  | non => exact go "NoneType" (fun _ => false) h (by decide +kernel)
  | bl y => exact go "bool" (fun t => t == "bool" || t == "int") h (by decide +kernel)
  | int y => exact go "int" (fun t => t == "int") h (by decide +kernel)
  | str y => exact go "str" (fun t => t == "str") h (by decide +kernel)
  | lst n h' _ => exact go "list" (fun t => t == "list") h (by decide +kernel)
  | tup h' _ => exact go "tuple" (fun t => t == "tuple") h (by decide +kernel)
  | dk n h' _ => exact go "dict" (fun t => t == "dict") h (by decide +kernel)
  | dt n h' _ => exact go "dict" (fun t => t == "dict") h (by decide +kernel)
theorem e_isI {t : Str} {T : String} {pt : Pos} (hg : Gl X "isinstance") (hm : X.mg "isinstance" = none) (hgt : Gl X t) (hmt : X.mg t = none) (hvt : bootBuiltins t = some (.type T)) (ha : PEv X Φ gl a ea) (hio : isIo ea = false := by rfl) (hnt : t ≠ "__name__" := by decide) (hdt : (t == ("__debug__" : Str)) = false := by decide)
    (he : starEach [a, .Name t pt] X.env = (false, eval a X.env) :: starEach [.Name t pt] X.env := by rfl) (hpl : (backTo pos (starEach [.Name t pt] X.env)).any (·.1) = false := by rfl) (he2 : starEach [.Name t pt] X.env = (false, eval (.Name t pt) X.env) :: starEach [] X.env := by rfl) :
    PEv X Φ gl (.Call (.Name "isinstance" p) [a, .Name t pt] [] pos) (.bi (.isI T) (.cons ea .nil)) := by
  have hc : CallR X (.builtin "isinstance") (fun xs H Q => ∃ v P d b, xs = [v, .ty T] ∧ Rp X.K H P v d ∧ isT T d = some b ∧ Q (.bl b) H) := by
    intro pins s σ H xs us Q I r ⟨v, P, d, b, e, rp, ht, w⟩
    subst e
    obtain ⟨u1, u2, rfl, r1, r2⟩ := vals2 r
    cases (show u2 = Value.type T from r2)
    obtain ⟨P', Z, pp, hx⟩ := kit_rp I r1 rp
    exact PySem.W.kia_one Z I.kIn pp (isT_ok rp ht) hx fun tk => ⟨.bl b, H, I.tok tk, rfl, w⟩
  have hty : PE X (.Name t pt) (tC (.ty T)) := pe_bltn hgt hmt hvt rfl hnt hdt
  refine (pe_callB hc hg hm rfl (pa_cons ha (pa_cons hty pa_nil he2) he) (by decide) (by decide) he hpl).imp fun σ H Q ⟨F, ρ, d, fl, ρ', en, sa, sm, h, q⟩ => ?_
  simp only [ev, evs] at h
  obtain ⟨⟨ds, ρ1⟩, h1, h⟩ := bind_some h
  obtain ⟨⟨x, fx, ρ2⟩, h2, h1⟩ := bind_some h1
  cases h1
  obtain ⟨⟨d', f'⟩, h3, h⟩ := bind_some h
  cases h
  simp only [biV, v_isI] at h3
  obtain ⟨b, h4, e4⟩ := Option.map_eq_some_iff.mp h3
  cases e4
  exact one en (by simpa [als, alss] using sa) (by simpa [mods, modss] using sm) h2 fun v H1 en1 k1 r1 => ⟨v, F.P, x, b, rfl, r1.rp, h4, fin_sh en1 k1 q (.bl b)⟩

/-! len(set(ints)) -/
theorem firstMet_dedup {ns : List Int} : ∀ k, k ≤ ns.length → PyProof.Rows.firstMet (fun i => ns.getD i 0) k = dedupI (ns.take k)
  | 0, _ => rfl
  | k + 1, h => by
    have hl : k < ns.length := h
    have e1 : ns.getD k 0 = ns[k] := by
      rw [List.getD_eq_getElem?_getD, List.getElem?_eq_getElem hl] <;> rfl
    rw [PyProof.Rows.firstMet_succ, firstMet_dedup k (Nat.le_of_lt hl), List.take_add_one, List.getElem?_eq_getElem hl]
    unfold dedupI
    rw [List.foldl_append]
    show (if (List.foldl _ [] (ns.take k)).any (· == ns.getD k 0) then _ else _ ++ [ns.getD k 0]) = (if (List.foldl _ [] (ns.take k)).any (· == ns[k]) then _ else _ ++ [ns[k]])
    rw [e1]
theorem e_lenSet (hg : Gl X "len") (hm : X.mg "len" = none) (hg2 : Gl X "set") (hm2 : X.mg "set" = none) (ha : PEv X Φ gl a ea) (hc : X.calm = true)
    (na : starEach [a] X.env = (false, eval a X.env) :: starEach [] X.env := by rfl) : PEv X Φ gl (.Call (.Name "len" p) [.Call (.Name "set" p2) [a] [] q] [] pos) (.bi .lenSet (.cons ea .nil)) := by
  refine ⟨fun pins s σ H Q I ⟨F, ρ, d, fl, ρ', en, sa, sm, h, w⟩ => ?_⟩
  simp only [ev, evs] at h
  obtain ⟨⟨ds, ρ1⟩, h1, h⟩ := bind_some h
  obtain ⟨⟨x, fx, ρ2⟩, h2, h1⟩ := bind_some h1
  cases h1
  obtain ⟨⟨d', f'⟩, h3, h⟩ := bind_some h
  cases h
  refine Call_ (ld_blt I hg hm boot_len ?_)
  refine PyProof.Rows.callWith_builtin1 (PyProof.Rows.args_cons ?_ rfl) rfl rfl
  refine Call_ (ld_blt I hg2 hm2 boot_set ?_)
  refine PyProof.Rows.callWith_type1 (PyProof.Rows.args_cons (thn (ha.run pins s σ H _ I (one (Q := fun v H1 => ∃ l ns, v = .ref l ∧ SqL X.K H1 l (ns.map V.int) ∧ ns.length ≤ 4000 ∧ Q (.int (dedupI ns).length) H1) en (by simpa [als, alss] using sa) (by simpa [mods, modss] using sm) h2 fun v H1 en1 k1 r1 => ?_)) fun v s1 ⟨x, H1, I1, r1, q1⟩ => PyProof.Rows.args_nil ?_) na) na rfl
  · simp only [biV, v_lenSet] at h3
    cases x with
    | list xs =>
      dsimp only at h3
      obtain ⟨ns, h4, h3⟩ := bind_some h3
      split at h3
      · rename_i hz
        cases h3
        cases r1.rp with
        | lst n hh ra =>
          have := ints_rp h4 ra
          subst this
          exact ⟨_, ns, rfl, .inl (.inl hh), hz, fin_sh en1 k1 w (.int _)⟩
      · cases h3
    | _ => simp at h3
  · obtain ⟨l, ns, rfl, hq, hl, q1⟩ := q1
    cases r1
    obtain ⟨its, r, pl, hz⟩ := I1.list hq
    have hlen : its.toArray.size = ns.length := by rw [List.size_toArray, ← r.length, List.length_map]
    refine call_set_list (I1.ok.hd hc) pl.isList (by simpa using RZ.intsAre_vals r) (by rw [hlen]; unfold scanBound; omega) fun h' tk hS hk => ?_
    refine PyProof.Rows.args_nil ?_
    rw [hlen, firstMet_dedup ns.length (Nat.le_refl _), List.take_length] at hS
    obtain ⟨o, es, ep, t, ho, hex, hd, _, _, _, hf, hn⟩ := hS
    have I2 : Inv X pins σ H1 { s1 with heap := h', toks := tk } := I1.kept fun b o e => hk b o (Heap.lt_size e) e
    have hsz : (dedupI ns).length ≤ ns.length := by
      have : ∀ (l acc : List Int), (l.foldl (fun acc x => if acc.any (· == x) then acc else acc ++ [x]) acc).length ≤ acc.length + l.length := by
        intro l
        induction l with
        | nil => intro acc; simp
        | cons y l ih =>
          intro acc
          rw [List.foldl_cons]
          refine Nat.le_trans (ih _) ?_
          rw [List.length_cons]
          split
          · omega
          · rw [List.length_append]; simp; omega
      simpa [dedupI] using this ns []
    exact call_len_set ho hex hd hf (by rw [hn] <;> omega) ⟨.int (dedupI ns).length, H1, I2.tok _, ⟨_, by rw [hn]⟩, q1⟩

/-! list(range(..)) -/
theorem rgV_rp {K : PySem.W.Frag} {H : Hp} {P : Addr → Prop} {lo : Int} : ∀ (l : List Nat), RpAll K H P (l.map fun i => V.int (lo + (i : Nat))) (l.map fun k => PyData.int (lo + (k : Nat)))
  | [] => .nil
  | _ :: l => .cons (.int _) (rgV_rp l)
theorem e_listRg1 (hc : X.calm = true) (hg : Gl X "list") (hm : X.mg "list" = none) (hg2 : Gl X "range") (hm2 : X.mg "range" = none) (ha : PEv X Φ gl a ea) (na : starEach [a] X.env = (false, eval a X.env) :: starEach [] X.env := by rfl)
    (nb : starEach [.Call (.Name "range" p2) [a] [] q] X.env = (false, eval (.Call (.Name "range" p2) [a] [] q) X.env) :: starEach [] X.env := by rfl) : PEv X Φ gl (.Call (.Name "list" p) [.Call (.Name "range" p2) [a] [] q] [] pos) (.bi .listRange (.cons ea .nil)) :=
  (pe_listRg hc hg hm (prg_1 hg2 hm2 ha na) nb).imp fun σ H Q ⟨F, ρ, d, fl, ρ', en, sa, sm, h, w⟩ => by
    simp only [ev, evs] at h
    obtain ⟨⟨ds, ρ1⟩, h1, h⟩ := bind_some h
    obtain ⟨⟨x, fx, ρ2⟩, h2, h1⟩ := bind_some h1
    cases h1
    obtain ⟨⟨d', f'⟩, h3, h⟩ := bind_some h
    cases h
    simp only [biV, v_listRange] at h3
    obtain ⟨xs, h4, h3⟩ := bind_some h3
    split at h3
    · rename_i hz
      cases h3
      refine one en (by simpa [als, alss] using sa) (by simpa [mods, modss] using sm) h2 fun v H1 en1 k1 r1 => ?_
      cases x with
      | int j =>
        simp only [rngD] at h4
        split at h4
        · rename_i hb
          cases h4
          rw [rp_ints r1.rp]
          unfold rngOk at hb
          simp only [Bool.and_eq_true, decide_eq_true_eq] at hb
          rw [List.length_map, List.length_range, sizeLine_eq] at hz
          have e : (j - 0).toNat = j.toNat := by simp
          refine ⟨j, rfl, ⟨by omega, by omega, hb.1.2, hb.2, by rw [e]; omega⟩, ?_⟩
          unfold rgV
          rw [e]
          exact (fin en1 k1 w).lst (rgV_rp _)
        · cases h4
      | _ => simp [rngD] at h4
    · cases h3
theorem e_listRg2 (hc : X.calm = true) (hg : Gl X "list") (hm : X.mg "list" = none) (hg2 : Gl X "range") (hm2 : X.mg "range" = none) (ha : PEv X Φ gl a ea) (hb : PEv X Φ gl b eb) (na : starEach [a, b] X.env = (false, eval a X.env) :: starEach [b] X.env := by rfl) (nb2 : starEach [b] X.env = (false, eval b X.env) :: starEach [] X.env := by rfl) (hp : (backTo q (starEach [b] X.env)).any (·.1) = false := by rfl)
    (nb : starEach [.Call (.Name "range" p2) [a, b] [] q] X.env = (false, eval (.Call (.Name "range" p2) [a, b] [] q) X.env) :: starEach [] X.env := by rfl) : PEv X Φ gl (.Call (.Name "list" p) [.Call (.Name "range" p2) [a, b] [] q] [] pos) (.bi .listRange (.cons ea (.cons eb .nil))) :=
  (pe_listRg hc hg hm (prg_2 hg2 hm2 ha hb na nb2 hp) nb).imp fun σ H Q ⟨F, ρ, d, fl, ρ', en, sa, sm, h, w⟩ => by
    simp only [ev, evs] at h
    obtain ⟨⟨ds, ρ1⟩, h1, h⟩ := bind_some h
    obtain ⟨⟨x, fx, ρ2⟩, h2, h1⟩ := bind_some h1
    obtain ⟨⟨ys, ρ3⟩, h5, h1⟩ := bind_some h1
    cases h1
    obtain ⟨⟨y, fy, ρ4⟩, h6, h5⟩ := bind_some h5
    cases h5
    obtain ⟨⟨d', f'⟩, h3, h⟩ := bind_some h
    cases h
    simp only [biV, v_listRange] at h3
    obtain ⟨xs, h4, h3⟩ := bind_some h3
    split at h3
    · rename_i hz
      cases h3
      refine two en (by simpa [als, alss] using sa) (by simpa [mods, modss] using sm) h2 h6 fun v w' H1 en1 k1 r1 r2 => ?_
      have ij : ∃ i j : Int, x = .int i ∧ y = .int j := by
        cases x <;> cases y <;> first | exact ⟨_, _, rfl, rfl⟩ | simp [rngD] at h4
      obtain ⟨i, j, rfl, rfl⟩ := ij
      simp only [rngD] at h4
      split at h4
      · rename_i hb
        cases h4
        rw [rp_ints r1, rp_ints r2]
        unfold rngOk at hb
        simp only [Bool.and_eq_true, decide_eq_true_eq] at hb
        rw [List.length_map, List.length_range, sizeLine_eq] at hz
        exact ⟨i, j, rfl, rfl, ⟨hb.1.1.1, hb.1.1.2, hb.1.2, hb.2, by omega⟩, (fin en1 k1 w).lst (rgV_rp _)⟩
      · cases h4
    · cases h3

/-! sep.join(texts) -/
theorem e_join (ha : PEv X Φ gl a ea) (hb : PEv X Φ gl b eb) (hs : starEach [b] X.env = [(false, eval b X.env)] := by rfl) (hbase : attributeBase a "join" X.env (eval a X.env) = eval a X.env := by rfl) (hline : (apos.endLine == cpos.line) = true := by rfl) :
    PEv X Φ gl (.Call (.Attribute a "join" apos) [b] [] cpos) (.bi .join (.cons ea (.cons eb .nil))) :=
  (pe_join ha hb hs hbase hline).imp fun σ H Q ⟨F, ρ, d, fl, ρ', en, sa, sm, h, w⟩ => by
    simp only [ev, evs] at h
    obtain ⟨⟨ds, ρ1⟩, h1, h⟩ := bind_some h
    obtain ⟨⟨x, fx, ρ2⟩, h2, h1⟩ := bind_some h1
    obtain ⟨⟨ys, ρ3⟩, h5, h1⟩ := bind_some h1
    cases h1
    obtain ⟨⟨y, fy, ρ4⟩, h6, h5⟩ := bind_some h5
    cases h5
    obtain ⟨⟨d', f'⟩, h3, h⟩ := bind_some h
    cases h
    have sa : ∀ i, i ∈ als ea ++ als eb → i ∈ F.A := by simpa [als, alss] using sa
    have sm : ∀ i, i ∈ mods ea ++ mods eb → i ∈ F.M := by simpa [mods, modss] using sm
    have h3 : v_join [x, y] = some (d', f') := h3
    unfold v_join at h3
    split at h3
    · rename_i z1 z2
      injection z2 with z2 z3
      injection z3 with z3 _
      subst z2 z3
      obtain ⟨ss, h7, h3⟩ := bind_some h3
      split at h3
      · rename_i hz
        cases h3
        refine one en (fun i z => sa i (List.mem_append_left _ z)) (fun i z => sm i (List.mem_append_left _ z)) h2 fun v H1 en1 k1 r1 => ?_
        cases r1.rp
        refine ⟨⟨_, rfl⟩, one en1 (fun i z => sa i (List.mem_append_right _ z)) (fun i z => sm i (List.mem_append_right _ z)) h6 fun u H2 en2 k2 r2 => ?_⟩
        cases r2.rp with
        | lst n hh ra =>
          have := strs_rp h7 ra
          subst this
          exact ⟨_, _, ss, rfl, rfl, .inl (.inl (.inl hh)), hz, by rw [TL.join_eq]; exact fin_sh en2 (k1.trans k2) w (.str _)⟩
      · cases h3
    · cases h3

/-! d.get(k), d.get(k, x) -/
theorem dict_ty {pins : List (Addr × Obj)} {σ : L2.St} {H : Hp} {s : Shared} {P : Addr → Prop} {v : V} {u : Value} {ds : List (PyData × PyData)} (I : Inv X pins σ H s) (rx : RelV v u) (r : Rp X.K H P v (.dict ds)) :
    s.TypeIs u "dict" ∧ ∀ b, u = .ref b → ∃ ob, s.heap.get? b = some ob ∧ ob.dict = none := by
  cases r with
  | @dk a kvs _ n h _ =>
    cases (show u = Value.ref a from rx)
    obtain ⟨_, _, vs, _, dd⟩ := dk_rd I.hok h.rd
    refine ⟨dd.typeIs, fun b e => ?_⟩
    cases e
    obtain ⟨ob, _, _, h1, h2, _⟩ := dd
    exact ⟨ob, h1, h2.2.1⟩
  | @dt a kvs _ n h _ =>
    cases (show u = Value.ref a from rx)
    obtain ⟨_, _, vs, _, dd⟩ := dt_rd I.hok h.rd
    refine ⟨dd.typeIs, fun b e => ?_⟩
    cases e
    obtain ⟨ob, _, _, h1, h2, _⟩ := dd
    exact ⟨ob, h1, h2.2.1⟩
theorem e_get1 (hu : X.A.units + 70 < cLine) (ha : PEv X Φ gl a ea) (hb : PEv X Φ gl b eb) (m : M1 X a "get" apos b cpos) : PEv X Φ gl (.Call (.Attribute a "get" apos) [b] [] cpos) (.bi .get (.cons ea (.cons eb .nil))) := by
  refine ⟨fun pins s σ H Q I ⟨F, ρ, d, fl, ρ', en, sa, sm, h, w⟩ => ?_⟩
  simp only [ev, evs] at h
  obtain ⟨⟨ds, ρ1⟩, h1, h⟩ := bind_some h
  obtain ⟨⟨x, fx, ρ2⟩, h2, h1⟩ := bind_some h1
  obtain ⟨⟨ys, ρ3⟩, h5, h1⟩ := bind_some h1
  cases h1
  obtain ⟨⟨y, fy, ρ4⟩, h6, h5⟩ := bind_some h5
  cases h5
  obtain ⟨⟨d', f'⟩, h3, h⟩ := bind_some h
  cases h
  have sa : ∀ i, i ∈ als ea ++ als eb → i ∈ F.A := by simpa [als, alss] using sa
  have sm : ∀ i, i ∈ mods ea ++ mods eb → i ∈ F.M := by simpa [mods, modss] using sm
  cases x with
  | dict kvs =>
    have h3 : v_get [.dict kvs, y] = some (d', f') := h3
    simp only [v_get] at h3
    obtain ⟨kk, h7, h3⟩ := bind_some h3
    split at h3
    · rename_i hf
      cases h3
      refine wpAny_Call_method m.base m.few m.line PySem.F.plainAttrs_dict PySem.F.slot_dict_get PySem.F.type_dict_get (thn (ha.run pins s σ H _ I (one (Q := fun v H1 => Rp X.K H1 F.P v (.dict kvs) ∧ EnvOk X.K F ρ2 σ H1 ∧ Keep (Wr σ F.M) H H1) en (fun i z => sa i (List.mem_append_left _ z)) (fun i z => sm i (List.mem_append_left _ z)) h2 fun v H1 en1 k1 r1 => ⟨r1.rp, en1, k1⟩)) fun u s1 ⟨v, H1, I1, rv, rp1, en1, k1⟩ => ?_)
      obtain ⟨t1, t2⟩ := dict_ty I1 rv rp1
      refine ⟨t1, t2, ?_⟩
      rw [m.trees]
      refine Calls.callWith_builtin rfl (Calls.evalArgs_plain (Calls.spliced_cons (thn (hb.run pins s1 σ H1 _ I1 (one (Q := fun v2 H2 => Rp X.K H2 F.P v (.dict kvs) ∧ Rp X.K H2 F.P v2 y ∧ EnvOk X.K F ρ4 σ H2 ∧ Keep (Wr σ F.M) H H2) en1 (fun i z => sa i (List.mem_append_right _ z)) (fun i z => sm i (List.mem_append_right _ z)) h6 fun v2 H2 en2 k2 r2 => ⟨rp1.ext (k2.ext fun a z => en1.wr z), r2.rp, en2, k1.trans k2⟩)) fun iv s2 ⟨v2, H2, I2, ry, ra, rb, en2, k2⟩ => Calls.spliced_nil ?_)))
      obtain ⟨a', o, H3, ex, I3, back, g, g1, g2⟩ := dget_of I2 ra rb h7 hf
      subst ex
      obtain rfl : u = Value.ref a' := rv
      refine d_get1 (by omega) I3 g ry fun w' s3 I4 rw' => ⟨_, H2, back s3 I4, rw', fin_sh en2 k2 w ?_⟩
      cases hq : dlook kvs kk with
      | none => rw [g2 hq]; exact .non
      | some dv =>
        obtain ⟨v', e', r'⟩ := g1 dv hq
        rw [e']; exact r'
    · cases h3
  | _ => simp [biV, v_get] at h3
theorem e_get2 (hu : X.A.units + 70 < cLine) (ha : PEv X Φ gl a ea) (hb : PEv X Φ gl b eb) (hc : PEv X Φ gl c ec) (m : M2 X a "get" apos b c cpos) : PEv X Φ gl (.Call (.Attribute a "get" apos) [b, c] [] cpos) (.bi .get (.cons ea (.cons eb (.cons ec .nil)))) := by
  refine ⟨fun pins s σ H Q I ⟨F, ρ, d, fl, ρ', en, sa, sm, h, w⟩ => ?_⟩
  simp only [ev, evs] at h
  obtain ⟨⟨ds, ρ1⟩, h1, h⟩ := bind_some h
  obtain ⟨⟨x, fx, ρ2⟩, h2, h1⟩ := bind_some h1
  obtain ⟨⟨ys, ρ3⟩, h5, h1⟩ := bind_some h1
  cases h1
  obtain ⟨⟨y, fy, ρ4⟩, h6, h5⟩ := bind_some h5
  obtain ⟨⟨zs, ρ5⟩, h8, h5⟩ := bind_some h5
  cases h5
  obtain ⟨⟨z, fz, ρ6⟩, h9, h8⟩ := bind_some h8
  cases h8
  obtain ⟨⟨d', f'⟩, h3, h⟩ := bind_some h
  cases h
  have sa : ∀ i, i ∈ als ea ++ (als eb ++ als ec) → i ∈ F.A := by simpa [als, alss] using sa
  have sm : ∀ i, i ∈ mods ea ++ (mods eb ++ mods ec) → i ∈ F.M := by simpa [mods, modss] using sm
  cases x with
  | dict kvs =>
    have h3 : v_get [.dict kvs, y, z] = some (d', f') := h3
    simp only [v_get] at h3
    obtain ⟨kk, h7, h3⟩ := bind_some h3
    split at h3
    · rename_i hf
      cases h3
      refine wpAny_Call_method m.base m.few m.line PySem.F.plainAttrs_dict PySem.F.slot_dict_get PySem.F.type_dict_get (thn (ha.run pins s σ H _ I (one (Q := fun v H1 => Rp X.K H1 F.P v (.dict kvs) ∧ EnvOk X.K F ρ2 σ H1 ∧ Keep (Wr σ F.M) H H1) en (fun i z => sa i (List.mem_append_left _ z)) (fun i z => sm i (List.mem_append_left _ z)) h2 fun v H1 en1 k1 r1 => ⟨r1.rp, en1, k1⟩)) fun u s1 ⟨v, H1, I1, rv, rp1, en1, k1⟩ => ?_)
      obtain ⟨t1, t2⟩ := dict_ty I1 rv rp1
      refine ⟨t1, t2, ?_⟩
      rw [m.trees]
      refine Calls.callWith_builtin rfl (Calls.evalArgs_plain (Calls.spliced_cons (thn (hb.run pins s1 σ H1 _ I1 (one (Q := fun v2 H2 => Rp X.K H2 F.P v (.dict kvs) ∧ Rp X.K H2 F.P v2 y ∧ EnvOk X.K F ρ4 σ H2 ∧ Keep (Wr σ F.M) H H2) en1 (fun i z => sa i (by simp [z])) (fun i z => sm i (by simp [z])) h6 fun v2 H2 en2 k2 r2 => ⟨rp1.ext (k2.ext fun a z => en1.wr z), r2.rp, en2, k1.trans k2⟩)) fun iv s2 ⟨v2, H2, I2, ry, ra, rb, en2, k2⟩ =>
        Calls.spliced_cons (thn (hc.run pins s2 σ H2 _ I2 (one (Q := fun v3 H3 => Rp X.K H3 F.P v (.dict kvs) ∧ Rp X.K H3 F.P v2 y ∧ Rp X.K H3 F.P v3 z ∧ EnvOk X.K F ρ6 σ H3 ∧ Keep (Wr σ F.M) H H3) en2 (fun i z => sa i (by simp [z])) (fun i z => sm i (by simp [z])) h9 fun v3 H3 en3 k3 r3 => ⟨ra.ext (k3.ext fun a z => en2.wr z), rb.ext (k3.ext fun a z => en2.wr z), r3.rp, en3, k2.trans k3⟩)) fun zv s3 ⟨v3, H3, I3, rz, ra, rb, rc, en3, k3⟩ => Calls.spliced_nil ?_))))
      obtain ⟨a', o, H4, ex, I4, back, g, g1, g2⟩ := dget_of I3 ra rb h7 hf
      subst ex
      obtain rfl : u = Value.ref a' := rv
      refine d_get2 (by omega) I4 g ry rz fun w' s4 I5 rw' => ⟨_, H3, back s4 I5, rw', fin_sh en3 k3 w ?_⟩
      cases hq : dlook kvs kk with
      | none => rw [g2 hq]; exact rc
      | some dv =>
        obtain ⟨v', e', r'⟩ := g1 dv hq
        rw [e']; exact r'
    · cases h3
  | _ => simp [biV, v_get] at h3
end
end PP

/-! PP15: the module's tuples and texts; dict displays. -/
namespace PP
open PySem PySem.Spec PyProof.Rows L2 RZ
section
variable {X : Cx} {Φ : Nat → List PyData → Option (PyData × List PyData)} {gl : List PyData} {a b c tg : Expr} {ea eb ec : E} {pos p : Pos}
theorem in_const (neg : Bool) (hu : X.A.units + 64 < cLine) {t : Addr} {xs : List V} {ds : List PyData} (hq : ∀ H, SqT X.K H t xs) (hr : ∀ H P, RpAll X.K H P xs ds) :
    OpR X (compareOp (if neg then .NotIn else .In)) (fun x y H Q => ∃ P dx b, y = .ref t ∧ Rp X.K H P x dx ∧ inV dx (.tuple ds) = some b ∧ Q (.bl (if neg then !b else b)) H) := by
  intro pins s σ H x y v u Q I rx ry ⟨P, dx, b, ey, hx, e, q⟩
  subst ey
  have hd : mxD = 40 := rfl
  simp only [inV] at e
  split at e
  · rename_i c
    rw [Bool.and_eq_true] at c
    obtain ⟨p1, d1⟩ := okD_and c.1
    obtain ⟨p2, d2⟩ := okD_and c.2
    have p2 : PyData.plainAll ds = true := by simpa [PyData.plain] using p2
    obtain ⟨as, r1⟩ := hx.reads I p1 rx
    obtain ⟨bs, r2⟩ := Dp.reads I (.tuple ds) _ _ (.tup (hq H) ((hr H P).dp p2)) ry
    cases e
    have hm := Nat.min_le_right (PyData.depthAll ds) dx.depth
    cases neg with
    | false => exact SeqAt.in_tuple_data r2 r1 p2 p1 (by omega) ⟨.bl _, H, I, rfl, q⟩
    | true => exact SeqAt.notIn_tuple_data r2 r1 p2 p1 (by omega) ⟨.bl _, H, I, rfl, q⟩
  · cases e
/-- x in T, T a tuple of the module -/
theorem e_inG {x : Str} {g : Nat} {ds : List PyData} (hu : X.A.units + 70 < cLine) (hg : Gl X x) (hm : ∃ t xs, X.mg x = some (.ref t) ∧ (∀ H, SqT X.K H t xs) ∧ ∀ H P, RpAll X.K H P xs ds) (he : gl[g]? = some (.tuple ds)) (ha : PEv X Φ gl a ea) (hb : behindInMarks .In (.Name x p) = false := by with_unfolding_all rfl) (hd : (x == ("__debug__" : Str)) = false := by decide) :
    PEv X Φ gl (.Compare a [.In] [.Name x p] pos) (.inG false ea g) := by
  obtain ⟨t, xs, hm, hq, hr⟩ := hm
  exact (pe_cmpR (in_const false (by omega) hq hr) ha (pe_glob hg hm (v := .ref t) rfl hd) hb).imp fun σ H Q ⟨F, ρ, d, fl, ρ', en, sa, sm, h, q⟩ => by
    simp only [ev, he] at h
    obtain ⟨⟨y, fy, ρ1⟩, h1, h⟩ := bind_some h
    obtain ⟨_, e, h⟩ := bind_some h
    cases e
    obtain ⟨b, h2, h⟩ := bind_some h
    cases h
    exact one en (by simpa [als] using sa) (by simpa [mods] using sm) h1 fun v H1 en1 k1 r1 => ⟨F.P, y, b, rfl, r1.rp, h2, fin_sh en1 k1 q (.bl _)⟩
theorem e_ninG {x : Str} {g : Nat} {ds : List PyData} (hu : X.A.units + 70 < cLine) (hg : Gl X x) (hm : ∃ t xs, X.mg x = some (.ref t) ∧ (∀ H, SqT X.K H t xs) ∧ ∀ H P, RpAll X.K H P xs ds) (he : gl[g]? = some (.tuple ds)) (ha : PEv X Φ gl a ea) (hb : behindInMarks .NotIn (.Name x p) = false := by with_unfolding_all rfl) (hd : (x == ("__debug__" : Str)) = false := by decide) :
    PEv X Φ gl (.Compare a [.NotIn] [.Name x p] pos) (.inG true ea g) := by
  obtain ⟨t, xs, hm, hq, hr⟩ := hm
  exact (pe_cmpR (in_const true (by omega) hq hr) ha (pe_glob hg hm (v := .ref t) rfl hd) hb).imp fun σ H Q ⟨F, ρ, d, fl, ρ', en, sa, sm, h, q⟩ => by
    simp only [ev, he] at h
    obtain ⟨⟨y, fy, ρ1⟩, h1, h⟩ := bind_some h
    obtain ⟨_, e, h⟩ := bind_some h
    cases e
    obtain ⟨b, h2, h⟩ := bind_some h
    cases h
    exact one en (by simpa [als] using sa) (by simpa [mods] using sm) h1 fun v H1 en1 k1 r1 => ⟨F.P, y, b, rfl, r1.rp, h2, fin_sh en1 k1 q (.bl _)⟩
/-- for .. in T -/
theorem i_globT {x : Str} {g : Nat} {ds : List PyData} (hg : Gl X x) (hm : ∃ t xs, X.mg x = some (.ref t) ∧ (∀ H, SqT X.K H t xs) ∧ ∀ H P, RpAll X.K H P xs ds) (he : gl[g]? = some (.tuple ds)) (hd : (x == ("__debug__" : Str)) = false := by decide) : PIv X Φ gl tg (.Name x p) (.glob g) := by
  obtain ⟨t, xs, hm, hq, hr⟩ := hm
  exact (pi_tup (pe_glob hg hm (v := .ref t) rfl hd)).imp fun σ H R ⟨F, ρ, d, ρ', en, sa, sm, h, q⟩ => by
    simp only [evi, he] at h
    obtain ⟨_, e, h⟩ := bind_some h
    cases e
    obtain ⟨_, e, h⟩ := bind_some h
    cases e
    cases h
    exact ⟨t, rfl, ⟨xs, hq H⟩, q _ _ en .refl (it_tup (fun H2 _ => hq H2) (hr H _))⟩
theorem i_globS {x : Str} {g : Nat} {z : Str} (hg : Gl X x) (hm : ∃ t, X.mg x = some (.str z t)) (he : gl[g]? = some (.str z)) (hd : (x == ("__debug__" : Str)) = false := by decide) : PIv X Φ gl tg (.Name x p) (.glob g) := by
  obtain ⟨t, hm⟩ := hm
  exact (pi_str (pe_glob hg hm (v := .str z) ⟨t, rfl⟩ hd)).imp fun σ H R ⟨F, ρ, d, ρ', en, sa, sm, h, q⟩ => by
    simp only [evi, he] at h
    obtain ⟨_, e, h⟩ := bind_some h
    cases e
    obtain ⟨_, e, h⟩ := bind_some h
    cases e
    cases h
    exact ⟨z, rfl, q _ _ en .refl it_str⟩
theorem e_globS {x : Str} {g : Nat} {z : Str} (hg : Gl X x) (hm : ∃ t, X.mg x = some (.str z t)) (he : gl[g]? = some (.str z)) (hd : (x == ("__debug__" : Str)) = false := by decide) : PEv X Φ gl (.Name x pos) (.glob g) := by
  obtain ⟨t, hm⟩ := hm
  exact e_glob hg hm he hd
/-- {} -/
theorem e_dic0 : PEv X Φ gl (.Dict [] [] pos) (.dic .nil) :=
  pe_dnewK.imp fun σ H Q ⟨F, ρ, d, fl, ρ', en, sa, sm, h, q⟩ => by
    have h : some (PyData.dict [], Fl.fr, ρ) = some (d, fl, ρ') := by simpa [ev, evs, pairUp, dictOf] using h
    cases h
    exact (fin en .refl q).dk .nil
theorem blk_of {N N' : List Str} {sc sc' scope : Scope} {own : List (Str × Nat)} (hN : N' = N) (hs : sc' = sc) (h : blkC N sc scope own = true) : BlkOk N' sc' scope own := by
  subst hN hs
  exact blkOk_by h
theorem sw_loc {elt : Expr} {gs : List Comprehension} {scope sc : Scope} {pos py : Pos} {y : Str} {l : Nat} {env : Env} (hs : env.scope = sc) (hk : (sc.kind == .function) = true) (hy : decide (sc.names.lookup y = some .local) = true) (hl : (py.line == pos.line) = true)
    (ha : (scope.names.any fun (n, k) => n == y && (k == .local || k == .cell)) = false) : swapsWith (.ListComp elt gs scope pos) (some (.Name y py)) l env = pure true := by
  subst hs
  exact sw_true (by
    cases h : env.scope.kind <;> rw [h] at hk <;> first | rfl | cases hk) (of_decide_eq_true hy) hl ha
theorem sw_cell {elt : Expr} {gs : List Comprehension} {scope sc : Scope} {pos py : Pos} {y : Str} {l : Nat} {env : Env} (hs : env.scope = sc) (hy : decide (sc.names.lookup y = some .cell) = true) : swapsWith (.ListComp elt gs scope pos) (some (.Name y py)) l env = pure false := by
  subst hs
  have hy := of_decide_eq_true hy
  have ky : env.kindOf y = some .cell := hy
  unfold swapsWith
  simp only [ky]
  cases (env.blockKind == ScopeKind.function) <;> rfl
end
/-! ### a comprehension's block, its scope looked up -/
theorem rel_free {sc : Scope} : ∀ {names : List (Str × NameKind)} {x : Str}, names.lookup x = some .free →
    (names.map fun (n, k) => if (k == NameKind.free && sc.kind == .function && sc.names.lookup n == some .cell) then (n, NameKind.cell) else (n, k)).lookup x = some .free ∨
    (names.map fun (n, k) => if (k == NameKind.free && sc.kind == .function && sc.names.lookup n == some .cell) then (n, NameKind.cell) else (n, k)).lookup x = some .cell
  | [], _, h => by simp at h
  | (n, k₀) :: r, x, h => by
    have ih := @rel_free sc r x
    show List.lookup x ((if (k₀ == NameKind.free && sc.kind == .function && sc.names.lookup n == some .cell) = true then (n, NameKind.cell) else (n, k₀)) :: (r.map _)) = _ ∨ List.lookup x ((if (k₀ == NameKind.free && sc.kind == .function && sc.names.lookup n == some .cell) = true then (n, NameKind.cell) else (n, k₀)) :: (r.map _)) = _
    cases hx : x == n with
    | true =>
      simp only [List.lookup_cons, hx] at h
      cases h
      split
      · simp only [List.lookup_cons, hx]; exact .inr trivial
      · simp only [List.lookup_cons, hx]; exact .inl trivial
    | false =>
      simp only [List.lookup_cons, hx] at h
      split
      · simp only [List.lookup_cons, hx]; exact ih h
      · simp only [List.lookup_cons, hx]; exact ih h
theorem lookC {scope : Scope} {cl : List (Str × Addr)} {C : Addr} {env : Env} {x : Str} {k : NameKind} (hk : k ≠ .free) (h : scope.names.lookup x = some k) : (compEnvC scope cl C env).scope.names.lookup x = some k := lookup_relS_keep (sc := env.scope) hk h
theorem lookF {scope : Scope} {cl : List (Str × Addr)} {C : Addr} {env : Env} {x : Str} (h : scope.names.lookup x = some .free) : (compEnvC scope cl C env).scope.names.lookup x = some .free ∨ (compEnvC scope cl C env).scope.names.lookup x = some .cell := rel_free (sc := env.scope) h
theorem visC {scope : Scope} {cl : List (Str × Addr)} {C : Addr} {env : Env} {x : Str} (h : visB scope x = true) : Vis (compEnvC scope cl C env).scope x := by
  rcases vis_of (sc' := scope) rfl h with h | h | h
  · exact .inl (lookC (fun z => nomatch z) h)
  · exact .inr (.inl (lookC (fun z => nomatch z) h))
  · rcases lookF (cl := cl) (C := C) (env := env) h with h | h
    · exact .inr (.inr h)
    · exact .inr (.inl h)
theorem locC {scope : Scope} {cl : List (Str × Addr)} {C : Addr} {env : Env} {x : Str} (h : locB scope x = true) : Loc (compEnvC scope cl C env).scope x := by
  rcases loc_of (sc' := scope) rfl h with h | h
  · exact .inl (lookC (fun z => nomatch z) h)
  · exact .inr (lookC (fun z => nomatch z) h)
theorem glC {X : Cx} {s : Shared} {H : Hp} {sc scope : Scope} {cl : List (Str × Addr)} {C : Addr} {env : Env} {fp : List Addr} {x : Str} (h : decide (scope.names.lookup x = some .globalImplicit) = true) : Gl (X.blk s H sc (compEnvC scope cl C env) fp) x := lookC (fun z => nomatch z) (of_decide_eq_true h)
/-- a block's own name is stored -/
theorem hfC {X : Cx} {s : Shared} {H : Hp} {scope : Scope} {cl : List (Str × Addr)} {C : Addr} {env : Env} {fp : List Addr} {x : Str} (h : locB scope x = true) : (X.blk s H scope (compEnvC scope cl C env) fp).fn x = true ∨ (X.blk s H scope (compEnvC scope cl C env) fp).env.scope.names.lookup x = some .local := by
  rcases loc_of (sc' := scope) rfl h with h | h
  · exact .inr (lookC (fun z => nomatch z) h)
  · refine .inl ?_
    show (scope.names.lookup x == some .cell) = true
    rw [h]; rfl
theorem blkIn {N N' : List Str} {scope1 scope : Scope} {cl : List (Str × Addr)} {C : Addr} {env : Env} {own : List (Str × Nat)} (hN : N' = N) (h : blkC N scope1 scope own = true) : BlkOk N' (compEnvC scope1 cl C env).scope scope own := by
  subst hN
  obtain ⟨a, b, c, d, e⟩ := blkOk_by h
  refine ⟨a, b, c, fun y hy z => ?_, e⟩
  rcases d y hy z with h | h
  · exact .inl (lookC (fun z => nomatch z) h)
  · exact (lookF h).symm
theorem crDict {X : Cx} (hc : X.calm = true) : CallR X (.type "dict") (rA X.K (biV .dict)) := by
  intro pins s σ H xs us Q I r ⟨P, ds, d, fl, hr, e, w⟩
  refine tyDict hc pins s σ H xs us Q I r ⟨P, ds, d, fl, hr, ?_, w⟩
  have e : v_dict ds = some (d, fl) := e
  unfold v_dict at e
  split at e
  · exact e
  · exact e
  · cases e
end PP

/-! PP16: the laws' _law_draws: what it gives are numbers below 997, as many as asked for. -/
namespace PP
open PySem PySem.Spec PyProof.Rows L2 RZ
/-! slots: script 0 many 1 draws 2 mixed 3 k 4 cell 5 rest 6 turn 7 -/
section
variable (K : PySem.W.Frag)
abbrev dAdd : R2 := rI0 fun i j => .int (i + j)
abbrev dMul : R2 := rI CMul fun i j => .int (i * j)
abbrev dMod : R2 := rI (fun _ j => 0 < j) fun i j => .int (i % j)
abbrev dDiv : R2 := rI CDiv fun i j => .int (i / j)
abbrev dPow : R2 := rI CPow fun i j => .int (i ^ j.toNat)
abbrev dGe : R2 := rI0 fun i j => .bl (decide (j ≤ i))
abbrev dGt : R2 := rI0 fun i j => .bl (decide (j < i))
abbrev dInt : List V → Hp → VK → Prop := fun xs H Q => (∃ i, xs = [.int i] ∧ Q (.int i) H) ∨ ∃ k, xs = [.bl k] ∧ Q (.int (if k then 1 else 0)) H
abbrev dAbs : List V → Hp → VK → Prop := fun xs H Q => ∃ i, xs = [.int i] ∧ Q (.int (if i < 0 then -i else i)) H
abbrev dLen : List V → Hp → VK → Prop := fun xs H Q => ∃ x n, xs = [x] ∧ LenV K x H n ∧ Q (.int n) H
/-- int(e) -/
abbrev tInt (t : TE) : TE := tCB dInt (tCons t tNil)
abbrev tI' (i : Int) : TE := tC (.int i)
/-- draws.append(e) -/
abbrev tApp (t : TE) : TS := tDrop (tBM K "list" rAppend (tVar 2) (tCons t tNil))
/-- int(i) % 997 -/
abbrev tDr (i : Nat) : TE := tOp dMod (tInt (tVar i)) (tI' 997)
def t_turn : TS := tIfS (tTest (tOp dGt (tVar 6) (tI' 0))) (tSeq (tApp K (tDr 6)) (tSeq (tAsg (tOp dDiv (tVar 6) (tI' 997)) (gName 6)) tNext)) tNext
def t_cellB : TS := tSeq (tAsg (tCB dAbs (tCons (tInt (tOp (rIx K) (tVar 0) (tVar 4))) tNil)) (gName 5))
  (tSeq (tAsg (tOp dMod (tInt (tOp dAdd (tOp dAdd (tOp dMul (tVar 3) (tI' 48271)) (tOp dMod (tVar 5) (tI' 1000003))) (tVar 4))) (tI' 65537)) (gName 3))
  (tSeq (tAsg (tI' 0) (gName 6))
  (tSeq (tIfS (tTest (tOp dGe (tVar 5) (tOp dPow (tI' 10) (tI' 18)))) (tSeq (tAsg (tVar 5) (gName 6)) tNext)
    (tSeq (tApp K (tDr 5)) (tSeq (tApp K (tOp dMod (tOp dMod (tInt (tOp dAdd (tOp dMul (tVar 3) (tI' 69621)) (tI' 5))) (tI' 65521)) (tI' 997))) tNext)))
  (tSeq (tFor (iRng1 (tCons (tI' 60) tNil)) (gName 7) (tSeq (t_turn K) tNext)) tNext))))
def t_more : TS := tSeq (tAsg (tOp dMod (tInt (tOp dAdd (tOp dAdd (tOp dMul (tVar 3) (tI' 16807)) (tVar 4)) (tI' 1))) (tI' 65537)) (gName 3)) (tSeq (tApp K (tDr 3)) tNext)
def t_draws : TS := tSeq (tAsg (tLst tNil) (gName 2)) (tSeq (tAsg (tI' 7) (gName 3))
  (tSeq (tFor (iRng1 (tCons (tCB (dLen K) (tCons (tVar 0) tNil)) tNil)) (gName 4) (t_cellB K))
  (tSeq (tFor (iRng1 (tCons (tVar 1) tNil)) (gName 4) (t_more K))
  (tSeq (tRet (tSl (rSlL K) (tVar 2) tNoPart (tPart (tVar 1)))) tNext))))
end
/-- the promise: a new list of that many numbers below 997 -/
def spDr (K : PySem.W.Frag) : Sp := fun vs H Q _ => ∃ (a : Addr) (ns : List Int) (many : Nat), vs = [.ref a, .int (many : Nat)] ∧ SqL K H a (ns.map V.int) ∧ ns.length ≤ 63 ∧ many ≤ 1000 ∧
  ∀ (p : Addr) (ms : List Int) (H' : Hp), (∀ b o, H b = some o → H' b = some o) → H p = none → H' p = some (.lst (ms.map V.int)) → ms.length = many → (∀ m, m ∈ ms → 0 ≤ m ∧ m < 997) → Q (.ref p) H'
/-- what stands through the loops -/
structure DSt (K : PySem.W.Frag) (a p : Addr) (many : Nat) (H0 : Hp) (bound lo : Nat) (σ : L2.St) (H : Hp) : Prop where
  s0 : σ[0]? = some (some (.ref a))
  s1 : σ[1]? = some (some (.int (many : Nat)))
  s2 : σ[2]? = some (some (.ref p))
  mx : ∃ m : Int, σ[3]? = some (some (.int m)) ∧ 0 ≤ m ∧ m < 65537
  ls : ∃ ms : List Int, H p = some (.lst (ms.map V.int)) ∧ ms.length ≤ bound ∧ lo ≤ ms.length ∧ ∀ m, m ∈ ms → 0 ≤ m ∧ m < 997
  old : ∀ b o, H0 b = some o → H b = some o
  new : H0 p = none
  len : σ.length = 8
section
variable {K : PySem.W.Frag} {a p : Addr} {many bound lo : Nat} {H0 H : Hp} {σ : L2.St}
theorem DSt.set (d : DSt K a p many H0 bound lo σ H) {i : Nat} {v : V} (hi : 4 ≤ i) : DSt K a p many H0 bound lo (σ.set i (some v)) H := by
  have off : ∀ j, j < 4 → (σ.set i (some v))[j]? = σ[j]? := fun j hj => List.getElem?_set_ne (by omega)
  exact ⟨by rw [off 0 (by decide)]; exact d.s0, by rw [off 1 (by decide)]; exact d.s1, by rw [off 2 (by decide)]; exact d.s2, by rw [off 3 (by decide)]; exact d.mx, d.ls, d.old, d.new, by rw [List.length_set]; exact d.len⟩
theorem DSt.mix (d : DSt K a p many H0 bound lo σ H) {m : Int} (h0 : 0 ≤ m) (h1 : m < 65537) : DSt K a p many H0 bound lo (σ.set 3 (some (.int m))) H := by
  have off : ∀ j, j ≠ 3 → (σ.set 3 (some (V.int m)))[j]? = σ[j]? := fun j hj => List.getElem?_set_ne fun z => hj z.symm
  exact ⟨by rw [off 0 (by decide)]; exact d.s0, by rw [off 1 (by decide)]; exact d.s1, by rw [off 2 (by decide)]; exact d.s2, ⟨m, List.getElem?_set_self (by rw [d.len]; decide), h0, h1⟩, d.ls, d.old, d.new, by rw [List.length_set]; exact d.len⟩
theorem DSt.at (d : DSt K a p many H0 bound lo σ H) {i : Nat} {v : V} (hi : i < 8) : (σ.set i (some v))[i]? = some (some v) := List.getElem?_set_self (by rw [d.len]; exact hi)
theorem DSt.weak (d : DSt K a p many H0 bound lo σ H) {bound' lo' : Nat} (h : bound ≤ bound') (h' : lo' ≤ lo) : DSt K a p many H0 bound' lo' σ H :=
  ⟨d.s0, d.s1, d.s2, d.mx, let ⟨ms, h1, h2, h3, h4⟩ := d.ls; ⟨ms, h1, Nat.le_trans h2 h, Nat.le_trans h' h3, h4⟩, d.old, d.new, d.len⟩
theorem sq_old {xs : List V} (k : ∀ b o, H0 b = some o → H b = some o) (h : SqL K H0 a xs) : SqL K H a xs := by
  rcases h with (h | ⟨o, h⟩) | h
  · exact .inl (.inl (k _ _ h))
  · exact .inl (.inr ⟨o, k _ _ h⟩)
  · exact .inr h
theorem app_ok {t : TE} {v : Int} (ht : ∀ Q : VK, Q (.int v) H → t σ H Q) (hv : 0 ≤ v ∧ v < 997) (d : DSt K a p many H0 bound lo σ H) (hb : bound < 100000) {D : Ends} (q : ∀ H', DSt K a p many H0 (bound + 1) (lo + 1) σ H' → D.nx σ H') : tApp K t D σ H := by
  obtain ⟨ms, h1, h2, h3, h4⟩ := d.ls
  refine ⟨_, d.s2, .inl ⟨rfl, _, .inl (.inl h1)⟩, ht _ ?_⟩
  refine ⟨p, _, _, rfl, rfl, h1, by rw [List.length_map, sizeLine_eq]; omega, q _ ?_⟩
  refine ⟨d.s0, d.s1, d.s2, d.mx, ⟨ms ++ [v], by rw [upd_same, List.map_append]; rfl, by rw [List.length_append]; simp; omega, by rw [List.length_append]; simp; omega, fun m hm => ?_⟩, fun b o e => ?_, d.new, d.len⟩
  · rcases List.mem_append.mp hm with z | z
    · exact h4 m z
    · have : m = v := by simpa using z
      subst this; exact hv
  · rw [upd_ne (ne_of_none e d.new)]
    exact d.old b o e
theorem var_ok {i : Nat} {v : V} (h : σ[i]? = some (some v)) {Q : VK} (q : Q v H) : tVar i σ H Q := ⟨v, h, q⟩
theorem int_ok {t : TE} {v : Int} (ht : ∀ Q : VK, Q (.int v) H → t σ H Q) {Q : VK} (q : Q (.int v) H) : tInt t σ H Q := ht _ (.inl ⟨v, rfl, q⟩)
theorem add_ok {t u : TE} {v w : Int} (ht : ∀ Q : VK, Q (.int v) H → t σ H Q) (hu : ∀ Q : VK, Q (.int w) H → u σ H Q) {Q : VK} (q : Q (.int (v + w)) H) : tOp dAdd t u σ H Q := ht _ (hu _ ⟨v, w, rfl, rfl, q⟩)
theorem mul_ok {t u : TE} {v w : Int} (ht : ∀ Q : VK, Q (.int v) H → t σ H Q) (hu : ∀ Q : VK, Q (.int w) H → u σ H Q) (h1 : 0 ≤ v) (h2 : v < 65537) {Q : VK} (q : Q (.int (v * w)) H) : tOp dMul t u σ H Q := ht _ (hu _ ⟨v, w, rfl, rfl, .inl ⟨by omega, by omega⟩, q⟩)
theorem mod_ok {t u : TE} {v w : Int} (ht : ∀ Q : VK, Q (.int v) H → t σ H Q) (hu : ∀ Q : VK, Q (.int w) H → u σ H Q) (h1 : 0 < w) {Q : VK} (q : Q (.int (v % w)) H) : tOp dMod t u σ H Q := ht _ (hu _ ⟨v, w, rfl, rfl, h1, q⟩)
theorem dr_ok {i : Nat} {v : Int} (h : σ[i]? = some (some (.int v))) {Q : VK} (q : Q (.int (v % 997)) H) : tDr i σ H Q :=
  mod_ok (fun Q q => int_ok (fun Q q => var_ok h q) q) (fun Q q => q) (by decide) q
theorem mod_rng (v : Int) {w : Int} (h : 0 < w) : 0 ≤ v % w ∧ v % w < w := ⟨Int.emod_nonneg _ (by omega), Int.emod_lt_of_pos _ h⟩
theorem asg_int {u : TS} {D : Ends} {i : Nat} {v : Int} (h : u D (σ.set i (some (.int v))) H) : tSeq (tAsg (tI' v) (gName i)) u D σ H := h
/-- the turns over a great cell -/
theorem turn_ok {D : Ends} {r : Int} (hr : σ[6]? = some (some (.int r))) (h0 : 0 ≤ r) (d : DSt K a p many H0 bound lo σ H) (hb : bound < 100000)
    (q : ∀ σ' H' r', σ'[6]? = some (some (.int r')) → 0 ≤ r' → DSt K a p many H0 (bound + 1) lo σ' H' → D.nx σ' H') : t_turn K D σ H := by
  refine ⟨_, hr, r, 0, rfl, rfl, _, rfl, ?_⟩
  show (if decide ((0 : Int) < r) = true then _ else _)
  by_cases hp : (0 : Int) < r
  · rw [if_pos (decide_eq_true hp)]
    refine app_ok (fun Q q => dr_ok hr q) (mod_rng r (by decide)) d hb fun H1 d1 => ?_
    refine ⟨_, hr, r, 997, rfl, rfl, ⟨by decide, by decide⟩, ?_⟩
    exact q _ _ (r / 997) (d1.at (by decide)) (Int.ediv_nonneg h0 (by decide)) ((d1.set (by decide)).weak (Nat.le_refl _) (Nat.le_succ _))
  · rw [if_neg (by simp; omega)]
    exact q _ _ r hr h0 (d.weak (Nat.le_succ _) (Nat.le_refl _))
theorem cell_ok {D : Ends} {ns : List Int} {i : Nat} (hq : SqL K H0 a (ns.map V.int)) (hi : i < ns.length) (hk : σ[4]? = some (some (.int (i : Nat)))) (d : DSt K a p many H0 bound lo σ H) (hb : bound < 90000)
    (q : ∀ σ' H', DSt K a p many H0 (bound + 62) lo σ' H' → D.nx σ' H') : t_cellB K D σ H := by
  have sq := sq_old d.old hq
  obtain ⟨m, hm, m0, m1⟩ := d.mx
  -- cell
  refine ⟨_, d.s0, _, hk, .inl ⟨a, _, _, V.int (cellOf ns i), rfl, rfl, sq, atI_cell hi, .inl ⟨_, rfl, _, rfl, ?_⟩⟩⟩
  generalize hc : (if cellOf ns i < 0 then -cellOf ns i else cellOf ns i) = c
  have c0 : 0 ≤ c := by subst hc; split <;> omega
  have d1 := d.set (i := 5) (v := .int c) (by decide)
  have k1 : (σ.set 5 (some (V.int c)))[4]? = some (some (.int (i : Nat))) := by rw [List.getElem?_set_ne (by decide)]; exact hk
  have e1 : (σ.set 5 (some (V.int c)))[5]? = some (some (.int c)) := d.at (by decide)
  have m2 : (σ.set 5 (some (V.int c)))[3]? = some (some (.int m)) := by rw [List.getElem?_set_ne (by decide)]; exact hm
  show tSeq _ _ D (σ.set 5 (some (V.int c))) H
  generalize σ.set 5 (some (V.int c)) = σ1 at d1 k1 e1 m2 ⊢
  -- mixed
  refine mod_ok (fun Q q => int_ok (fun Q q => add_ok (fun Q q => add_ok (fun Q q => mul_ok (fun Q q => var_ok m2 q) (fun Q q => q) m0 m1 q) (fun Q q => mod_ok (fun Q q => var_ok e1 q) (fun Q q => q) (by decide) q) q) (fun Q q => var_ok k1 q) q) q) (fun Q q => q) (by decide) ?_
  obtain ⟨x0, x1⟩ := mod_rng (m * 48271 + c % 1000003 + (i : Nat)) (w := 65537) (by decide)
  generalize (m * 48271 + c % 1000003 + ((i : Nat) : Int)) % 65537 = m' at x0 x1 ⊢
  have d2 := d1.mix x0 x1
  have e2 : (σ1.set 3 (some (V.int m')))[5]? = some (some (.int c)) := by rw [List.getElem?_set_ne (by decide)]; exact e1
  show tSeq _ _ D (σ1.set 3 (some (V.int m'))) H
  generalize σ1.set 3 (some (V.int m')) = σ2 at d2 e2 ⊢
  -- rest
  refine asg_int ?_
  have d3 := d2.set (i := 6) (v := .int 0) (by decide)
  have e3 : (σ2.set 6 (some (V.int 0)))[5]? = some (some (.int c)) := by rw [List.getElem?_set_ne (by decide)]; exact e2
  have r3 : (σ2.set 6 (some (V.int 0)))[6]? = some (some (.int 0)) := d2.at (by decide)
  generalize σ2.set 6 (some (V.int 0)) = σ3 at d3 e3 r3 ⊢
  -- the walk over the turns
  have turns : ∀ (σ4 : L2.St) (H4 : Hp) (r : Int), σ4[6]? = some (some (.int r)) → 0 ≤ r → DSt K a p many H0 (bound + 2) lo σ4 H4 → tSeq (tFor (iRng1 (tCons (tI' 60) tNil)) (gName 7) (tSeq (t_turn K) tNext)) tNext D σ4 H4 := by
    intro σ4 H4 r hr h0 d4
    refine ⟨60, rfl, by decide, by decide, for_range (fun j σ H => ∃ r, σ[6]? = some (some (V.int r)) ∧ 0 ≤ r ∧ DSt K a p many H0 (bound + 2 + j) lo σ H) ⟨r, hr, h0, d4⟩ (fun j σ5 H5 hj ⟨r5, hr5, h5, d5⟩ => ?_) fun σ5 H5 ⟨r5, _, _, d5⟩ => q _ _ d5⟩
    have d6 := d5.set (i := 7) (v := .int (0 + (j : Nat))) (by decide)
    refine turn_ok (D := { D with nx := _, ct := _, bk := _ }) (by rw [List.getElem?_set_ne (by decide)]; exact hr5) h5 d6 (by
      have : j < 60 := hj
      omega) fun σ' H' r' a1 a2 a3 => ⟨r', a1, a2, a3⟩
  refine ⟨_, e3, 10, 18, rfl, rfl, ⟨by decide, by decide, by decide⟩, c, _, rfl, rfl, _, rfl, ?_⟩
  show (if decide ((10 : Int) ^ (18 : Int).toNat ≤ c) = true then _ else _)
  by_cases hg : (10 : Int) ^ (18 : Int).toNat ≤ c
  · rw [if_pos (decide_eq_true hg)]
    refine ⟨_, e3, ?_⟩
    exact turns _ _ c (d3.at (by decide)) c0 ((d3.set (by decide)).weak (by omega) (Nat.le_refl _))
  · rw [if_neg (by rw [decide_eq_true_eq]; exact hg)]
    refine app_ok (fun Q q => dr_ok e3 q) (mod_rng c (by decide)) d3 (by omega) fun H5 d5 => ?_
    obtain ⟨m5, hm5, y0, y1⟩ := d5.mx
    refine app_ok (fun Q q => mod_ok (fun Q q => mod_ok (fun Q q => int_ok (fun Q q => add_ok (fun Q q => mul_ok (fun Q q => var_ok hm5 q) (fun Q q => q) y0 y1 q) (fun Q q => q) q) q) (fun Q q => q) (by decide) q) (fun Q q => q) (by decide) q) (mod_rng _ (by decide)) d5 (by omega) fun H6 d6 => ?_
    exact turns _ _ 0 r3 (by decide) (d6.weak (Nat.le_refl _) (by omega))
theorem more_ok {D : Ends} {i : Nat} (hk : σ[4]? = some (some (.int (i : Nat)))) (d : DSt K a p many H0 bound lo σ H) (hb : bound < 90000)
    (q : ∀ σ' H', DSt K a p many H0 (bound + 1) (lo + 1) σ' H' → D.nx σ' H') : t_more K D σ H := by
  obtain ⟨m, hm, m0, m1⟩ := d.mx
  refine mod_ok (fun Q q => int_ok (fun Q q => add_ok (fun Q q => add_ok (fun Q q => mul_ok (fun Q q => var_ok hm q) (fun Q q => q) m0 m1 q) (fun Q q => var_ok hk q) q) (fun Q q => q) q) q) (fun Q q => q) (by decide) ?_
  obtain ⟨x0, x1⟩ := mod_rng (m * 16807 + (i : Nat) + 1) (w := 65537) (by decide)
  have d2 := d.mix x0 x1
  exact app_ok (fun Q q => dr_ok (d.at (by decide)) q) (mod_rng _ (by decide)) d2 (by omega) fun H' d' => q _ _ d'
theorem draws_run {N : List Str} (hN : N.length = 8) {vs : List V} {Q : VK} {E : XK} (h : spDr K vs H Q E) : t_draws K { nx := fun _ H' => Q .non H', rt := Q } (L2.start N vs) H := by
  obtain ⟨a, ns, many, rfl, hq, hl, hm, q⟩ := h
  have hs : L2.start N [V.ref a, .int (many : Nat)] = [some (.ref a), some (.int (many : Nat)), none, none, none, none, none, none] := by
    unfold L2.start
    rw [hN]; rfl
  rw [hs]
  refine ⟨Nat.zero_le _, fun p hp => ?_⟩
  have d0 : DSt K a p many H 0 0 [some (.ref a), some (.int (many : Nat)), some (.ref p), some (.int 7), none, none, none, none] (upd H p (.lst [])) :=
    ⟨rfl, rfl, rfl, ⟨7, rfl, by decide, by decide⟩, ⟨[], upd_same, Nat.le_refl _, Nat.le_refl _, fun m hm => by simp at hm⟩, fun b o e => by rw [upd_ne (ne_of_none e hp)]; exact e, hp, rfl⟩
  show tSeq (tAsg (tI' 7) (gName 3)) _ _ [some (.ref a), some (.int (many : Nat)), some (.ref p), none, none, none, none, none] (upd H p (.lst []))
  refine asg_int ?_
  show tSeq _ _ _ [some (.ref a), some (.int (many : Nat)), some (.ref p), some (.int 7), none, none, none, none] (upd H p (.lst []))
  refine ⟨_, rfl, V.ref a, _, rfl, .inl ⟨_, sq_old d0.old hq, rfl⟩, _, rfl, by omega, by rw [List.length_map]; omega, ?_⟩
  rw [Int.toNat_natCast, List.length_map]
  refine for_range (fun i σ H' => DSt K a p many H (i * 62) 0 σ H') (by simpa using d0) (fun i σ H' hi d => ?_) fun σ H' d => ?_
  · have d1 := d.set (i := 4) (v := .int (0 + (i : Nat))) (by decide)
    refine cell_ok (D := { nx := _, rt := _, bk := _, ct := _ }) hq hi (by rw [d.at (by decide), Int.zero_add]) d1 (by omega) fun σ' H' d' => by
      have : (i + 1) * 62 = i * 62 + 62 := by omega
      show DSt K a p many H ((i + 1) * 62) 0 σ' H'
      rw [this]; exact d'
  · refine ⟨_, d.s1, many, rfl, by omega, by omega, ?_⟩
    rw [Int.toNat_natCast]
    refine for_range (fun i σ H' => DSt K a p many H (ns.length * 62 + i) i σ H') (by simpa using d) (fun i σ H' hi d => ?_) fun σ H' d => ?_
    · have d1 := d.set (i := 4) (v := .int (0 + (i : Nat))) (by decide)
      exact more_ok (D := { nx := _, rt := _, bk := _, ct := _ }) (by rw [d.at (by decide), Int.zero_add]) d1 (by omega) fun σ' H' d' => d'
    · obtain ⟨ms, h1, h2, h3, h4⟩ := d.ls
      refine ⟨_, d.s2, _, d.s1, _, rfl, p, _, rfl, .inl (.inl h1), fun p' hp' => ?_⟩
      have ec : cutV (ms.map V.int) none (some ((many : Nat) : Int)) = (ms.take many).map V.int := by
        unfold cutV
        have e1 : HT.sIx (ms.map V.int).length 0 none = 0 := rfl
        have e2 : HT.sIx (ms.map V.int).length (ms.map V.int).length (some ((many : Nat) : Int)) = many := by
          rw [HT.sIx_nat, List.length_map]
          omega
        rw [e1, e2, List.drop_zero, Nat.sub_zero, List.map_take]
      rw [ec]
      have hp0 : H p' = none := by
        cases e : H p' with
        | none => rfl
        | some o => rw [d.old p' o e] at hp'; cases hp'
      exact q p' (ms.take many) _ (fun b o e => by rw [upd_ne (ne_of_none e hp0)]; exact d.old b o e) hp0 upd_same (by rw [List.length_take]; omega) fun m hm => h4 m (List.mem_of_mem_take hm)
end
end PP

/-! PP17: a law's def, from its first statement on. -/
namespace PP
open PySem PySem.Spec PyProof.Rows L2 RZ
def spLaw (K : PySem.W.Frag) : Sp := fun vs H Q _ => ∃ (a : Addr) (ns : List Int), vs = [.ref a] ∧ SqL K H a (ns.map V.int) ∧ ns.length ≤ 63 ∧ ∀ H', Q (.bl true) H'
section
variable {K : PySem.W.Frag}
/-- {'draws': _law_draws(script, many), 'at': 0, ..} -/
def tW (K : PySem.W.Frag) (many : Nat) (kd : Str) (cs : List (Str × Int)) : List (TE × TE) := (tC (.str kd), tCall (spDr K) [] L2.E0 (tCons (tVar 0) (tCons (tC (.int (many : Nat))) tNil))) :: cs.map fun c => (tC (.str c.1), tC (.int c.2))
theorem pairs_cs {σ : L2.St} {H : Hp} {Q : List (V × V) → Hp → Prop} : ∀ (cs : List (Str × Int)), Q (cs.map fun c => (V.str c.1, V.int c.2)) H → tPairs (cs.map fun c => (tC (.str c.1), tC (.int c.2))) σ H Q
  | [], q => q
  | c :: cs, q => pairs_cs (Q := fun ps H3 => Q ((V.str c.1, V.int c.2) :: ps) H3) cs q
theorem rp_ints_all {H : Hp} {P : Addr → Prop} : ∀ ms : List Int, RpAll K H P (ms.map V.int) (ms.map PyData.int)
  | [] => .nil
  | m :: ms => .cons (.int m) (rp_ints_all ms)
theorem rp_cs {H : Hp} {P : Addr → Prop} : ∀ cs : List (Str × Int), RpAll K H P (cs.map fun c => V.int c.2) (cs.map fun c => PyData.int c.2)
  | [] => .nil
  | c :: cs => .cons (.int _) (rp_cs cs)
theorem zip_cs : ∀ cs : List (Str × Int), ((cs.map fun c => (Sum.inr c.1 : L2.Key)).zip (cs.map fun c => V.int c.2)) = cs.map fun c => (Sum.inr c.1, V.int c.2)
  | [] => rfl
  | c :: cs => by rw [List.map_cons, List.map_cons, List.zip_cons_cons, zip_cs cs]; rfl
/-- the law's state at its start -/
def wD (ms : List Int) (kd : Str) (cs : List (Str × Int)) : List (PyData × PyData) := (.str kd, .list (ms.map .int)) :: cs.map fun c => (.str c.1, .int c.2)
def ρ0 (n : Nat) (w : List (PyData × PyData)) : PEnv := .no :: .ow (.dict w) :: List.replicate n .no
theorem law_body {X : Cx} {tbl : List Def} {gl : List PyData} {n m many : Nat} {kd : Str} {cs : List (Str × Int)} {bl : Ss} {s1 : Stmt} {rest : List Stmt} (hc : cs.length ≤ 10) (hm : many ≤ 1000) (hN : X.N.length = m + 2)
    (h1 : PS X s1 (tAsg (tDisp (tW X.K many kd cs)) (gName 1))) (h2 : PSsv X (phi tbl gl n) gl [] rest bl)
    (plain : ∀ ms : List Int, ms.length = many → (∀ z, z ∈ ms → 0 ≤ z ∧ z < 997) → ∃ w ρ', dictOf (wD ms kd cs) = some w ∧ runs (phi tbl gl n) gl [] bl (ρ0 m w) = some (.rt (.bool true) ρ')) :
    ∃ t, PSs X (s1 :: rest) t ∧ ∀ (vs : List V) (H : Hp) (Q : VK) (E : XK), spLaw X.K vs H Q E → t { nx := fun _ H' => Q .non H', rt := Q } (L2.start X.N vs) H := by
  refine ⟨_, pss_cons h1 h2, fun vs H Q E ⟨a, ns, e, hq, hl, q⟩ => ?_⟩
  subst e
  have hs : L2.start X.N [V.ref a] = some (V.ref a) :: none :: List.replicate m none := by
    unfold L2.start
    rw [hN]; rfl
  rw [hs]
  intro p hp
  refine ⟨_, rfl, a, ns, many, rfl, sq_old (fun b o e => by rw [upd_ne (ne_of_none e hp)]; exact e) hq, hl, hm, fun q' ms H2 k2 hq' h2' hlen hms => ?_⟩
  refine pairs_cs cs ⟨k2 p _ upd_same, (.inr kd, V.ref q') :: cs.map fun c => (Sum.inr c.1, V.int c.2), by
    rw [List.map_cons, List.map_map]; rfl, by rw [List.length_cons, List.length_map]; omega, ?_⟩
  obtain ⟨w, ρ', hw, hrun⟩ := plain ms hlen hms
  have pq : q' ≠ p := fun z => by
    have := k2 p _ upd_same
    rw [← z, h2'] at this; cases this
  have hH3q : ∀ u, upd H2 p u q' = some (.lst (ms.map V.int)) := fun u => by rw [upd_ne pq]; exact h2'
  refine ⟨⟨fun _ => False, fun b => b = p, upd H2 p (.dK (mergeK [] ((.inr kd, V.ref q') :: cs.map fun c => (Sum.inr c.1, V.int c.2)))), []⟩, ρ0 m w, _, rfl, ⟨fun b => b = p, [1], ?_⟩, hrun, fun v σ' H' P O s r => ?_⟩
  · refine ⟨⟨fun i hi => ?_, fun i j b hi hj _ _ => ?_, fun b z => z.elim, fun i z => by simp at z, fun i hi => ?_, fun i d e => ?_, fun i d e => ?_, fun b z => (show b = p from z) ▸ ⟨_, upd_same⟩, fun z => by simp at z, ?_⟩, fun b z => .inr (.inl z), .refl, fun _ z => by simp at z⟩
    · have : i = 1 := by simpa using hi
      subst this
      exact ⟨p, rfl, ⟨fun _ z => by simp at z, fun _ => rfl⟩, fun z => z⟩
    · have h1 : i = 1 := by simpa using hi
      have h2 : j = 1 := by simpa using hj
      rw [h1, h2]
    · have : i = 1 := by simpa using hi
      subst this
      exact ⟨_, rfl⟩
    · match i with
      | 0 => cases e
      | 1 =>
        cases e
        refine ⟨by simp, p, rfl, .dk upd_same ?_⟩
        have ek : (wD ms kd cs).map (·.1) = (Sum.inr kd :: cs.map fun c => (Sum.inr c.1 : L2.Key)).map keyPD := by
          unfold wD
          rw [List.map_cons, List.map_cons, List.map_map, List.map_map]; rfl
        have rv : RpAll X.K (upd H2 p (.dK (mergeK [] ((Sum.inr kd, V.ref q') :: cs.map fun c => (Sum.inr c.1, V.int c.2))))) (fun b => b = p) (V.ref q' :: cs.map fun c => V.int c.2) ((wD ms kd cs).map (·.2)) := by
          unfold wD
          rw [List.map_cons]
          refine .cons (.lst pq (hH3q _) (rp_ints_all ms)) ?_
          rw [List.map_map]
          exact rp_cs cs
        have := dictOf_rp ek rv .nil hw
        rw [List.zip_cons_cons] at this
        rw [zip_cs] at this
        exact this
      | i + 2 =>
        have e : (List.replicate m Sl.no)[i]? = some (Sl.ow d) := e
        obtain ⟨_, e⟩ := List.getElem?_eq_some_iff.mp e
        rw [List.getElem_replicate] at e
        cases e
    · match i with
      | 0 => cases e
      | 1 => cases e
      | i + 2 =>
        have e : (List.replicate m Sl.no)[i]? = some (Sl.fz d) := e
        obtain ⟨_, e⟩ := List.getElem?_eq_some_iff.mp e
        rw [List.getElem_replicate] at e
        cases e
    · show (Sl.no :: Sl.ow (.dict w) :: List.replicate m Sl.no).length = (some (V.ref a) :: some (V.ref p) :: List.replicate m none).length
      simp
  · cases r
    exact q _
end
end PP

/-! PP18: the Hook of the head, with the module's tuples. -/
namespace PP
open PySem PySem.Spec PyProof.Rows L2 He
def obsT (tl : List (Str × List Dv)) (fa : List Fa) (fn : List DefD) (K : PySem.W.Frag) : Bool × AlD := (tl.all fun t => tupB K t.1 t.2, obsD fa fn K)
def obsP (n : Nat) (tl : List (Str × List Dv)) (fa : List Fa) (fn : List DefD) (g : Addr → Option Obj) : Bool × AlD := obsT tl fa fn (frG g (asD g n))
def hookP (n : Nat) (tl : List (Str × List Dv)) (fa : List Fa) (fn : List DefD) : PySem.W.Hook where
  α := Bool × AlD
  obs := fun s => obsP n tl fa fn s.heap.get?
  val := fun _ => (true, valD fn)
  says := fun _ h => ∃ K : PySem.W.Frag, K.In h ∧ (tl.all fun t => tupB K t.1 t.2) = true ∧ SaysD fa fn K
  of := fun _ _ e => ⟨_, frG_in, congrArg Prod.fst e, congrArg Prod.snd e⟩
  keeps := fun _ _ _ ⟨K, hK, c⟩ k => ⟨K, PySem.W.Frag.In.keeps hK k, c⟩
theorem obsP_eq {n : Nat} {tl : List (Str × List Dv)} {fa : List Fa} {fn : List DefD} {g : Addr → Option Obj} {s : Shared} (h : ∀ a, g a = s.heap.get? a) : obsP n tl fa fn g = (hookP n tl fa fn).obs s := by
  have e : g = s.heap.get? := funext h
  rw [e] <;> rfl
end PP

/-! PP19: reckoning with the evaluator: calls, comprehensions, loops. -/
namespace PP
open PySem
/-- the end of a def's run -/
def endOf (ios : List Nat) : Out → Option (PyData × List PyData)
  | .rt d ρ => (outsOf ρ ios).map fun o => (d, o)
  | .nx ρ => (outsOf ρ ios).map fun o => (.none, o)
  | .bk _ => none
theorem phi_at {tbl : List Def} {gl : List PyData} {n f : Nat} {ds : List PyData} {D : Def} (hD : tbl[f]? = some D) (hl : ds.length = D.np) {o : Out} (h : runs (phi tbl gl n) gl D.ios D.body (envOf D ds) = some o) : phi tbl gl (n + 1) f ds = endOf D.ios o := by
  simp only [phi, hD, hl, if_true, h, Option.bind_eq_bind, Option.bind_some]
  cases o with
  | rt d ρ => cases h : outsOf ρ D.ios <;> simp [endOf, h]
  | nx ρ => cases h : outsOf ρ D.ios <;> simp [endOf, h]
  | bk ρ => rfl
theorem runs_nil {Φ : Nat → List PyData → Option (PyData × List PyData)} {gl : List PyData} {ios : List Nat} {ρ : PEnv} : runs Φ gl ios .nil ρ = some (.nx ρ) := by simp only [runs]
theorem runs_nx {Φ : Nat → List PyData → Option (PyData × List PyData)} {gl : List PyData} {ios : List Nat} {s : S} {ss : Ss} {ρ ρ1 : PEnv} {o : Option Out} (h : PP.run Φ gl ios s ρ = some (.nx ρ1)) (h2 : runs Φ gl ios ss ρ1 = o) : runs Φ gl ios (.cons s ss) ρ = o := by
  simp only [runs, h, Option.bind_eq_bind, Option.bind_some]
  exact h2
theorem runs_rt {Φ : Nat → List PyData → Option (PyData × List PyData)} {gl : List PyData} {ios : List Nat} {s : S} {ss : Ss} {ρ ρ1 : PEnv} {d : PyData} (h : PP.run Φ gl ios s ρ = some (.rt d ρ1)) : runs Φ gl ios (.cons s ss) ρ = some (.rt d ρ1) := by
  simp only [runs, h, Option.bind_eq_bind, Option.bind_some]
theorem runs_bk {Φ : Nat → List PyData → Option (PyData × List PyData)} {gl : List PyData} {ios : List Nat} {s : S} {ss : Ss} {ρ ρ1 : PEnv} (h : PP.run Φ gl ios s ρ = some (.bk ρ1)) : runs Φ gl ios (.cons s ss) ρ = some (.bk ρ1) := by
  simp only [runs, h, Option.bind_eq_bind, Option.bind_some]
section
variable {asgn : PyData → PEnv → Option PEnv} {tst elt : PEnv → Option (PyData × Fl × PEnv)} {vs : List Nat}
/-- a comprehension whose items are reckoned each for itself -/
theorem compL_eq {ρ : PEnv} (p : PyData → Bool) (f : PyData → PyData) : ∀ (ds acc : List PyData), (∀ d, d ∈ ds → ∃ ρ1 fl ρ2, asgn d ρ = some ρ1 ∧ tst ρ1 = some (.bool (p d), fl, ρ2) ∧ (p d = false → wipeP ρ2 vs = ρ) ∧ (p d = true → ∃ fl3 ρ3, elt ρ2 = some (f d, fl3, ρ3) ∧ wipeP ρ3 vs = ρ)) → acc.length + ds.length ≤ sizeLine →
    compL asgn tst elt vs ds acc ρ = some (acc ++ (ds.filter p).map f, ρ)
  | [], acc, _, _ => by simp [compL, compL2]
  | d :: ds, acc, h, hl => by
    obtain ⟨ρ1, fl, ρ2, h1, h2, h3, h4⟩ := h d (List.mem_cons_self ..)
    have ih := fun acc => compL_eq (ρ := ρ) p f ds acc fun d hd => h d (List.mem_cons_of_mem _ hd)
    unfold compL at ih ⊢
    simp only [compL2, h1, h2, Option.bind_eq_bind, Option.bind_some]
    cases hp : p d with
    | false =>
      simp only [h3 hp]
      rw [ih acc (by rw [List.length_cons] at hl; omega), List.filter_cons, hp]
      rfl
    | true =>
      obtain ⟨fl3, ρ3, h5, h6⟩ := h4 hp
      have : acc.length < sizeLine := by rw [List.length_cons] at hl; omega
      simp only [addV, h5, Option.bind_eq_bind, Option.bind_some, if_pos this, h6]
      rw [ih (acc ++ [f d]) (by rw [List.length_append]; rw [List.length_cons] at hl; simp; omega), List.filter_cons, hp, if_pos rfl, List.map_cons, List.append_assoc]
      rfl
end
section
variable {asgn : PyData → PEnv → Option PEnv} {body : PEnv → Option Out} {dead : List Nat}
/-- a walk that folds a state -/
theorem forL_fold {σ : Type} (E : σ → PEnv) (step : σ → PyData → σ) : ∀ (ds : List PyData) (s : σ) (ρ : PEnv), wipeP ρ dead = E s → (∀ s d, d ∈ ds → ∃ ρ1 ρ2, asgn d (E s) = some ρ1 ∧ body ρ1 = some (.nx ρ2) ∧ wipeP ρ2 dead = E (step s d)) → forL asgn body dead ds ρ = some (.nx (E (ds.foldl step s)))
  | [], s, ρ, h, _ => by simp [forL, h]
  | d :: ds, s, ρ, h, hs => by
    obtain ⟨ρ1, ρ2, h1, h2, h3⟩ := hs s d (List.mem_cons_self ..)
    simp only [forL, h, h1, h2, Option.bind_eq_bind, Option.bind_some]
    rw [forL_fold E step ds (step s d) ρ2 h3 fun s d hd => hs s d (List.mem_cons_of_mem _ hd)]
    rfl
/-- .. under a word that stays -/
theorem forL_inv (I : PEnv → Prop) : ∀ (ds : List PyData) (ρ : PEnv), I (wipeP ρ dead) → (∀ ρ d, d ∈ ds → I ρ → ∃ ρ1 ρ2, asgn d ρ = some ρ1 ∧ body ρ1 = some (.nx ρ2) ∧ I (wipeP ρ2 dead)) → ∃ ρ', forL asgn body dead ds ρ = some (.nx ρ') ∧ I ρ'
  | [], ρ, h, _ => ⟨_, by simp only [forL], h⟩
  | d :: ds, ρ, h, hs => by
    obtain ⟨ρ1, ρ2, h1, h2, h3⟩ := hs _ d (List.mem_cons_self ..) h
    obtain ⟨ρ', e, i⟩ := forL_inv I ds ρ2 h3 fun ρ d hd => hs ρ d (List.mem_cons_of_mem _ hd)
    refine ⟨ρ', ?_, i⟩
    simp only [forL, h1, h2, Option.bind_eq_bind, Option.bind_some]
    exact e
end
section
variable {tst : PEnv → Option (Bool × PEnv)} {body : PEnv → Option Out} {dead : List Nat}
def iter {α : Type} (f : α → α) : Nat → α → α
  | 0, s => s
  | n + 1, s => iter f n (f s)
/-- a loop with a state: k turns are enough -/
theorem whileL_iter {σ : Type} (E : σ → PEnv) (step : σ → σ) (p : σ → Bool) : ∀ (k m : Nat) (s : σ) (ρ : PEnv), wipeP ρ dead = E s → (∀ i, i < k → p (iter step i s) = true) → p (iter step k s) = false → k < m →
    (∀ s, ∃ ρ1, tst (E s) = some (p s, ρ1) ∧ (p s = false → ρ1 = E s) ∧ (p s = true → ∃ ρ2, body ρ1 = some (.nx ρ2) ∧ wipeP ρ2 dead = E (step s))) → whileL tst body dead m ρ = some (.nx (E (iter step k s)))
  | _, 0, _, _, _, _, _, hm, _ => absurd hm (Nat.not_lt_zero _)
  | 0, m + 1, s, ρ, h, _, hf, _, hs => by
    obtain ⟨ρ1, h1, h2, _⟩ := hs s
    have hf : p s = false := hf
    simp only [whileL, h, h1, Option.bind_eq_bind, Option.bind_some, hf, h2 hf]
    rfl
  | k + 1, m + 1, s, ρ, h, ht, hf, hm, hs => by
    obtain ⟨ρ1, h1, _, h3⟩ := hs s
    have hp : p s = true := ht 0 (Nat.succ_pos _)
    obtain ⟨ρ2, h4, h5⟩ := h3 hp
    simp only [whileL, h, h1, Option.bind_eq_bind, Option.bind_some, hp, h4]
    exact whileL_iter E step p k m (step s) ρ2 h5 (fun i hi => ht (i + 1) (Nat.succ_lt_succ hi)) hf (Nat.lt_of_succ_lt_succ hm) hs
end

/-- loops with their texts: simp does not look within -/
def compE (Φ : Nat → List PyData → Option (PyData × List PyData)) (gl : List PyData) (vs : List Nat) (g : G) (c e : E) (ds acc : List PyData) (ρ : PEnv) : Option (List PyData × PEnv) := compL (asgG g) (fun ρ => ev Φ gl c ρ) (fun ρ => ev Φ gl e ρ) vs ds acc ρ
def compE2 (Φ : Nat → List PyData → Option (PyData × List PyData)) (gl : List PyData) (vs vs1 : List Nat) (g : G) (c : E) (g1 : G) (it1 : I) (c1 e : E) (ds acc : List PyData) (ρ : PEnv) : Option (List PyData × PEnv) := compL2 (asgG g) (fun ρ => ev Φ gl c ρ) (fun acc ρ => (evi Φ gl it1 ρ).bind fun r3 => compE Φ gl vs1 g1 c1 e r3.1 acc (wipeP r3.2 vs1)) vs ds acc ρ
def forE (Φ : Nat → List PyData → Option (PyData × List PyData)) (gl : List PyData) (ios : List Nat) (g : G) (b : Ss) (dead : List Nat) (ds : List PyData) (ρ : PEnv) : Option Out := forL (asgG g) (fun ρ => runs Φ gl ios b ρ) dead ds ρ
def whileE (Φ : Nat → List PyData → Option (PyData × List PyData)) (gl : List PyData) (ios : List Nat) (c : E) (b : Ss) (dead : List Nat) (m : Nat) (ρ : PEnv) : Option Out := whileL (fun ρ => evT Φ gl c ρ) (fun ρ => runs Φ gl ios b ρ) dead m ρ
/-- no rfl lemma: else the kernel would hold one bind against the other, and reckon with what is bound -/
@[simp high] theorem bind_at {α β : Type} {a : α} {f : α → Option β} : (some a).bind f = f a := id rfl
/-! ### the evaluator's equations, for simp -/
section
variable {Φ : Nat → List PyData → Option (PyData × List PyData)} {gl : List PyData} {ios : List Nat} {ρ : PEnv}
@[simp] theorem ev_non  : ev Φ gl .non ρ = some (.none, .sh, ρ) := by first | exact id rfl | simp only [ev]
@[simp] theorem ev_bl {b} : ev Φ gl (.bl b) ρ = some (.bool b, .sh, ρ) := by first | exact id rfl | simp only [ev]
@[simp] theorem ev_int {i} : ev Φ gl (.int i) ρ = some (.int i, .sh, ρ) := by first | exact id rfl | simp only [ev]
@[simp] theorem ev_str {i} : ev Φ gl (.str i) ρ = some (.str i, .sh, ρ) := by first | exact id rfl | simp only [ev]
@[simp] theorem ev_var {i} : ev Φ gl (.var i) ρ = (getS ρ i).map fun d => (d, .sh, ρ) := by first | exact id rfl | simp only [ev]
@[simp] theorem ev_io {i} : ev Φ gl (.io i) ρ = (getO ρ i).map fun _ => (.none, .sh, ρ) := by first | exact id rfl | simp only [ev]
@[simp] theorem ev_glob {g} : ev Φ gl (.glob g) ρ = (match gl[g]? with | some (.str s) => some (.str s, .sh, ρ) | _ => none) := by first | exact id rfl | simp only [ev]
@[simp] theorem ev_inG {neg a g} : ev Φ gl (.inG neg a g) ρ = ((ev Φ gl a ρ).bind fun r => (gl[g]?).bind fun t => (inV r.1 t).bind fun b => some (.bool (if neg then !b else b), .sh, r.2.2)) := by first | exact id rfl | simp only [ev]
@[simp] theorem ev_box {e} : ev Φ gl (.box e) ρ = ((ev Φ gl e (frzAll ρ)).bind fun r => match r.2.1 with | .sh => if immD r.1 then some (r.1, .sh, ρ) else none | .fr => if immTop r.1 then some (r.1, .fr, ρ) else none) := by first | exact id rfl | simp only [ev]
@[simp] theorem ev_un {op a} : ev Φ gl (.un op a) ρ = ((ev Φ gl a ρ).bind fun r => (unV op r.1).bind fun d => some (d, .sh, r.2.2)) := by first | exact id rfl | simp only [ev]
@[simp] theorem ev_bin {op a b} : ev Φ gl (.bin op a b) ρ = ((ev Φ gl a ρ).bind fun r => (ev Φ gl b r.2.2).bind fun r2 => (binV op r.1 r2.1).bind fun d => some (d.1, d.2, r2.2.2)) := by first | exact id rfl | simp only [ev]
@[simp] theorem ev_cmp {op a b} : ev Φ gl (.cmp op a b) ρ = ((ev Φ gl a ρ).bind fun r => (ev Φ gl b r.2.2).bind fun r2 => (cmpV op r.1 r2.1).bind fun d => some (.bool d, .sh, r2.2.2)) := by first | exact id rfl | simp only [ev]
@[simp] theorem ev_chain {op op' a b c} : ev Φ gl (.chain op op' a b c) ρ = ((ev Φ gl a ρ).bind fun r => (ev Φ gl b r.2.2).bind fun r2 => (cmpV op r.1 r2.1).bind fun d => match d with | true => (ev Φ gl c r2.2.2).bind fun r3 => (cmpV op' r2.1 r3.1).bind fun d2 => some (.bool d2, .sh, r3.2.2) | false => some (.bool false, .sh, r2.2.2)) := by first | exact id rfl | simp only [ev]
@[simp] theorem ev_and {a b} : ev Φ gl (.bop .And a b) ρ = ((ev Φ gl a ρ).bind fun r => match r.1 with | .bool true => ev Φ gl b r.2.2 | .bool false => some (.bool false, .sh, r.2.2) | _ => none) := by first | exact id rfl | simp only [ev]
@[simp] theorem ev_or {a b} : ev Φ gl (.bop .Or a b) ρ = ((ev Φ gl a ρ).bind fun r => match r.1 with | .bool true => some (.bool true, .sh, r.2.2) | .bool false => ev Φ gl b r.2.2 | _ => none) := by first | exact id rfl | simp only [ev]
@[simp] theorem ev_ite {c a b} : ev Φ gl (.ite c a b) ρ = ((ev Φ gl c ρ).bind fun r => match r.1 with | .bool true => ev Φ gl a r.2.2 | .bool false => ev Φ gl b r.2.2 | _ => none) := by first | exact id rfl | simp only [ev]
@[simp] theorem ev_tup {es} : ev Φ gl (.tup es) ρ = ((evs Φ gl es ρ).bind fun r => if r.1.length ≤ sizeLine then some (.tuple r.1, .sh, r.2) else none) := by first | exact id rfl | simp only [ev]
@[simp] theorem ev_lst {es} : ev Φ gl (.lst es) ρ = ((evs Φ gl es ρ).bind fun r => if r.1.length ≤ sizeLine then some (.list r.1, .fr, r.2) else none) := by first | exact id rfl | simp only [ev]
@[simp] theorem ev_dic {es} : ev Φ gl (.dic es) ρ = ((evs Φ gl es ρ).bind fun r => if r.1.length ≤ 30 then (dictOf (pairUp r.1)).bind fun d => some (.dict d, .fr, r.2) else none) := by first | exact id rfl | simp only [ev]
@[simp] theorem ev_ix {a b} : ev Φ gl (.ix a b) ρ = ((ev Φ gl a ρ).bind fun r => (ev Φ gl b r.2.2).bind fun r2 => (ixV r.1 r2.1).bind fun d => some (d, .sh, r2.2.2)) := by first | exact id rfl | simp only [ev]
@[simp] theorem ev_sl {a lo hi} : ev Φ gl (.sl a lo hi) ρ = ((ev Φ gl a ρ).bind fun r => (evo Φ gl lo r.2.2).bind fun l => (evo Φ gl hi l.2).bind fun h => (optI l.1).bind fun l1 => (optI h.1).bind fun h1 => (slV r.1 l1 h1).bind fun d => some (d.1, d.2, h.2)) := by first | exact id rfl | simp only [ev]
@[simp] theorem ev_rev {a} : ev Φ gl (.rev a) ρ = ((ev Φ gl a ρ).bind fun r => (revV r.1).bind fun d => some (d.1, d.2, r.2.2)) := by first | exact id rfl | simp only [ev]
@[simp] theorem ev_bi {f es} : ev Φ gl (.bi f es) ρ = ((evs Φ gl es ρ).bind fun r => (biV f r.1).bind fun d => some (d.1, d.2, r.2)) := by first | exact id rfl | simp only [ev]
@[simp] theorem ev_call {f es} : ev Φ gl (.call f es) ρ = ((evs Φ gl es ρ).bind fun r => (fillIo r.2 es r.1).bind fun ds => (Φ f ds).bind fun d => (putIo (ioSlots es) d.2 r.2).bind fun ρ2 => some (d.1, .sh, ρ2)) := by first | exact id rfl | simp only [ev]
@[simp] theorem ev_comp {vs g it c e} : ev Φ gl (.comp vs g it c e) ρ = ((evi Φ gl it ρ).bind fun r => if noOwn r.2 vs then (compE Φ gl vs g c e r.1 [] (wipeP r.2 vs)).bind fun q => some (.list q.1, .fr, backP r.2 q.2 vs) else none) := by first | exact id rfl | (simp only [ev]; rfl)
@[simp] theorem ev_comp2 {vs vs1 g it c g1 it1 c1 e} : ev Φ gl (.comp2 vs vs1 g it c g1 it1 c1 e) ρ = ((evi Φ gl it ρ).bind fun r => if noOwn r.2 vs then (compE2 Φ gl vs vs1 g c g1 it1 c1 e r.1 [] (wipeP r.2 vs)).bind fun q => some (.list q.1, .fr, backP r.2 q.2 vs) else none) := by first | exact id rfl | (simp only [ev]; rfl)
@[simp] theorem evo_no  : evo Φ gl .no ρ = some (none, ρ) := by first | exact id rfl | simp only [evo]
@[simp] theorem evo_so {e} : evo Φ gl (.so e) ρ = ((ev Φ gl e ρ).bind fun r => some (some r.1, r.2.2)) := by first | exact id rfl | simp only [evo]
@[simp] theorem evs_nil  : evs Φ gl .nil ρ = some ([], ρ) := by first | exact id rfl | simp only [evs]
@[simp] theorem evs_cons {e es} : evs Φ gl (.cons e es) ρ = ((ev Φ gl e ρ).bind fun r => (evs Φ gl es r.2.2).bind fun q => some (r.1 :: q.1, q.2)) := by first | exact id rfl | simp only [evs]
@[simp] theorem evi_seq {e} : evi Φ gl (.seq e) ρ = ((ev Φ gl e ρ).bind fun r => (itemsD r.1).bind fun ds => some (ds, r.2.2)) := by first | exact id rfl | simp only [evi]
@[simp] theorem evi_glob {g} : evi Φ gl (.glob g) ρ = ((gl[g]?).bind fun d => (itemsD d).bind fun ds => some (ds, ρ)) := by first | exact id rfl | simp only [evi]
@[simp] theorem evi_dk {i} : evi Φ gl (.dk i) ρ = (match getS ρ i with | some (.dict kvs) => some (kvs.map (·.1), ρ) | _ => none) := by first | exact id rfl | simp only [evi]
@[simp] theorem evi_rng {es} : evi Φ gl (.rng es) ρ = ((evs Φ gl es ρ).bind fun r => (rngD r.1).bind fun ds => some (ds, r.2)) := by first | exact id rfl | simp only [evi]
def zipV : PyData → PyData → Option (List PyData)
  | .list xs, .list ys => some ((xs.zip ys).map fun p => .tuple [p.1, p.2])
  | .tuple xs, .tuple ys => some ((xs.zip ys).map fun p => .tuple [p.1, p.2])
  | _, _ => none
@[simp] theorem zipV_t {xs ys : List PyData} : zipV (.tuple xs) (.tuple ys) = some ((xs.zip ys).map fun p => .tuple [p.1, p.2]) := id rfl
@[simp] theorem zipV_l {xs ys : List PyData} : zipV (.list xs) (.list ys) = some ((xs.zip ys).map fun p => .tuple [p.1, p.2]) := id rfl
@[simp] theorem evi_zip {a b : E} : evi Φ gl (.zip a b) ρ = ((ev Φ gl a ρ).bind fun r => (ev Φ gl b r.2.2).bind fun r2 => (zipV r.1 r2.1).bind fun ds => some (ds, r2.2.2)) := by
  simp only [evi, Option.bind_eq_bind]
  congr 1; funext r; congr 1; funext r2
  cases r.1 <;> cases r2.1 <;> rfl
@[simp] theorem evi_enum {a : E} {xs : List PyData} {fl : Fl} {ρ1 : PEnv} (h : ev Φ gl a ρ = some (.list xs, fl, ρ1)) : evi Φ gl (.enum a) ρ = some ((List.range xs.length).zipWith (fun k d => .tuple [.int (k : Nat), d]) xs, ρ1) := by
  simp only [evi, h, Option.bind_eq_bind, Option.bind_some]
@[simp] theorem run_asg {i e} : PP.run Φ gl ios (.asg i e) ρ = ((evE Φ gl e ρ).bind fun r => if decide (i < ρ.length) && !ios.contains i then some (.nx (setF r.2.2 i r.1 r.2.1)) else none) := by first | exact id rfl | simp only [PP.run]
@[simp] theorem run_asgT {g e} : PP.run Φ gl ios (.asgT g e) ρ = ((evE Φ gl e ρ).bind fun r => (asgG g r.1 r.2.2).bind fun ρ2 => some (.nx ρ2)) := by first | exact id rfl | simp only [PP.run]
@[simp] theorem run_asgO {i j f es} : PP.run Φ gl ios (.asgO i j f es) ρ = (if okM ρ (alss es) [] && (modss es).isEmpty then (evs Φ gl es ρ).bind fun r => if noILs r.1 then (Φ f r.1).bind fun q => (match q with | (.tuple [.list (.int x :: xs), .int y], _) => if immAll xs && decide (i < ρ.length) && !ios.contains i && decide (j < ρ.length) && !ios.contains j && !decide (i = j) then some (.nx ((ρ.set i (.ow (.list (.int x :: xs)))).set j (.fz (.int y)))) else none | _ => none) else none else none) := by first | exact id rfl | simp only [PP.run]
@[simp] theorem run_asgDS {i k j a b} : PP.run Φ gl ios (.asgDS i k j a b) ρ = ((evE Φ gl a ρ).bind fun r1 => (evE Φ gl b r1.2.2).bind fun r2 => (getO r2.2.2 i).bind fun _ => (evE Φ gl k r2.2.2).bind fun r3 => (getO r3.2.2 i).bind fun c => (setV c r3.1 r1.1).bind fun d => if decide (j < ρ.length) && !ios.contains j then some (.nx ((r3.2.2.set i (.ow d)).set j (.fz r2.1))) else none) := by first | exact id rfl | simp only [PP.run]
@[simp] theorem run_asgD {is es} : PP.run Φ gl ios (.asgD is es) ρ = ((asgDs Φ gl is es ρ).bind fun r => if is.all fun i => decide (i < ρ.length) && !ios.contains i then some (.nx (setAll is r.1 r.2)) else none) := by first | exact id rfl | simp only [PP.run]
@[simp] theorem run_setIx {i k e} : PP.run Φ gl ios (.setIx i k e) ρ = ((evE Φ gl e ρ).bind fun r => (getO r.2.2 i).bind fun _ => (evE Φ gl k r.2.2).bind fun r2 => (getO r2.2.2 i).bind fun c => (setV c r2.1 r.1).bind fun d => some (.nx (r2.2.2.set i (.ow d)))) := by first | exact id rfl | simp only [PP.run]
@[simp] theorem run_aug {i op e} : PP.run Φ gl ios (.aug i op e) ρ = ((evE Φ gl e ρ).bind fun r => (getS ρ i).bind fun x => (augV op x r.1).bind fun d => if ios.contains i then none else some (.nx (r.2.2.set i (.fz d)))) := by first | exact id rfl | simp only [PP.run]
@[simp] theorem run_mut {m i e} : PP.run Φ gl ios (.mut m i e) ρ = ((getO ρ i).bind fun d0 => if mKind m d0 then (evE Φ gl e ρ).bind fun r => (getO r.2.2 i).bind fun d1 => (mutV m d1 r.1).bind fun d => some (.nx (r.2.2.set i (.ow d))) else none) := by first | exact id rfl | simp only [PP.run]
@[simp] theorem run_ifs {c a b} : PP.run Φ gl ios (.ifs c a b) ρ = ((evT Φ gl c ρ).bind fun r => match r with | (true, ρ1) => runs Φ gl ios a ρ1 | (false, ρ1) => runs Φ gl ios b ρ1) := by first | exact id rfl | simp only [PP.run]
@[simp] theorem run_for {g it b dead} : PP.run Φ gl ios (.for_ g it b dead) ρ = ((evIt Φ gl it ρ).bind fun r => forE Φ gl ios g b dead r.1 r.2) := by first | exact id rfl | (simp only [PP.run]; rfl)
@[simp] theorem run_whil {c b dead} : PP.run Φ gl ios (.whil c b dead) ρ = (whileE Φ gl ios c b dead 1000000 ρ) := by first | exact id rfl | (simp only [PP.run]; rfl)
@[simp] theorem run_ret {e} : PP.run Φ gl ios (.ret e) ρ = ((evE Φ gl e ρ).bind fun r => some (.rt r.1 r.2.2)) := by first | exact id rfl | simp only [PP.run]
@[simp] theorem run_brk  : PP.run Φ gl ios .brk ρ = some (.bk ρ) := by first | exact id rfl | simp only [PP.run]
@[simp] theorem run_frz {is} : PP.run Φ gl ios (.frz is) ρ = (if is.contains lkM then none else some (.nx (frz ρ is))) := by first | exact id rfl | simp only [PP.run]
@[simp] theorem run_pop {g : G} {i : Nat} {xs : List PyData} (h : getO ρ i = some (.list xs)) : PP.run Φ gl ios (.pop g i) ρ = (xs[xs.length - 1]?).bind fun x => (asgG g x (ρ.set i (.ow (.list xs.dropLast)))).bind fun ρ2 => some (.nx ρ2) := by
  simp only [PP.run, h, Option.bind_eq_bind, Option.bind_some]
  rfl
@[simp] theorem runs_nil' : runs Φ gl ios .nil ρ = some (.nx ρ) := by simp only [runs]
@[simp] theorem runs_cons' {s : S} {ss : Ss} : runs Φ gl ios (.cons s ss) ρ = (PP.run Φ gl ios s ρ).bind fun o => match o with | .nx ρ1 => runs Φ gl ios ss ρ1 | o => some o := by
  (simp only [runs, Option.bind_eq_bind]) <;> rfl
@[simp] theorem evE_eq {e} : evE Φ gl e ρ = (if okM ρ (als e) (mods e) then (ev Φ gl e ρ).bind fun r => some (r.1, r.2.1, frzIf ρ r.2.2 (als e) (mods e) (immF r.1 r.2.1)) else none) := by first | exact id rfl | simp only [evE]
@[simp] theorem evT_eq {e : E} : evT Φ gl e ρ = (evE Φ gl e ρ).bind fun r => match r.1 with | .bool b => some (b, r.2.2) | _ => none := by
  (simp only [evT, Option.bind_eq_bind]) <;> rfl
@[simp] theorem evIt_eq {it : I} : evIt Φ gl it ρ = if okM ρ (alsI it) (modsI it) then (evi Φ gl it ρ).bind fun r => some (r.1, match it with | .rng _ => frzIf ρ r.2 (alsI it) (modsI it) true | _ => frz r.2 (alsI it)) else none := by
  simp only [evIt, Option.bind_eq_bind]; rfl
@[simp] theorem asgDs_nil' : asgDs Φ gl [] .nil ρ = some ([], ρ) := by simp only [asgDs]
@[simp] theorem asgDs_cons' {i : Nat} {is : List Nat} {e : E} {es : Es} : asgDs Φ gl (i :: is) (.cons e es) ρ = (evE Φ gl e ρ).bind fun r => (asgDs Φ gl is es r.2.2).bind fun q => some ((r.1, r.2.1) :: q.1, q.2) := by simp only [asgDs, Option.bind_eq_bind]; rfl
/-- nothing is frozen where nothing is one's own -/
theorem frzIf_of {as ms : List Nat} {b : Bool} (h : frz ρ as = ρ) : frzIf ρ ρ as ms b = ρ := by unfold frzIf; rw [h]; split <;> rfl
end
end PP

/-! PP20: more equations for simp. -/
namespace PP
open PySem PySem.Spec PyProof.Rows L2
@[simp] theorem unV_neg {i : Int} : unV .USub (.int i) = some (.int (-i)) := id rfl
@[simp] theorem unV_not {b : Bool} : unV .Not (.bool b) = some (.bool (!b)) := id rfl
@[simp] theorem binV_addI {i j : Int} : binV .Add (.int i) (.int j) = some (.int (i + j), .sh) := id rfl
@[simp] theorem binV_addS {a b : Str} : binV .Add (.str a) (.str b) = if a.length + b.length ≤ sizeLine then some (.str (a ++ b), .sh) else none := id rfl
@[simp] theorem binV_addT {a b : List PyData} : binV .Add (.tuple a) (.tuple b) = if a.length + b.length ≤ sizeLine then some (.tuple (a ++ b), .sh) else none := id rfl
@[simp] theorem binV_addL {a b : List PyData} : binV .Add (.list a) (.list b) = if a.length + b.length ≤ sizeLine then some (.list (a ++ b), .fr) else none := id rfl
@[simp] theorem binV_sub {i j : Int} : binV .Sub (.int i) (.int j) = some (.int (i - j), .sh) := id rfl
@[simp] theorem binV_mul {i j : Int} : binV .Mult (.int i) (.int j) = if mulOk i j then some (.int (i * j), .sh) else none := id rfl
@[simp] theorem binV_fdiv {i j : Int} : binV .FloorDiv (.int i) (.int j) = if 0 < j ∧ j < 1073741824 then some (.int (i / j), .sh) else none := by simp [binV]
@[simp] theorem binV_mod {i j : Int} : binV .Mod (.int i) (.int j) = if 0 < j then some (.int (i % j), .sh) else none := id rfl
@[simp] theorem cmpV_isN {a : PyData} : cmpV .Is a .none = some (match a with | .none => true | _ => false) := by cases a <;> rfl
@[simp] theorem cmpV_isnN {a : PyData} : cmpV .IsNot a .none = some (match a with | .none => false | _ => true) := by cases a <;> rfl
@[simp] theorem cmpV_lt {i j : Int} : cmpV .Lt (.int i) (.int j) = some (decide (i < j)) := id rfl
@[simp] theorem cmpV_le {i j : Int} : cmpV .LtE (.int i) (.int j) = some (decide (i ≤ j)) := id rfl
@[simp] theorem cmpV_gt {i j : Int} : cmpV .Gt (.int i) (.int j) = some (decide (j < i)) := id rfl
@[simp] theorem cmpV_ge {i j : Int} : cmpV .GtE (.int i) (.int j) = some (decide (j ≤ i)) := id rfl
@[simp] theorem cmpV_in {a b : PyData} : cmpV .In a b = inV a b := by cases a <;> cases b <;> rfl
@[simp] theorem cmpV_nin {a b : PyData} : cmpV .NotIn a b = (inV a b).map (!·) := by cases a <;> cases b <;> rfl
@[simp] theorem okD_int {i : Int} : okD (.int i) = true := id rfl
@[simp] theorem okD_str {i : Str} : okD (.str i) = true := id rfl
@[simp] theorem okD_non : okD .none = true := id rfl
@[simp] theorem okD_bl {b : Bool} : okD (.bool b) = true := id rfl
@[simp] theorem cmpV_eqI {i j : Int} : cmpV .Eq (.int i) (.int j) = some (decide (i = j)) := by
  show some _ = some _
  rw [show PyData.eqv (.int i) (.int j) = decide (i = j) from by simp [PyData.eqv]; rfl]
@[simp] theorem cmpV_neI {i j : Int} : cmpV .NotEq (.int i) (.int j) = some (!decide (i = j)) := by
  show some _ = some _
  rw [show PyData.eqv (.int i) (.int j) = decide (i = j) from by simp [PyData.eqv]; rfl]
@[simp] theorem cmpV_eqS {i j : Str} : cmpV .Eq (.str i) (.str j) = some (decide (i = j)) := by
  show some _ = some _
  rw [show PyData.eqv (.str i) (.str j) = decide (i = j) from by simp [PyData.eqv]; rfl]
@[simp] theorem cmpV_neS {i j : Str} : cmpV .NotEq (.str i) (.str j) = some (!decide (i = j)) := by
  show some _ = some _
  rw [show PyData.eqv (.str i) (.str j) = decide (i = j) from by simp [PyData.eqv]; rfl]
@[simp] theorem cmpV_eqB {i j : Bool} : cmpV .Eq (.bool i) (.bool j) = some (decide (i = j)) := by cases i <;> cases j <;> rfl
@[simp] theorem cmpV_neB {i j : Bool} : cmpV .NotEq (.bool i) (.bool j) = some (!decide (i = j)) := by cases i <;> cases j <;> rfl
@[simp] theorem biV_len {ds} : biV .len ds = v_len ds := id rfl
@[simp] theorem biV_abs {ds} : biV .abs ds = v_abs ds := id rfl
@[simp] theorem biV_int {ds} : biV .int ds = v_int ds := id rfl
@[simp] theorem biV_sum {ds} : biV .sum ds = v_sum ds := id rfl
@[simp] theorem biV_any {ds} : biV .any ds = v_any ds := id rfl
@[simp] theorem biV_all {ds} : biV .all ds = v_all ds := id rfl
@[simp] theorem biV_sorted {ds} : biV .sorted ds = v_sorted ds := id rfl
@[simp] theorem biV_min {ds} : biV .min ds = mmV true ds := id rfl
@[simp] theorem biV_max {ds} : biV .max ds = mmV false ds := id rfl
@[simp] theorem biV_tuple {ds} : biV .tuple ds = v_tuple ds := id rfl
@[simp] theorem biV_list {ds} : biV .list ds = v_list ds := id rfl
@[simp] theorem biV_dict {ds} : biV .dict ds = v_dict ds := id rfl
@[simp] theorem biV_isI {t ds} : biV (.isI t) ds = v_isI t ds := id rfl
@[simp] theorem biV_lenSet {ds} : biV .lenSet ds = v_lenSet ds := id rfl
@[simp] theorem biV_sortedSet {ds} : biV .sortedSet ds = v_sortedSet ds := id rfl
@[simp] theorem biV_listRange {ds} : biV .listRange ds = v_listRange ds := id rfl
@[simp] theorem biV_get {ds} : biV .get ds = v_get ds := id rfl
@[simp] theorem biV_join {ds} : biV .join ds = v_join ds := id rfl
@[simp] theorem v_lenL {xs : List PyData} : v_len [.list xs] = some (.int xs.length, .sh) := id rfl
@[simp] theorem v_lenT {xs : List PyData} : v_len [.tuple xs] = some (.int xs.length, .sh) := id rfl
@[simp] theorem v_lenD {xs : List (PyData × PyData)} : v_len [.dict xs] = some (.int xs.length, .sh) := id rfl
@[simp] theorem v_tupleL {xs : List PyData} : v_tuple [.list xs] = some (.tuple xs, .sh) := id rfl
@[simp] theorem v_tupleT {xs : List PyData} : v_tuple [.tuple xs] = some (.tuple xs, .sh) := id rfl
@[simp] theorem v_listL {xs : List PyData} : v_list [.list xs] = some (.list xs, .fr) := id rfl
@[simp] theorem v_listT {xs : List PyData} : v_list [.tuple xs] = some (.list xs, .fr) := id rfl
@[simp] theorem v_intI {i : Int} : v_int [.int i] = some (.int i, .sh) := id rfl
@[simp] theorem v_isI_ {t d} : v_isI t [d] = (isT t d).map fun b => (.bool b, .sh) := id rfl
@[simp] theorem itemsL {xs : List PyData} : itemsD (.list xs) = some xs := id rfl
@[simp] theorem itemsT {xs : List PyData} : itemsD (.tuple xs) = some xs := id rfl
@[simp] theorem ixV_l {xs : List PyData} {i : Int} : ixV (.list xs) (.int i) = atI xs i := id rfl
@[simp] theorem ixV_t {xs : List PyData} {i : Int} : ixV (.tuple xs) (.int i) = atI xs i := id rfl
@[simp] theorem mutV_app {xs : List PyData} {d : PyData} : mutV "append" (.list xs) d = if xs.length < sizeLine then some (.list (xs ++ [d])) else none := id rfl
@[simp] theorem mutV_ext {xs ys : List PyData} : mutV "extend" (.list xs) (.list ys) = if xs.length + ys.length ≤ sizeLine then some (.list (xs ++ ys)) else none := id rfl
@[simp] theorem mKind_app {xs : List PyData} : mKind "append" (.list xs) = true := id rfl
@[simp] theorem mKind_ext {xs : List PyData} : mKind "extend" (.list xs) = true := id rfl
@[simp] theorem augV_add {a b : Int} : augV .Add (.int a) (.int b) = some (.int (a + b)) := id rfl
@[simp] theorem augV_sub {a b : Int} : augV .Sub (.int a) (.int b) = some (.int (a - b)) := id rfl
@[simp] theorem asgG_nm {i d ρ} : asgG (.nm i) d ρ = if i < ρ.length then some (ρ.set i (.fz d)) else none := by simp only [asgG]
@[simp] theorem asgG_tp {gs ds ρ} : asgG (.tp gs) (.tuple ds) ρ = asgGs gs ds ρ := by simp only [asgG]
@[simp] theorem asgGs_nil {ρ} : asgGs [] [] ρ = some ρ := by simp only [asgGs]
@[simp] theorem asgGs_cons {g gs d ds ρ} : asgGs (g :: gs) (d :: ds) ρ = (asgG g d ρ).bind fun ρ => asgGs gs ds ρ := by simp only [asgGs]; rfl
/-- frozen slots: nothing to do -/
theorem frz_fz {ρ : PEnv} {as : List Nat} (h : ∀ i, i ∈ as → isOwn ρ i = false) : frz ρ as = ρ := by
  induction as with
  | nil => rfl
  | cons a as ih =>
    have ha := h a (List.mem_cons_self ..)
    have e : frz ρ (a :: as) = frz (match ρ[a]? with | some (.ow d) => ρ.set a (.fz d) | _ => ρ) as := rfl
    rw [e]
    unfold isOwn at ha
    cases hx : ρ[a]? with
    | none => exact ih fun i hi => h i (List.mem_cons_of_mem _ hi)
    | some x =>
      rw [hx] at ha
      cases x with
      | ow d => cases ha
      | no => exact ih fun i hi => h i (List.mem_cons_of_mem _ hi)
      | fz d => exact ih fun i hi => h i (List.mem_cons_of_mem _ hi)
/-! ### environments that lie open -/
@[simp] theorem getS_ow {d ρ} : getS (.ow d :: ρ) 0 = some d := id rfl
@[simp] theorem getS_fz {d ρ} : getS (.fz d :: ρ) 0 = some d := id rfl
@[simp] theorem getS_no {ρ} : getS (.no :: ρ) 0 = none := id rfl
@[simp] theorem getS_s {s ρ n} : getS (s :: ρ) (n + 1) = getS ρ n := id rfl
@[simp] theorem getO_ow {d ρ} : getO (.ow d :: ρ) 0 = some d := id rfl
@[simp] theorem getO_fz {d ρ} : getO (.fz d :: ρ) 0 = none := id rfl
@[simp] theorem getO_no {ρ} : getO (.no :: ρ) 0 = none := id rfl
@[simp] theorem getO_s {s ρ n} : getO (s :: ρ) (n + 1) = getO ρ n := id rfl
@[simp] theorem isOwn_ow {d ρ} : isOwn (.ow d :: ρ) 0 = true := id rfl
@[simp] theorem isOwn_fz {d ρ} : isOwn (.fz d :: ρ) 0 = false := id rfl
@[simp] theorem isOwn_no {ρ} : isOwn (.no :: ρ) 0 = false := id rfl
@[simp] theorem isOwn_s {s ρ n} : isOwn (s :: ρ) (n + 1) = isOwn ρ n := id rfl
@[simp] theorem isOwn_nil {n} : isOwn [] n = false := id rfl
def nd (ρ : PEnv) (i : Nat) : Bool := match ρ[i]? with | some (.ow d) => notDict d | _ => true
@[simp] theorem nd_ow {d ρ} : nd (.ow d :: ρ) 0 = notDict d := id rfl
@[simp] theorem nd_fz {d ρ} : nd (.fz d :: ρ) 0 = true := id rfl
@[simp] theorem nd_no {ρ} : nd (.no :: ρ) 0 = true := id rfl
@[simp] theorem nd_s {s ρ n} : nd (s :: ρ) (n + 1) = nd ρ n := id rfl
@[simp] theorem nd_nil {n} : nd [] n = true := id rfl
def frz1 (ρ : PEnv) (i : Nat) : PEnv := match ρ[i]? with | some (.ow d) => ρ.set i (.fz d) | _ => ρ
@[simp] theorem frz_nil {ρ} : frz ρ [] = ρ := id rfl
@[simp] theorem frz_cons {ρ i is} : frz ρ (i :: is) = frz (frz1 ρ i) is := id rfl
@[simp] theorem frz1_ow {d ρ} : frz1 (.ow d :: ρ) 0 = .fz d :: ρ := id rfl
@[simp] theorem frz1_fz {d ρ} : frz1 (.fz d :: ρ) 0 = .fz d :: ρ := id rfl
@[simp] theorem frz1_no {ρ} : frz1 (.no :: ρ) 0 = .no :: ρ := id rfl
@[simp] theorem frz1_nil {n} : frz1 [] n = [] := id rfl
@[simp] theorem frz1_s {s ρ n} : frz1 (s :: ρ) (n + 1) = s :: frz1 ρ n := by
  unfold frz1
  rw [List.getElem?_cons_succ]
  cases h : ρ[n]? with
  | none => rfl
  | some x => cases x <;> rfl
@[simp] theorem noOwn_nil {ρ} : noOwn ρ [] = true := id rfl
@[simp] theorem noOwn_cons {ρ v vs} : noOwn ρ (v :: vs) = (!isOwn ρ v && noOwn ρ vs) := by
  unfold noOwn isOwn
  rw [List.all_cons]
  congr 1
  cases h : ρ[v]? with
  | none => rfl
  | some x => cases x <;> rfl
def back1 (ρ ρ' : PEnv) (v : Nat) : PEnv := match ρ[v]? with | some x => ρ'.set v x | none => ρ'
@[simp] theorem backP_nil {ρ ρ'} : backP ρ ρ' [] = ρ' := id rfl
@[simp] theorem backP_cons {ρ ρ' v vs} : backP ρ ρ' (v :: vs) = back1 ρ (backP ρ ρ' vs) v := id rfl
@[simp] theorem back1_z {s ρ t ρ'} : back1 (s :: ρ) (t :: ρ') 0 = s :: ρ' := id rfl
@[simp] theorem back1_s {s ρ t ρ' n} : back1 (s :: ρ) (t :: ρ') (n + 1) = t :: back1 ρ ρ' n := by
  unfold back1
  rw [List.getElem?_cons_succ]
  cases h : ρ[n]? <;> rfl
@[simp] theorem wipeP_nil {ρ} : wipeP ρ [] = ρ := id rfl
@[simp] theorem wipeP_cons {ρ v vs} : wipeP ρ (v :: vs) = (wipeP ρ vs).set v .no := id rfl
@[simp] theorem setF_sh {ρ i d} : setF ρ i d .sh = ρ.set i (.fz d) := id rfl
@[simp] theorem setF_fr {ρ i d} : setF ρ i d .fr = ρ.set i (.ow d) := id rfl
@[simp] theorem setAll_nil {ρ} : setAll [] [] ρ = ρ := id rfl
@[simp] theorem setAll_cons {i is d f r ρ} : setAll (i :: is) ((d, f) :: r) ρ = setAll is r (setF ρ i d f) := id rfl
@[simp] theorem okM_cons {ρ as m ms} : okM ρ as (m :: ms) = ((isOwn ρ m && !as.contains m) && okM ρ as ms) := by
  unfold okM
  rw [List.all_cons, Bool.and_assoc]
theorem okM_walk {ρ : PEnv} {as : List Nat} : okM ρ as [] = (!as.contains 1000000 || as.all (nd ρ)) := rfl
@[simp] theorem okM_none {ρ : PEnv} {as : List Nat} (h : as.contains 1000000 = false) : okM ρ as [] = true := by rw [okM_walk, h]; rfl
@[simp] theorem frzIf_cons {ρ ρ1 as m ms b} : frzIf ρ ρ1 as (m :: ms) b = frz ρ1 as := by unfold frzIf; cases b <;> rfl
@[simp] theorem frzIf_nil {ρ ρ1 as b} : frzIf ρ ρ1 as [] b = if b then ρ else frz ρ1 as := by unfold frzIf; cases b <;> rfl
@[simp] theorem immF_sh {d} : immF d .sh = immD d := id rfl
@[simp] theorem immF_fr {d} : immF d .fr = immTop d := id rfl
@[simp] theorem immD_int {d} : immD (.int d) = true := by simp [immD]
@[simp] theorem immD_str {d} : immD (.str d) = true := by simp [immD]
@[simp] theorem immD_bool {d} : immD (.bool d) = true := by simp [immD]
@[simp] theorem immD_none : immD .none = true := by simp [immD]
@[simp] theorem immD_tuple {ds} : immD (.tuple ds) = immAll ds := by simp [immD]
@[simp] theorem immAll_nil : immAll [] = true := by simp [immAll]
@[simp] theorem immAll_cons2 {d ds} : immAll (d :: ds) = (immD d && immAll ds) := by simp [immAll]
@[simp] theorem immAll_ints {xs : List Int} : immAll (xs.map .int) = true := by induction xs <;> simp [*]
@[simp] theorem immTop_list {ds} : immTop (.list ds) = immAll ds := by simp [immTop]
@[simp] theorem fillIo_nil {ρ} : fillIo ρ .nil [] = some [] := by simp [fillIo]
@[simp] theorem fillIo_io {ρ i es d ds} : fillIo ρ (.cons (.io i) es) (d :: ds) = (getO ρ i).bind fun x => (fillIo ρ es ds).bind fun r => some (x :: r) := by simp only [fillIo]; rfl
@[simp] theorem fillIo_e {ρ e es d ds} (h : ∀ i, e ≠ .io i) : fillIo ρ (.cons e es) (d :: ds) = (fillIo ρ es ds).bind fun r => some (d :: r) := by
  cases e <;> first | rfl | exact absurd rfl (h _)
@[simp] theorem ioSlots_nil : ioSlots .nil = [] := id rfl
@[simp] theorem ioSlots_io {i es} : ioSlots (.cons (.io i) es) = i :: ioSlots es := id rfl
@[simp] theorem ioSlots_e {e es} (h : ∀ i, e ≠ .io i) : ioSlots (.cons e es) = ioSlots es := by
  cases e <;> first | rfl | exact absurd rfl (h _)
@[simp] theorem putIo_nil {ρ} : putIo [] [] ρ = some ρ := id rfl
@[simp] theorem putIo_cons {i is d ds ρ} : putIo (i :: is) (d :: ds) ρ = putIo is ds (ρ.set i (.ow d)) := id rfl
@[simp] theorem outsOf_nil {ρ} : outsOf ρ [] = some [] := id rfl
@[simp] theorem endOf_rt {ios d ρ} : endOf ios (.rt d ρ) = (outsOf ρ ios).map fun o => (d, o) := id rfl
@[simp] theorem endOf_nx {ios ρ} : endOf ios (.nx ρ) = (outsOf ρ ios).map fun o => (.none, o) := id rfl
/-- a call is its body's run -/
theorem phi_eq {tbl : List Def} {gl : List PyData} {n f : Nat} {ds : List PyData} {D : Def} {ρ : PEnv} (hD : tbl[f]? = some D) (hl : ds.length = D.np) (he : envOf D ds = ρ) : phi tbl gl (n + 1) f ds = (runs (phi tbl gl n) gl D.ios D.body ρ).bind (endOf D.ios) := by
  subst he
  simp only [phi, hD, hl, if_true, Option.bind_eq_bind]
  congr 1; funext o
  cases o with
  | rt d ρ => cases h : outsOf ρ D.ios <;> simp [h]
  | nx ρ => cases h : outsOf ρ D.ios <;> simp [h]
  | bk ρ => rfl
theorem runs_step {Φ : Nat → List PyData → Option (PyData × List PyData)} {gl : List PyData} {ios : List Nat} {s : S} {ss : Ss} {ρ ρ1 : PEnv} (h : PP.run Φ gl ios s ρ = some (.nx ρ1)) : runs Φ gl ios (.cons s ss) ρ = runs Φ gl ios ss ρ1 := runs_nx h rfl
section
variable {Φ : Nat → List PyData → Option (PyData × List PyData)} {gl : List PyData} {ios : List Nat} {g : G} {b : Ss} {dead : List Nat}
theorem loop_nil {ρ : PEnv} : forE Φ gl ios g b dead [] ρ = some (.nx (wipeP ρ dead)) := rfl
theorem loop_cons {ρ : PEnv} (ρ1 ρ2 : PEnv) {d : PyData} {ds : List PyData} {o : Option Out} (h1 : asgG g d (wipeP ρ dead) = some ρ1) (h2 : runs Φ gl ios b ρ1 = some (.nx ρ2)) (h3 : forE Φ gl ios g b dead ds ρ2 = o) : forE Φ gl ios g b dead (d :: ds) ρ = o := by
  unfold forE at h3 ⊢
  simp only [forL, h1, h2, Option.bind_eq_bind, Option.bind_some]
  exact h3
/-- a loop's turn that ends in a return -/
theorem loop_ret {ρ : PEnv} (ρ1 ρ2 : PEnv) {d v : PyData} {ds : List PyData} (h1 : asgG g d (wipeP ρ dead) = some ρ1) (h2 : runs Φ gl ios b ρ1 = some (.rt v ρ2)) : forE Φ gl ios g b dead (d :: ds) ρ = some (.rt v ρ2) := by
  unfold forE
  simp only [forL, h1, h2, Option.bind_eq_bind, Option.bind_some]
end
end PP

/-! PP21: plain data: what is not deep, items by number, ranges, counting loops. -/
namespace PP
open PySem PySem.Spec PyProof.Rows L2
def okN (n : Nat) (d : PyData) : Bool := d.plain && decide (d.depth ≤ n)
theorem okN_all (n : Nat) : ∀ xs : List PyData, (PyData.plainAll xs && decide (PyData.depthAll xs ≤ n)) = xs.all (okN n)
  | [] => by simp [PyData.plainAll, PyData.depthAll]
  | x :: xs => by
    rw [List.all_cons, ← okN_all n xs]
    simp only [PyData.plainAll, PyData.depthAll, okN, Nat.max_le, Bool.decide_and]
    cases x.plain <;> cases PyData.plainAll xs <;> simp
@[simp] theorem okN_int {n i} : okN n (.int i) = true := by simp [okN, PyData.plain, PyData.depth]
@[simp] theorem okN_str {n i} : okN n (.str i) = true := by simp [okN, PyData.plain, PyData.depth]
@[simp] theorem okN_bool {n i} : okN n (.bool i) = true := by simp [okN, PyData.plain, PyData.depth]
@[simp] theorem okN_none {n} : okN n .none = true := by simp [okN, PyData.plain, PyData.depth]
@[simp] theorem okN_list {n xs} : okN (n + 1) (.list xs) = xs.all (okN n) := by simp [okN, ← okN_all, PyData.plain, PyData.depth]
@[simp] theorem okN_tuple {n xs} : okN (n + 1) (.tuple xs) = xs.all (okN n) := by simp [okN, ← okN_all, PyData.plain, PyData.depth]
theorem okD_eq {d : PyData} : okD d = okN 40 d := rfl
@[simp] theorem okD_list {xs} : okD (.list xs) = xs.all (okN 39) := by rw [okD_eq]; exact okN_list
@[simp] theorem okD_tuple {xs} : okD (.tuple xs) = xs.all (okN 39) := by rw [okD_eq]; exact okN_tuple
theorem okN_mono {n m : Nat} (h : n ≤ m) {d : PyData} (e : okN n d = true) : okN m d = true := by
  simp only [okN, Bool.and_eq_true, decide_eq_true_eq] at e ⊢
  exact ⟨e.1, Nat.le_trans e.2 h⟩
@[simp] theorem eqv_tt {xs ys} : PyData.eqv (.tuple xs) (.tuple ys) = PyData.eqvAll xs ys := by simp only [PyData.eqv]
@[simp] theorem eqv_ll {xs ys} : PyData.eqv (.list xs) (.list ys) = PyData.eqvAll xs ys := by simp only [PyData.eqv]
@[simp] theorem eqv_ii {x y} : PyData.eqv (.int x) (.int y) = decide (x = y) := by simp only [PyData.eqv]; rfl
@[simp] theorem eqv_ss {x y} : PyData.eqv (.str x) (.str y) = decide (x = y) := by simp only [PyData.eqv]; rfl
@[simp] theorem eqv_bb {x y} : PyData.eqv (.bool x) (.bool y) = decide (x = y) := by simp only [PyData.eqv]; rfl
@[simp] theorem eqv_nn : PyData.eqv .none .none = true := by simp only [PyData.eqv]
@[simp] theorem eqvAll_nn : PyData.eqvAll [] [] = true := by simp only [PyData.eqvAll]
@[simp] theorem eqvAll_cn {x xs} : PyData.eqvAll (x :: xs) [] = false := by simp only [PyData.eqvAll]
@[simp] theorem eqvAll_nc {x xs} : PyData.eqvAll [] (x :: xs) = false := by simp only [PyData.eqvAll]
@[simp] theorem eqvAll_cc {x xs y ys} : PyData.eqvAll (x :: xs) (y :: ys) = (PyData.eqv x y && PyData.eqvAll xs ys) := by simp only [PyData.eqvAll]
theorem eqV_ok {a b : PyData} (ha : okD a = true) (hb : okD b = true) : eqV a b = some (PyData.eqv a b) := by unfold eqV; rw [ha, hb]; rfl
@[simp] theorem cmpV_eqT {xs ys} (ha : okD (.tuple xs) = true) (hb : okD (.tuple ys) = true) : cmpV .Eq (.tuple xs) (.tuple ys) = some (PyData.eqvAll xs ys) := by
  show eqV _ _ = _
  rw [eqV_ok ha hb, eqv_tt]
@[simp] theorem cmpV_neT {xs ys} (ha : okD (.tuple xs) = true) (hb : okD (.tuple ys) = true) : cmpV .NotEq (.tuple xs) (.tuple ys) = some (!PyData.eqvAll xs ys) := by
  show (eqV _ _).map _ = _
  rw [eqV_ok ha hb, eqv_tt]; rfl
@[simp] theorem cmpV_neC {x xs} : cmpV .NotEq (.list (x :: xs)) (.list []) = some true := id rfl
@[simp] theorem cmpV_neE : cmpV .NotEq (.list []) (.list []) = some false := id rfl
theorem cmpV_ne0 {xs : List PyData} : cmpV .NotEq (.list xs) (.list []) = some (!xs.isEmpty) := by cases xs <;> rfl
theorem cmpV_neA {xs : List PyData} {x : PyData} : cmpV .NotEq (.list (xs ++ [x])) (.list []) = some true := by cases xs <;> rfl
/-! items -/
@[simp] theorem atI_0 {α : Type} {x : α} {xs : List α} : atI (x :: xs) 0 = some x := atI_nat (j := 0) rfl
@[simp] theorem atI_1 {α : Type} {x y : α} {xs : List α} : atI (x :: y :: xs) 1 = some y := atI_nat (j := 1) rfl
@[simp] theorem atI_2 {α : Type} {x y z : α} {xs : List α} : atI (x :: y :: z :: xs) 2 = some z := atI_nat (j := 2) rfl
@[simp] theorem atI_3 {α : Type} {x y z w : α} {xs : List α} : atI (x :: y :: z :: w :: xs) 3 = some w := atI_nat (j := 3) rfl
theorem atI_mid {α : Type} {pre ps : List α} {p : α} {i : Int} (h : i = pre.length) : atI (pre ++ p :: ps) i = some p := by
  subst h
  exact atI_nat (by simp)
@[simp] theorem atI_end {α : Type} {xs : List α} {x : α} : atI (xs ++ [x]) (-1) = some x := atI_last xs x
theorem atI_lt {α : Type} {xs : List α} {i : Int} (h0 : 0 ≤ i) (h : i < xs.length) : atI xs i = some (xs[i.toNat]'(by omega)) := by
  have : i = ((i.toNat : Nat) : Int) := by omega
  conv => lhs; rw [this]
  exact atI_nat (by rw [List.getElem?_eq_getElem])
@[simp] theorem setV_end {xs : List PyData} {x v : PyData} : setV (.list (xs ++ [x])) (.int (-1)) v = some (.list (xs ++ [v])) := by
  have : ixN (xs ++ [x]).length (-1) = some xs.length := by
    unfold ixN
    rw [List.length_append]
    simp
    omega
  show (ixN (xs ++ [x]).length (-1)).map _ = _
  rw [this]
  simp
/-! ranges -/
def iidx (i : Int) (m : Nat) : List PyData := (List.range m).map fun j => .int (i + (j : Nat))
@[simp] theorem iidx_0 {i} : iidx i 0 = [] := id rfl
theorem iidx_s {i m} : iidx i (m + 1) = .int i :: iidx (i + 1) m := by
  unfold iidx
  rw [List.range_succ_eq_map, List.map_cons, List.map_map]
  congr 1
  · simp
  · apply List.map_congr_left
    intro j _
    simp
    omega
@[simp] theorem iidx_len {i m} : (iidx i m).length = m := by simp [iidx]
theorem rngD_1 {j : Int} (h0 : 0 ≤ j) (h : j < 4611686018427387904) : rngD [.int j] = some (iidx 0 j.toNat) := by
  show (if rngOk 0 j then some (iidx 0 j.toNat) else none) = _
  rw [if_pos (by simp [rngOk]; omega)]
theorem rngD_n {n : Nat} (h : n < 4611686018427387904) : rngD [.int (n : Int)] = some (iidx 0 n) := by
  rw [rngD_1 (by omega) (by omega)]; rfl
theorem rngD_2 {i j : Int} (h0 : -4611686018427387904 ≤ i) (h1 : i < 4611686018427387904) (h2 : -4611686018427387904 ≤ j) (h3 : j < 4611686018427387904) : rngD [.int i, .int j] = some (iidx i (j - i).toNat) := by
  show (if rngOk i j then some (iidx i (j - i).toNat) else none) = _
  rw [if_pos (by simp [rngOk]; omega)]
theorem v_listRange_2 {i j : Int} (h0 : -4611686018427387904 ≤ i) (h1 : i < 4611686018427387904) (h2 : -4611686018427387904 ≤ j) (h3 : j < 4611686018427387904) (hl : (j - i).toNat ≤ sizeLine) : v_listRange [.int i, .int j] = some (.list (iidx i (j - i).toNat), .fr) := by
  simp only [v_listRange, rngD_2 h0 h1 h2 h3, Option.bind_eq_bind, Option.bind_some, iidx_len, if_pos hl]
/-! loops that count -/
theorem iter_add (k : Nat) (a : Int) : iter (· + 1) k a = a + k := by
  induction k generalizing a with
  | zero => simp [iter]
  | succ k ih => simp only [iter]; rw [ih]; omega
theorem whileE_count {Φ : Nat → List PyData → Option (PyData × List PyData)} {gl : List PyData} {ios : List Nat} {c : E} {b : Ss} {dead : List Nat} (E : Int → PEnv) (p : Int → Bool) (a : Int) (k : Nat) {m : Nat} (hk : k < m) (ht : ∀ i : Nat, i < k → p (a + i) = true) (hf : p (a + k) = false) (hw : ∀ x, wipeP (E x) dead = E x)
    (h1 : ∀ x, evT Φ gl c (E x) = some (p x, E x)) (h2 : ∀ x, runs Φ gl ios b (E x) = some (.nx (E (x + 1)))) : whileE Φ gl ios c b dead m (E a) = some (.nx (E (a + k))) := by
  have := whileL_iter (tst := fun ρ => evT Φ gl c ρ) (body := fun ρ => runs Φ gl ios b ρ) (dead := dead) E (· + 1) p k m a (E a) (hw a) (fun i hi => by rw [iter_add]; exact ht i hi) (by rw [iter_add]; exact hf) hk fun x => ⟨_, h1 x, fun _ => rfl, fun _ => ⟨_, h2 x, hw _⟩⟩
  rw [iter_add] at this
  exact this
end PP

/-! PP22: comprehensions over typed items; more about dicts. -/
namespace PP
open PySem PySem.Spec PyProof.Rows L2
section
variable {asgn : PyData → PEnv → Option PEnv} {tst elt : PEnv → Option (PyData × Fl × PEnv)} {vs : List Nat}
theorem compG {α : Type} {ρ : PEnv} (g : α → PyData) (p : α → Bool) (f : α → PyData) : ∀ (xs : List α) (acc : List PyData), (∀ x, x ∈ xs → ∃ ρ1 fl ρ2, asgn (g x) ρ = some ρ1 ∧ tst ρ1 = some (.bool (p x), fl, ρ2) ∧ (p x = false → wipeP ρ2 vs = ρ) ∧ (p x = true → ∃ fl3 ρ3, elt ρ2 = some (f x, fl3, ρ3) ∧ wipeP ρ3 vs = ρ)) → acc.length + xs.length ≤ sizeLine →
    compL asgn tst elt vs (xs.map g) acc ρ = some (acc ++ (xs.filter p).map f, ρ)
  | [], acc, _, _ => by simp [compL, compL2]
  | d :: ds, acc, h, hl => by
    obtain ⟨ρ1, fl, ρ2, h1, h2, h3, h4⟩ := h d (List.mem_cons_self ..)
    have ih := fun acc => compG (ρ := ρ) g p f ds acc fun d hd => h d (List.mem_cons_of_mem _ hd)
    unfold compL at ih ⊢
    simp only [List.map_cons, compL2, h1, h2, Option.bind_eq_bind, Option.bind_some]
    cases hp : p d with
    | false =>
      simp only [h3 hp]
      rw [ih acc (by rw [List.length_cons] at hl; omega), List.filter_cons, hp]
      rfl
    | true =>
      obtain ⟨fl3, ρ3, h5, h6⟩ := h4 hp
      have : acc.length < sizeLine := by rw [List.length_cons] at hl; omega
      simp only [addV, h5, Option.bind_eq_bind, Option.bind_some, if_pos this, h6]
      rw [ih (acc ++ [f d]) (by rw [List.length_append]; rw [List.length_cons] at hl; simp; omega), List.filter_cons, hp, if_pos rfl, List.map_cons, List.append_assoc]
      rfl
end
/-- a comprehension that changes nothing else -/
theorem compR {Φ : Nat → List PyData → Option (PyData × List PyData)} {gl : List PyData} {vs : List Nat} {g : G} {c e : E} {α : Type} {ρ : PEnv} (it : α → PyData) (p : α → Bool) (f : α → PyData) (R : α → PEnv) (fl : Fl) (xs : List α) (h1 : ∀ x, x ∈ xs → asgG g (it x) ρ = some (R x)) (h2 : ∀ x, x ∈ xs → ev Φ gl c (R x) = some (.bool (p x), .sh, R x)) (h3 : ∀ x, x ∈ xs → p x = true → ev Φ gl e (R x) = some (f x, fl, R x)) (h4 : ∀ x, x ∈ xs → wipeP (R x) vs = ρ) (hl : xs.length ≤ sizeLine) :
    compE Φ gl vs g c e (xs.map it) [] ρ = some ((xs.filter p).map f, ρ) := by
  unfold compE
  rw [compG it p f xs [] (fun x hx => ⟨R x, .sh, R x, h1 x hx, h2 x hx, fun _ => h4 x hx, fun hp => ⟨fl, R x, h3 x hx hp, h4 x hx⟩⟩) (by simpa using hl)]
  rfl
/-- .. all kept -/
theorem compA {Φ : Nat → List PyData → Option (PyData × List PyData)} {gl : List PyData} {vs : List Nat} {g : G} {e : E} {α : Type} {ρ : PEnv} (it : α → PyData) (f : α → PyData) (R : α → PEnv) (fl : Fl) (xs : List α) (h1 : ∀ x, x ∈ xs → asgG g (it x) ρ = some (R x)) (h3 : ∀ x, x ∈ xs → ev Φ gl e (R x) = some (f x, fl, R x)) (h4 : ∀ x, x ∈ xs → wipeP (R x) vs = ρ) (hl : xs.length ≤ sizeLine) :
    compE Φ gl vs g (.bl true) e (xs.map it) [] ρ = some (xs.map f, ρ) := by
  rw [compR it (fun _ => true) f R fl xs h1 (fun _ _ => ev_bl) (fun x hx _ => h3 x hx) h4 hl, List.filter_eq_self.mpr (fun _ _ => rfl)]
theorem iidx_zip {α : Type} (xs : List α) (i : Int) : iidx i xs.length = xs.zipIdx.map fun p => .int (i + (p.2 : Nat)) := by
  unfold iidx
  show _ = xs.zipIdx.map ((fun j : Nat => PyData.int (i + (j : Nat))) ∘ Prod.snd)
  rw [← List.map_map, List.zipIdx_eq_zip_range', List.map_snd_zip (by simp), List.range_eq_range']
theorem zipIdx_get {α : Type} {xs : List α} {p : α × Nat} (h : p ∈ xs.zipIdx) : xs[p.2]? = some p.1 := by
  have := List.mem_zipIdx_iff_getElem?.mp h
  simpa using this
theorem zipIdx_at {α : Type} {xs : List α} {p : α × Nat} (h : p ∈ xs.zipIdx) : atI xs (p.2 : Int) = some p.1 := atI_nat (zipIdx_get h)
/-! dicts -/
theorem dkey_plain {p : PyData × PyData} (h : plainKey p = true) : ∃ k, dkey p.1 = some (.inl k) := by
  unfold plainKey at h
  cases e : dkey p.1 with
  | none => rw [e] at h; cases h
  | some z => cases z with
    | inl k => exact ⟨k, rfl⟩
    | inr k => rw [e] at h; cases h
theorem fits_plain {kvs : List (PyData × PyData)} (h : kvs.all plainKey = true) (k : Sum Int Str) : dfits kvs (.inl k) = true := by
  unfold dfits
  rw [List.all_eq_true] at h ⊢
  intro p hp
  obtain ⟨k', e⟩ := dkey_plain (h p hp)
  rw [e]
theorem has_mem {kvs : List (PyData × PyData)} {p : PyData × PyData} {k : DK} (h : p ∈ kvs) (e : dkey p.1 = some k) : dhas kvs k = true := by
  unfold dhas
  rw [List.any_eq_true]
  exact ⟨p, h, by rw [e]; simp⟩
/-- keys that differ -/
def keysOk (kvs : List (PyData × PyData)) : Prop := kvs.all plainKey = true ∧ (kvs.map fun p => dkey p.1).Nodup
theorem look_mem : ∀ {kvs : List (PyData × PyData)} {p : PyData × PyData} {k : DK}, (kvs.map fun p => dkey p.1).Nodup → p ∈ kvs → dkey p.1 = some k → dlook kvs k = some p.2
  | q :: kvs, p, k, hn, hp, e => by
    rw [List.map_cons, List.nodup_cons] at hn
    rcases List.mem_cons.mp hp with rfl | hp
    · simp [dlook, e]
    · have : dkey q.1 ≠ some k := fun z => hn.1 (by rw [z]; exact List.mem_map.mpr ⟨p, hp, e⟩)
      unfold dlook
      rw [List.find?_cons_of_neg (by simpa using this)]
      exact look_mem hn.2 hp e
theorem put_new {kvs : List (PyData × PyData)} {k : DK} {kd v : PyData} (h : some k ∉ kvs.map fun p => dkey p.1) : dput kvs k kd v = kvs ++ [(kd, v)] := by
  unfold dput
  rw [if_neg]
  intro z
  unfold dhas at z
  rw [List.any_eq_true] at z
  obtain ⟨p, hp, e⟩ := z
  exact h (List.mem_map.mpr ⟨p, hp, by simpa using e⟩)
theorem dictOf_new : ∀ (ps acc : List (PyData × PyData)), (ps.all plainKey = true) → ((acc ++ ps).map fun p => dkey p.1).Nodup → (ps.foldlM (init := acc) fun acc p => (do
  match dkey p.1 with
  | some (.inl k) => some (dput acc (.inl k) p.1 p.2)
  | _ => none : Option (List (PyData × PyData)))) = some (acc ++ ps)
  | [], acc, _, _ => by simp
  | p :: ps, acc, hp, hn => by
    rw [List.all_cons, Bool.and_eq_true] at hp
    obtain ⟨k, e⟩ := dkey_plain hp.1
    have : some (Sum.inl k) ∉ acc.map fun p => dkey p.1 := by
      intro z
      rw [List.map_append, List.nodup_append] at hn
      exact hn.2.2 _ z _ (by rw [List.map_cons, ← e]; exact List.mem_cons_self ..) rfl
    rw [List.foldlM_cons]
    simp only [e, put_new this, Option.bind_eq_bind, Option.bind_some]
    rw [dictOf_new ps (acc ++ [(p.1, p.2)]) hp.2 (by simpa using hn)]
    simp
theorem dictOf_ok {ps : List (PyData × PyData)} (h : keysOk ps) : dictOf ps = some ps := by
  exact dictOf_new ps [] h.1 (by simpa using h.2)
theorem pairsD_map {α : Type} (f g : α → PyData) : ∀ xs : List α, pairsD (xs.map fun x => .tuple [f x, g x]) = some (xs.map fun x => (f x, g x))
  | [] => rfl
  | x :: xs => by rw [List.map_cons]; show (pairsD _).map _ = _; rw [pairsD_map f g xs]; rfl
end PP

/-! PP23: a value is the same as itself: _law_same. -/
namespace PP
open PySem PySem.Spec PyProof.Rows L2
/-- Same: slots 0 seen 1 due 2 waiting 3 one 4 other 5 keys 6 key 7 k -/
def eSame_0 : E :=
 .tup (.cons (.ix (.var 3) (.var 6)) (.cons (.ix (.var 4) (.var 6)) (.nil)))
def eSame_1 : E :=
 .tup (.cons (.ix (.var 5) (.var 6)) (.cons (.var 6) (.nil)))
def eSame_2 : E :=
 .tup (.cons (.var 6) (.cons (.var 6) (.nil)))
def cSame_3 : E :=
 .cmp .NotIn (.var 6) (.var 3)
def eSame_4 : E :=
 .tup (.cons (.ix (.var 3) (.var 7)) (.cons (.ix (.var 4) (.var 7)) (.nil)))
def cSame_5 : E :=
 .cmp .NotEq (.var 2) (.lst (.nil))
def bSame_6 : Ss :=
 .cons (.pop (.tp [.nm 3, .nm 4]) 2)
 (.cons (.ifs (.bi (.isI "dict") (.cons (.var 4) (.nil))) (.cons (.ifs (.bop .Or (.un .Not (.bi (.isI "dict") (.cons (.var 3) (.nil)))) (.bop .Or (.cmp .NotEq (.bi .len (.cons (.var 3) (.nil))) (.bi .len (.cons (.var 4) (.nil)))) (.cmp .NotEq (.comp [6] (.nm 6) (.dk 4) (cSame_3) (.var 6)) (.lst (.nil))))) (.cons (.ret (.bl false))
 (.nil)) (.nil))
 (.cons (.asg 5 (.bi .dict (.cons (.comp [6] (.nm 6) (.dk 3) (.bl true) (eSame_2)) (.nil))))
 (.cons (.frz [5])
 (.cons (.mut "extend" 2 (.bin .Add (.comp [6] (.nm 6) (.dk 4) (.bl true) (eSame_0)) (.comp [6] (.nm 6) (.dk 4) (.bl true) (eSame_1))))
 (.nil))))) (.cons (.ifs (.bop .Or (.bi (.isI "tuple") (.cons (.var 4) (.nil))) (.bi (.isI "list") (.cons (.var 4) (.nil)))) (.cons (.ifs (.bop .Or (.cmp .NotEq (.bi (.isI "tuple") (.cons (.var 3) (.nil))) (.bi (.isI "tuple") (.cons (.var 4) (.nil)))) (.bop .Or (.cmp .NotEq (.bi (.isI "list") (.cons (.var 3) (.nil))) (.bi (.isI "list") (.cons (.var 4) (.nil)))) (.cmp .NotEq (.bi .len (.cons (.var 3) (.nil))) (.bi .len (.cons (.var 4) (.nil)))))) (.cons (.ret (.bl false))
 (.nil)) (.nil))
 (.cons (.mut "extend" 2 (.comp [7] (.nm 7) (.rng (.cons (.bi .len (.cons (.var 4) (.nil))) (.nil))) (.bl true) (eSame_4)))
 (.nil))) (.cons (.ifs (.bop .Or (.cmp .NotEq (.bi (.isI "bool") (.cons (.var 3) (.nil))) (.bi (.isI "bool") (.cons (.var 4) (.nil)))) (.bop .Or (.cmp .NotEq (.bi (.isI "int") (.cons (.var 3) (.nil))) (.bi (.isI "int") (.cons (.var 4) (.nil)))) (.bop .Or (.cmp .NotEq (.bi (.isI "str") (.cons (.var 3) (.nil))) (.bi (.isI "str") (.cons (.var 4) (.nil)))) (.cmp .NotEq (.var 3) (.var 4))))) (.cons (.ret (.bl false))
 (.nil)) (.nil))
 (.nil)))
 (.nil)))
 (.nil))
def bSame : Ss :=
 .cons (.asg 2 (.lst (.cons (.tup (.cons (.var 0) (.cons (.var 1) (.nil)))) (.nil))))
 (.cons (.whil (cSame_5) (bSame_6) [3, 4, 5])
 (.cons (.ret (.bl true))
 (.nil)))
mutual
/-- dicts with plain keys that differ -/
def sOk : PyData → Prop
  | .list xs | .tuple xs => sOkAll xs
  | .dict kvs => keysOk kvs ∧ sOkKv kvs
  | _ => True
def sOkAll : List PyData → Prop
  | [] => True
  | x :: xs => sOk x ∧ sOkAll xs
def sOkKv : List (PyData × PyData) → Prop
  | [] => True
  | p :: kvs => sOk p.1 ∧ sOk p.2 ∧ sOkKv kvs
end
mutual
def nodes : PyData → Nat
  | .list xs | .tuple xs => nodesAll xs + 1
  | .dict kvs => nodesKv kvs + 1
  | _ => 1
def nodesAll : List PyData → Nat
  | [] => 0
  | x :: xs => nodes x + nodesAll xs
def nodesKv : List (PyData × PyData) → Nat
  | [] => 0
  | p :: kvs => nodes p.1 + nodes p.2 + nodesKv kvs
end
theorem sOkAll_iff : ∀ {xs : List PyData}, sOkAll xs ↔ ∀ x, x ∈ xs → sOk x
  | [] => by simp [sOkAll]
  | x :: xs => by simp [sOkAll, sOkAll_iff (xs := xs)]
theorem sOkKv_iff : ∀ {kvs : List (PyData × PyData)}, sOkKv kvs ↔ ∀ p, p ∈ kvs → sOk p.1 ∧ sOk p.2
  | [] => by simp [sOkKv]
  | p :: kvs => by simp [sOkKv, sOkKv_iff (kvs := kvs), and_assoc]
theorem nodesAll_app : ∀ (xs ys : List PyData), nodesAll (xs ++ ys) = nodesAll xs + nodesAll ys
  | [], ys => by simp [nodesAll]
  | x :: xs, ys => by simp [nodesAll, nodesAll_app xs ys, Nat.add_assoc]
theorem nodes_pos : ∀ d : PyData, 1 ≤ nodes d
  | .list _ | .tuple _ | .dict _ | .none | .bool _ | .int _ | .str _ => by simp [nodes]
theorem length_nodes : ∀ xs : List PyData, xs.length ≤ nodesAll xs
  | [] => Nat.zero_le _
  | x :: xs => by have := length_nodes xs; have := nodes_pos x; simp [nodesAll]; omega
theorem nodesKv_eq : ∀ kvs : List (PyData × PyData), nodesKv kvs = nodesAll (kvs.map (·.2)) + nodesAll (kvs.map (·.1))
  | [] => rfl
  | p :: kvs => by simp [nodesAll, nodesKv, nodesKv_eq kvs]; omega
def kids : PyData → List PyData
  | .list xs | .tuple xs => xs
  | .dict kvs => kvs.map (·.2) ++ kvs.map (·.1)
  | _ => []
theorem kids_nodes (d : PyData) : nodesAll (kids d) + 1 = nodes d := by
  cases d <;> simp [kids, nodes, nodesAll, nodesAll_app, nodesKv_eq]
theorem kids_ok {d : PyData} (h : sOk d) : ∀ x, x ∈ kids d → sOk x := by
  cases d with
  | list xs => exact sOkAll_iff.mp h
  | tuple xs => exact sOkAll_iff.mp h
  | dict kvs =>
    intro x hx
    have h2 := sOkKv_iff.mp (show sOkKv kvs from h.2)
    simp only [kids, List.mem_append, List.mem_map] at hx
    rcases hx with ⟨p, hp, rfl⟩ | ⟨p, hp, rfl⟩
    · exact (h2 p hp).2
    · exact (h2 p hp).1
  | _ => intro x hx; cases hx
def dbl (d : PyData) : PyData := .tuple [d, d]
abbrev smE (s d : PyData) (ws : List PyData) (x y z : Sl) : PEnv := [.fz s, .fz d, .ow (.list (ws.map dbl)), x, y, z, .no, .no]
section
variable {Φ : Nat → List PyData → Option (PyData × List PyData)} {gl : List PyData}
theorem same_test (s d : PyData) (ws : List PyData) (x y z : Sl) : evT Φ gl cSame_5 (smE s d ws x y z) = some (!ws.isEmpty, smE s d ws x y z) := by
  cases ws <;> simp [cSame_5, als, mods, alss, modss]
@[simp] theorem al_0 : als eSame_0 = [3, 6, 4, 6] := rfl
@[simp] theorem al_1 : als eSame_1 = [5, 6, 6] := rfl
@[simp] theorem al_2 : als eSame_2 = [6, 6] := rfl
@[simp] theorem al_3 : als cSame_3 = [6, 3] := rfl
@[simp] theorem al_4 : als eSame_4 = [3, 7, 4, 7] := rfl
@[simp] theorem mo_0 : mods eSame_0 = [] := rfl
@[simp] theorem mo_1 : mods eSame_1 = [] := rfl
@[simp] theorem mo_2 : mods eSame_2 = [] := rfl
@[simp] theorem mo_3 : mods cSame_3 = [] := rfl
@[simp] theorem mo_4 : mods eSame_4 = [] := rfl
theorem same_hc (xs : List PyData) (h2 : xs.length ≤ sizeLine) (w x y z : Sl) (d : PyData) (hd : d = .tuple xs ∨ d = .list xs) : compE Φ gl [7] (.nm 7) (.bl true) eSame_4 (iidx 0 xs.length) [] [w, x, y, .fz d, .fz d, z, .no, .no] = some (xs.map dbl, [w, x, y, .fz d, .fz d, z, .no, .no]) := by
  rw [iidx_zip xs 0]
  refine (compA (fun p : PyData × Nat => PyData.int (0 + (p.2 : Nat))) (fun p => dbl p.1) (fun p => [w, x, y, .fz d, .fz d, z, .no, .fz (.int (0 + (p.2 : Nat)))]) .sh xs.zipIdx (fun p hp => by simp) (fun p hp => ?_) (fun p hp => by simp) (by rw [List.length_zipIdx]; exact h2)).trans ?_
  · have hg := zipIdx_at hp
    have h2 : (2 : Nat) ≤ sizeLine := by decide
    rcases hd with rfl | rfl <;> simp [eSame_4, hg, dbl, h2]
  · congr 2
    show xs.zipIdx.map (dbl ∘ Prod.fst) = _
    rw [← List.map_map, List.zipIdx_map_fst]
theorem same_tup (s d : PyData) (ws xs : List PyData) (h1 : ws.length + xs.length ≤ sizeLine) (h2 : xs.length ≤ sizeLine) (h3 : xs.length < 4611686018427387904) : runs Φ gl [] bSame_6 (smE s d (ws ++ [.tuple xs]) .no .no .no) = some (.nx (smE s d (ws ++ xs) (.fz (.tuple xs)) (.fz (.tuple xs)) .no)) := by
  have hc := same_hc (Φ := Φ) (gl := gl) xs h2
  simp [bSame_6, als, mods, alss, modss, alsI, modsI, dbl, isT, rngD_n h3, hc, h1]
theorem same_lst (s d : PyData) (ws xs : List PyData) (h1 : ws.length + xs.length ≤ sizeLine) (h2 : xs.length ≤ sizeLine) (h3 : xs.length < 4611686018427387904) : runs Φ gl [] bSame_6 (smE s d (ws ++ [.list xs]) .no .no .no) = some (.nx (smE s d (ws ++ xs) (.fz (.list xs)) (.fz (.list xs)) .no)) := by
  have hc := same_hc (Φ := Φ) (gl := gl) xs h2
  simp [bSame_6, als, mods, alss, modss, alsI, modsI, dbl, isT, rngD_n h3, hc, h1]
theorem inV_key {kvs : List (PyData × PyData)} (h : keysOk kvs) {p : PyData × PyData} (hp : p ∈ kvs) : inV p.1 (.dict kvs) = some true := by
  obtain ⟨k, e⟩ := dkey_plain (List.all_eq_true.mp h.1 p hp)
  have : inV p.1 (.dict kvs) = (match dkey p.1 with | some k => if dfits kvs k then some (dhas kvs k) else none | none => none) := by cases p.1 <;> rfl
  rw [this, e]
  simp only [fits_plain h.1, if_true, has_mem hp e]
theorem ixV_key {kvs : List (PyData × PyData)} (h : keysOk kvs) {p : PyData × PyData} (hp : p ∈ kvs) : ixV (.dict kvs) p.1 = some p.2 := by
  obtain ⟨k, e⟩ := dkey_plain (List.all_eq_true.mp h.1 p hp)
  show (match dkey p.1 with | some k => if dfits kvs k then dlook kvs k else none | none => none) = _
  rw [e]
  simp only [fits_plain h.1, if_true, look_mem h.2 hp e]
theorem keysOk_twice {kvs : List (PyData × PyData)} (h : keysOk kvs) : keysOk (kvs.map fun p => (p.1, p.1)) := by
  refine ⟨?_, ?_⟩
  · rw [List.all_map]; exact h.1
  · rw [List.map_map]; exact h.2
theorem same_dict (s d : PyData) (ws : List PyData) (kvs : List (PyData × PyData)) (hk : keysOk kvs) (hl : ws.length + (kvs.length + kvs.length) ≤ 1000000) : ∃ ρ2, runs Φ gl [] bSame_6 (smE s d (ws ++ [.dict kvs]) .no .no .no) = some (.nx ρ2) ∧ wipeP ρ2 [3, 4, 5] = smE s d (ws ++ (kvs.map (·.2) ++ kvs.map (·.1))) .no .no .no := by
  have h1 : ws.length + (kvs.length + kvs.length) ≤ sizeLine := by unfold sizeLine; omega
  have h2 : kvs.length ≤ sizeLine := by omega
  have h3 : kvs.length + kvs.length ≤ sizeLine := by omega
  have h4 : (2 : Nat) ≤ sizeLine := by decide
  have c3 : ∀ (w x y z : Sl), compE Φ gl [6] (.nm 6) cSame_3 (.var 6) (kvs.map (·.1)) [] [w, x, y, .fz (.dict kvs), .fz (.dict kvs), z, .no, .no] = some ([], [w, x, y, .fz (.dict kvs), .fz (.dict kvs), z, .no, .no]) := by
    intro w x y z
    refine (compR (fun p : PyData × PyData => p.1) (fun _ => false) (fun p => p.1) (fun p => [w, x, y, .fz (.dict kvs), .fz (.dict kvs), z, .fz p.1, .no]) .sh kvs (fun p hp => by simp) (fun p hp => ?_) (fun p hp h => by cases h) (fun p hp => by simp) h2).trans ?_
    · simp [cSame_3, inV_key hk hp]
    · rw [List.filter_eq_nil_iff.mpr (by simp)]; rfl
  have c2 : ∀ (w x y z : Sl), compE Φ gl [6] (.nm 6) (.bl true) eSame_2 (kvs.map (·.1)) [] [w, x, y, .fz (.dict kvs), .fz (.dict kvs), z, .no, .no] = some (kvs.map fun p => .tuple [p.1, p.1], [w, x, y, .fz (.dict kvs), .fz (.dict kvs), z, .no, .no]) := by
    intro w x y z
    refine compA (fun p : PyData × PyData => p.1) (fun p => .tuple [p.1, p.1]) (fun p => [w, x, y, .fz (.dict kvs), .fz (.dict kvs), z, .fz p.1, .no]) .sh kvs (fun p hp => by simp) (fun p hp => ?_) (fun p hp => by simp) h2
    simp [eSame_2, h4]
  have c0 : ∀ (w x y z : Sl), compE Φ gl [6] (.nm 6) (.bl true) eSame_0 (kvs.map (·.1)) [] [w, x, y, .fz (.dict kvs), .fz (.dict kvs), z, .no, .no] = some (kvs.map fun p => .tuple [p.2, p.2], [w, x, y, .fz (.dict kvs), .fz (.dict kvs), z, .no, .no]) := by
    intro w x y z
    refine compA (fun p : PyData × PyData => p.1) (fun p => .tuple [p.2, p.2]) (fun p => [w, x, y, .fz (.dict kvs), .fz (.dict kvs), z, .fz p.1, .no]) .sh kvs (fun p hp => by simp) (fun p hp => ?_) (fun p hp => by simp) h2
    simp [eSame_0, h4, ixV_key hk hp]
  have c1 : ∀ (w x y u v : Sl), compE Φ gl [6] (.nm 6) (.bl true) eSame_1 (kvs.map (·.1)) [] [w, x, y, u, v, .fz (.dict (kvs.map fun p => (p.1, p.1))), .no, .no] = some (kvs.map fun p => .tuple [p.1, p.1], [w, x, y, u, v, .fz (.dict (kvs.map fun p => (p.1, p.1))), .no, .no]) := by
    intro w x y u v
    refine compA (fun p : PyData × PyData => p.1) (fun p => .tuple [p.1, p.1]) (fun p => [w, x, y, u, v, .fz (.dict (kvs.map fun p => (p.1, p.1))), .fz p.1, .no]) .sh kvs (fun p hp => by simp) (fun p hp => ?_) (fun p hp => by simp) h2
    have : ixV (.dict (kvs.map fun p => (p.1, p.1))) p.1 = some p.1 := ixV_key (keysOk_twice hk) (p := (p.1, p.1)) (List.mem_map.mpr ⟨p, hp, rfl⟩)
    simp [eSame_1, h4, this]
  have cd : v_dict [.list (kvs.map fun p => .tuple [p.1, p.1])] = some (.dict (kvs.map fun p => (p.1, p.1)), .fr) := by
    simp only [v_dict, pairsD_map, Option.bind_eq_bind, Option.bind_some, dictOf_ok (keysOk_twice hk)]
    rfl
  refine ⟨smE s d (ws ++ (kvs.map (·.2) ++ kvs.map (·.1))) (.fz (.dict kvs)) (.fz (.dict kvs)) (.fz (.dict (kvs.map fun p => (p.1, p.1)))), ?_, by simp⟩
  have e2 : (fun p : PyData × PyData => PyData.tuple [p.2, p.2]) = dbl ∘ (·.2) := rfl
  have e1 : (fun p : PyData × PyData => PyData.tuple [p.1, p.1]) = dbl ∘ (·.1) := rfl
  simp [bSame_6, als, mods, alss, modss, alsI, modsI, dbl, isT, okM_walk, notDict, lkM, c0, c1, c2, c3, cd, h1, h2, h3]
  rfl
theorem same_atom (s d : PyData) (ws : List PyData) (x : PyData) (hx : kids x = []) (hd : ∀ kvs, x ≠ .dict kvs) (ht : ∀ xs, x ≠ .tuple xs) (hl : ∀ xs, x ≠ .list xs) : runs Φ gl [] bSame_6 (smE s d (ws ++ [x]) .no .no .no) = some (.nx (smE s d ws (.fz x) (.fz x) .no)) := by
  cases x with
  | dict kvs => exact absurd rfl (hd _)
  | tuple kvs => exact absurd rfl (ht _)
  | list kvs => exact absurd rfl (hl _)
  | none => simp [bSame_6, als, mods, alss, modss, alsI, modsI, dbl, isT, cmpV, eqV]
  | bool b => simp [bSame_6, als, mods, alss, modss, alsI, modsI, dbl, isT]
  | int b => simp [bSame_6, als, mods, alss, modss, alsI, modsI, dbl, isT]
  | str b => simp [bSame_6, als, mods, alss, modss, alsI, modsI, dbl, isT]
theorem kOk_of {d : PyData} {kvs : List (PyData × PyData)} (h : sOk d) (e : d = .dict kvs) : keysOk kvs := by subst e; exact h.1
theorem same_step (s d : PyData) (ws : List PyData) (x : PyData) (h : sOk x) (hl : nodesAll ws + nodes x ≤ 1000000) : ∃ ρ2, runs Φ gl [] bSame_6 (smE s d (ws ++ [x]) .no .no .no) = some (.nx ρ2) ∧ wipeP ρ2 [3, 4, 5] = smE s d (ws ++ kids x) .no .no .no := by
  have hn := kids_nodes x
  have l1 := length_nodes ws
  have l2 := length_nodes (kids x)
  have hz : (1000000 : Nat) ≤ sizeLine := by decide
  cases x with
  | dict kvs =>
    have l3 : (kids (.dict kvs)).length = kvs.length + kvs.length := by simp [kids]
    exact same_dict s d ws kvs h.1 (by omega)
  | tuple xs =>
    have l3 : (kids (.tuple xs)).length = xs.length := rfl
    exact ⟨_, same_tup s d ws xs (by omega) (by omega) (by omega), by simp [kids]⟩
  | list xs =>
    have l3 : (kids (.list xs)).length = xs.length := rfl
    exact ⟨_, same_lst s d ws xs (by omega) (by omega) (by omega), by simp [kids]⟩
  | none => exact ⟨_, same_atom s d ws _ rfl nofun nofun nofun, by simp [kids]⟩
  | bool b => exact ⟨_, same_atom s d ws _ rfl nofun nofun nofun, by simp [kids]⟩
  | int b => exact ⟨_, same_atom s d ws _ rfl nofun nofun nofun, by simp [kids]⟩
  | str b => exact ⟨_, same_atom s d ws _ rfl nofun nofun nofun, by simp [kids]⟩
theorem same_loop (s d : PyData) : ∀ (m : Nat) (ws : List PyData) (ρ : PEnv), nodesAll ws < m → nodesAll ws ≤ 1000000 → (∀ x, x ∈ ws → sOk x) → wipeP ρ [3, 4, 5] = smE s d ws .no .no .no → whileE Φ gl [] cSame_5 bSame_6 [3, 4, 5] m ρ = some (.nx (smE s d [] .no .no .no))
  | 0, _, _, h, _, _, _ => absurd h (Nat.not_lt_zero _)
  | m + 1, ws, ρ, h, hl, ho, hw => by
    unfold whileE
    simp only [whileL, hw, same_test, Option.bind_eq_bind, Option.bind_some]
    rcases List.eq_nil_or_concat ws with e | ⟨ini, x, e⟩
    · subst e
      rfl
    · rw [List.concat_eq_append] at e
      subst e
      have hx : (!(ini ++ [x]).isEmpty) = true := by cases ini <;> rfl
      have ha : nodesAll (ini ++ [x]) = nodesAll ini + nodes x := by rw [nodesAll_app]; simp [nodesAll]
      have hk := kids_nodes x
      have hk2 : nodesAll (ini ++ kids x) = nodesAll ini + nodesAll (kids x) := nodesAll_app _ _
      obtain ⟨ρ2, h1, h2⟩ := same_step (Φ := Φ) (gl := gl) s d ini x (ho x (by simp)) (by omega)
      simp only [hx, h1, Option.bind_some]
      refine same_loop s d m (ini ++ kids x) ρ2 (by omega) (by omega) (fun y hy => ?_) h2
      rcases List.mem_append.mp hy with hy | hy
      · exact ho y (by simp [hy])
      · exact kids_ok (ho x (by simp)) y hy
/-- a value is the same as itself -/
theorem same_ok {d : PyData} (h : sOk d) (hn : nodes d < 1000000) : (runs Φ gl [] bSame [.fz d, .fz d, .no, .no, .no, .no, .no, .no]).bind (endOf []) = some (.bool true, []) := by
  have h2 : (2 : Nat) ≤ sizeLine := by decide
  have h1 : (1 : Nat) ≤ sizeLine := by decide
  unfold bSame
  rw [runs_step (ρ1 := smE d d [d] .no .no .no) (by simp [als, alss, mods, modss, h1, h2, dbl])]
  rw [runs_step (ρ1 := smE d d [] .no .no .no) (by rw [run_whil]; exact same_loop d d 1000000 [d] _ (by simpa [nodesAll] using hn) (by simp [nodesAll]; omega) (by simpa using h) (by simp))]
  simp [als, mods]
end
end PP

/-! PP24: comprehensions and walks that draw. -/
namespace PP
open PySem PySem.Spec PyProof.Rows L2
section
variable {Φ : Nat → List PyData → Option (PyData × List PyData)} {gl : List PyData} {ios : List Nat}
theorem compX {vs : List Nat} {g : G} {e : E} (I : PEnv → Prop) (P : PyData → Prop) : ∀ (ds acc : List PyData) (ρ : PEnv), I ρ → (∀ ρ d, I ρ → d ∈ ds → ∃ ρ1 v fl ρ2, asgG g d ρ = some ρ1 ∧ ev Φ gl e ρ1 = some (v, fl, ρ2) ∧ P v ∧ I (wipeP ρ2 vs)) → acc.length + ds.length ≤ sizeLine →
    ∃ out ρ', compE Φ gl vs g (.bl true) e ds acc ρ = some (acc ++ out, ρ') ∧ I ρ' ∧ out.length = ds.length ∧ ∀ v, v ∈ out → P v
  | [], acc, ρ, h, _, _ => ⟨[], ρ, by simp [compE, compL, compL2], h, rfl, nofun⟩
  | d :: ds, acc, ρ, h, hs, hl => by
    obtain ⟨ρ1, v, fl, ρ2, h1, h2, h3, h4⟩ := hs ρ d h (List.mem_cons_self ..)
    obtain ⟨out, ρ', e1, e2, e3, e4⟩ := compX (vs := vs) (g := g) (e := e) I P ds (acc ++ [v]) (wipeP ρ2 vs) h4 (fun ρ d hi hd => hs ρ d hi (List.mem_cons_of_mem _ hd)) (by simp at hl ⊢; omega)
    refine ⟨v :: out, ρ', ?_, e2, by simp [e3], fun x hx => ?_⟩
    · have : acc.length < sizeLine := by simp at hl; omega
      unfold compE compL at e1 ⊢
      simp only [ev_bl] at e1
      simp only [compL2, h1, ev_bl, addV, h2, Option.bind_eq_bind, Option.bind_some, if_pos this]
      rw [e1, List.append_assoc]
      rfl
    · rcases List.mem_cons.mp hx with rfl | hx
      · exact h3
      · exact e4 x hx
/-- a walk under a word that stays, or that ends in a return that is as wanted -/
theorem forE_inv {g : G} {b : Ss} {dead : List Nat} (I : PEnv → Prop) : ∀ (ds : List PyData) (ρ : PEnv), I (wipeP ρ dead) → (∀ ρ d, d ∈ ds → I ρ → ∃ ρ1 ρ2, asgG g d ρ = some ρ1 ∧ runs Φ gl ios b ρ1 = some (.nx ρ2) ∧ I (wipeP ρ2 dead)) → ∃ ρ', forE Φ gl ios g b dead ds ρ = some (.nx ρ') ∧ I ρ' := fun ds ρ h hs => forL_inv I ds ρ h hs
end
theorem map_of {α : Type} (f : α → PyData) (P : α → Prop) : ∀ {xs : List PyData}, (∀ v, v ∈ xs → ∃ a, v = f a ∧ P a) → ∃ as : List α, xs = as.map f ∧ ∀ a, a ∈ as → P a
  | [], _ => ⟨[], rfl, nofun⟩
  | x :: xs, h => by
    obtain ⟨a, rfl, ha⟩ := h x (List.mem_cons_self ..)
    obtain ⟨as, rfl, hs⟩ := map_of f P (xs := xs) fun v hv => h v (List.mem_cons_of_mem _ hv)
    refine ⟨a :: as, rfl, fun b hb => ?_⟩
    rcases List.mem_cons.mp hb with rfl | hb
    · exact ha
    · exact hs b hb
end PP

namespace PP
open PySem PySem.Spec PyProof.Rows L2
/-! PP25: dicts from keys to values, as lists of pairs. -/
class Key (κ : Type) where
  enc : κ → PyData
  dk : κ → DK
  ok : ∀ k, dkey (enc k) = some (dk k)
  inj : ∀ {a b}, dk a = dk b → a = b
  side : ∀ a b, (dk a).isLeft = (dk b).isLeft
  imm : ∀ k, immD (enc k) = true
instance : Key Int := ⟨.int, fun k => .inl (.inl k), fun _ => rfl, fun h => by cases h; rfl, fun _ _ => rfl, fun _ => by simp⟩
instance : Key Str := ⟨.str, fun k => .inl (.inr k), fun _ => rfl, fun h => by cases h; rfl, fun _ _ => rfl, fun _ => by simp⟩
instance : Key (Int × Int) := ⟨fun k => .tuple [.int k.1, .int k.2], fun k => .inr [.inl k.1, .inl k.2], fun _ => rfl, fun {a b} h => by obtain ⟨a1, a2⟩ := a; obtain ⟨b1, b2⟩ := b; cases h; rfl, fun _ _ => rfl, fun _ => by simp⟩
instance : Key (Int × Int × Int) := ⟨fun k => .tuple [.int k.1, .int k.2.1, .int k.2.2], fun k => .inr [.inl k.1, .inl k.2.1, .inl k.2.2], fun _ => rfl, fun {a b} h => by obtain ⟨a1, a2, a3⟩ := a; obtain ⟨b1, b2, b3⟩ := b; cases h; rfl, fun _ _ => rfl, fun _ => by simp⟩
instance : Key (Str × Str) := ⟨fun k => .tuple [.str k.1, .str k.2], fun k => .inr [.inr k.1, .inr k.2], fun _ => rfl, fun {a b} h => by obtain ⟨a1, a2⟩ := a; obtain ⟨b1, b2⟩ := b; cases h; rfl, fun _ _ => rfl, fun _ => by simp⟩
theorem keysD_ints : ∀ l : List Int, keysD (l.map .int) = some (l.map .inl)
  | [] => rfl
  | x :: l => by rw [List.map_cons]; simp [keysD, keyD, keysD_ints l]
instance : Key (List Int) := ⟨fun l => .tuple (l.map .int), fun l => .inr (l.map .inl), fun l => by simp [dkey, keysD_ints], fun {a b} h => by
  have h : a.map (Sum.inl : Int → Sum Int Str) = b.map Sum.inl := Sum.inr.inj h
  exact (List.map_inj_right (fun x y e => Sum.inl.inj e)).mp h, fun _ _ => rfl, fun _ => by simp⟩
section
variable {κ β : Type} [DecidableEq κ]
def putA (xs : List (κ × β)) (k : κ) (v : β) : List (κ × β) := if xs.any fun p => p.1 = k then xs.map fun p => if p.1 = k then (p.1, v) else p else xs ++ [(k, v)]
def getA (xs : List (κ × β)) (k : κ) : Option β := (xs.find? fun p => p.1 = k).map (·.2)
def hasA (xs : List (κ × β)) (k : κ) : Bool := xs.any fun p => p.1 = k
theorem putA_len (xs : List (κ × β)) (k : κ) (v : β) : (putA xs k v).length ≤ xs.length + 1 := by
  unfold putA
  split <;> simp
theorem getA_cons (p : κ × β) (xs : List (κ × β)) (k : κ) : getA (p :: xs) k = if p.1 = k then some p.2 else getA xs k := by
  unfold getA
  by_cases h : p.1 = k
  · simp [h]
  · rw [List.find?_cons_of_neg (by simp [h]), if_neg h]
theorem hasA_get : ∀ (xs : List (κ × β)) (k : κ), hasA xs k = (getA xs k).isSome
  | [], _ => rfl
  | p :: xs, k => by
    rw [getA_cons]
    unfold hasA
    rw [List.any_cons]
    have := hasA_get xs k
    unfold hasA at this
    rw [this]
    by_cases h : p.1 = k <;> simp [h]
theorem getA_app (xs : List (κ × β)) (q : κ × β) (k : κ) : getA (xs ++ [q]) k = (getA xs k).or (if q.1 = k then some q.2 else none) := by
  induction xs with
  | nil => rw [List.nil_append, getA_cons]; rfl
  | cons p xs ih => rw [List.cons_append, getA_cons, getA_cons, ih]; split <;> rfl
theorem getA_map (xs : List (κ × β)) (k : κ) (v : β) (k' : κ) : getA (xs.map fun p => if p.1 = k then (p.1, v) else p) k' = if k' = k then (getA xs k').map fun _ => v else getA xs k' := by
  induction xs with
  | nil => simp [getA]
  | cons p xs ih =>
    rw [List.map_cons, getA_cons, getA_cons, ih]
    by_cases h : p.1 = k
    · by_cases h2 : k' = k
      · subst h2; simp [h]
      · have h3 : ¬ k = k' := fun z => h2 z.symm
        simp [h, h2, h3]
    · by_cases h2 : k' = k
      · subst h2; simp [h]
      · simp [h, h2]
theorem getA_put (xs : List (κ × β)) (k : κ) (v : β) (k' : κ) : getA (putA xs k v) k' = if k' = k then some v else getA xs k' := by
  unfold putA
  have hh := hasA_get xs k
  unfold hasA at hh
  rw [hh]
  by_cases h : (getA xs k).isSome
  · rw [if_pos h, getA_map]
    by_cases h2 : k' = k
    · subst h2
      obtain ⟨w, e⟩ := Option.isSome_iff_exists.mp h
      simp [e]
    · simp [h2]
  · rw [if_neg h, getA_app]
    have : getA xs k = none := by simpa using h
    by_cases h2 : k' = k
    · subst h2; simp [this]
    · have h3 : ¬ k = k' := fun z => h2 z.symm
      simp [h2, h3]
theorem keys_put (xs : List (κ × β)) (k : κ) (v : β) : (putA xs k v).map (·.1) = if hasA xs k then xs.map (·.1) else xs.map (·.1) ++ [k] := by
  unfold putA hasA
  split
  · rw [List.map_map]
    apply List.map_congr_left
    intro p _
    by_cases h : p.1 = k <;> simp [h]
  · simp
theorem hasA_mem {xs : List (κ × β)} {k : κ} : hasA xs k = true ↔ k ∈ xs.map (·.1) := by
  unfold hasA
  simp
theorem nodup_put {xs : List (κ × β)} (k : κ) (v : β) (h : (xs.map (·.1)).Nodup) : ((putA xs k v).map (·.1)).Nodup := by
  rw [keys_put]
  split
  · exact h
  · rename_i hk
    rw [hasA_mem] at hk
    rw [List.nodup_append]
    refine ⟨h, by simp, fun a ha b hb => ?_⟩
    have : b = k := by simpa using hb
    subst this
    exact fun z => hk (z ▸ ha)
theorem putA_putA (xs : List (κ × β)) (k : κ) (v v' : β) : putA (putA xs k v) k v' = putA xs k v' := by
  have h1 : (putA xs k v).any (fun p => p.1 = k) = true := by
    have := hasA_get (putA xs k v) k
    rw [getA_put] at this
    simpa [hasA] using this
  have h2 : putA (putA xs k v) k v' = (putA xs k v).map fun p => if p.1 = k then (p.1, v') else p := by
    conv => lhs; rw [putA, if_pos h1]
  rw [h2]
  unfold putA
  split
  · rw [List.map_map]
    apply List.map_congr_left
    intro p _
    by_cases h : p.1 = k <;> simp [h]
  · rename_i h
    rw [List.map_append]
    have : xs.map (fun p => if p.1 = k then (p.1, v') else p) = xs := by
      conv => rhs; rw [← List.map_id xs]
      apply List.map_congr_left
      intro p hp
      by_cases h2 : p.1 = k
      · exact absurd (List.any_eq_true.mpr ⟨p, hp, by simpa using h2⟩) h
      · simp [h2]
    rw [this]
    simp
theorem getA_mem {xs : List (κ × β)} {k : κ} {v : β} (h : getA xs k = some v) : (k, v) ∈ xs := by
  unfold getA at h
  cases e : xs.find? (fun p => p.1 = k) with
  | none => rw [e] at h; cases h
  | some p =>
    rw [e] at h
    have h1 := List.find?_some e
    have h2 := List.mem_of_find?_eq_some e
    simp at h h1
    subst h; subst h1
    exact h2
theorem getA_of_mem : ∀ {xs : List (κ × β)} {k : κ} {v : β}, (xs.map (·.1)).Nodup → (k, v) ∈ xs → getA xs k = some v
  | p :: xs, k, v, hn, hm => by
    rw [getA_cons]
    rw [List.map_cons, List.nodup_cons] at hn
    rcases List.mem_cons.mp hm with rfl | hm
    · simp
    · have : p.1 ≠ k := fun z => hn.1 (by rw [z]; exact List.mem_map.mpr ⟨_, hm, rfl⟩)
      rw [if_neg this]
      exact getA_of_mem hn.2 hm
end
section
variable {κ β : Type} [DecidableEq κ] [Key κ]
abbrev ek (k : κ) : PyData := Key.enc k
def dA (f : β → PyData) (xs : List (κ × β)) : List (PyData × PyData) := xs.map fun p => (ek p.1, f p.2)
variable (f : β → PyData)
theorem dA_key {a k : κ} : (dkey (ek a) = some (Key.dk k)) ↔ a = k := by
  rw [ek, Key.ok]
  exact ⟨fun h => Key.inj (Option.some.inj h), fun h => by rw [h]⟩
theorem dA_has (xs : List (κ × β)) (k : κ) : dhas (dA f xs) (Key.dk k) = hasA xs k := by
  unfold dhas dA hasA
  rw [List.any_map]
  congr 1
  funext p
  simp only [Function.comp, dA_key]
theorem dA_fits (xs : List (κ × β)) (k : κ) : dfits (dA f xs) (Key.dk k) = true := by
  unfold dfits dA
  rw [List.all_map, List.all_eq_true]
  intro p _
  simp only [Function.comp, ek, Key.ok]
  have := Key.side p.1 k
  cases h1 : Key.dk p.1 <;> cases h2 : Key.dk k <;> simp [h1, h2] at this ⊢
theorem dA_look (k : κ) : ∀ xs : List (κ × β), dlook (dA f xs) (Key.dk k) = (getA xs k).map f
  | [] => rfl
  | p :: xs => by
    have ih := dA_look k xs
    rw [getA_cons]
    unfold dlook dA at ih ⊢
    rw [List.map_cons]
    by_cases h : p.1 = k
    · rw [List.find?_cons_of_pos (by simpa [dA_key] using h)]; simp [h]
    · rw [List.find?_cons_of_neg (by simpa [dA_key] using h), if_neg h]
      exact ih
theorem dA_put (xs : List (κ × β)) (k : κ) (v : β) : dput (dA f xs) (Key.dk k) (ek k) (f v) = dA f (putA xs k v) := by
  unfold dput putA
  rw [dA_has]
  unfold hasA
  split
  · unfold dA
    rw [List.map_map, List.map_map]
    apply List.map_congr_left
    intro p _
    by_cases h : p.1 = k
    · simp [h, dA_key]
    · simp [h, dA_key]
  · simp [dA]
theorem dA_get3 (xs : List (κ × β)) (k : κ) (d : PyData) : v_get [.dict (dA f xs), ek k, d] = some (((getA xs k).map f).getD d, .sh) := by
  simp only [v_get, ek, Key.ok, Option.bind_eq_bind, Option.bind_some, dA_fits, if_true, dA_look]
theorem dA_get2 (xs : List (κ × β)) (k : κ) : v_get [.dict (dA f xs), ek k] = some (((getA xs k).map f).getD .none, .sh) := by
  simp only [v_get, ek, Key.ok, Option.bind_eq_bind, Option.bind_some, dA_fits, if_true, dA_look]
theorem dA_set (xs : List (κ × β)) (k : κ) (v : β) (h : xs.length < sizeLine) : setV (.dict (dA f xs)) (ek k) (f v) = some (.dict (dA f (putA xs k v))) := by
  have hl : (dA f xs).length < sizeLine := by simpa [dA] using h
  simp only [setV, ek, Key.ok, Option.bind_eq_bind, Option.bind_some, dA_fits, hl, decide_true, Bool.and_self, if_true]
  rw [← dA_put]
theorem dA_ix (xs : List (κ × β)) (k : κ) : ixV (.dict (dA f xs)) (ek k) = (getA xs k).map f := by
  show (match dkey (ek k) with | some kk => if dfits (dA f xs) kk then dlook (dA f xs) kk else none | none => none) = _
  rw [ek, Key.ok]
  simp only [dA_fits, if_true, dA_look]
theorem dA_in (xs : List (κ × β)) (k : κ) : inV (ek k) (.dict (dA f xs)) = some (hasA xs k) := by
  have : inV (ek k) (.dict (dA f xs)) = (match dkey (ek k) with | some k => if dfits (dA f xs) k then some (dhas (dA f xs) k) else none | none => none) := by cases ek k <;> rfl
  rw [this, ek, Key.ok]
  simp only [dA_fits, if_true, dA_has]
theorem dA_len (xs : List (κ × β)) : (dA f xs).length = xs.length := by simp [dA]
theorem dA_keys (xs : List (κ × β)) : (dA f xs).map (·.1) = (xs.map (·.1)).map ek := by simp [dA]
/-- dict([..]) of pairs -/
theorem dictOf_A (hs : ∀ k : κ, (Key.dk k).isLeft = true) : ∀ (ps acc : List (κ × β)), ((dA f ps).foldlM (init := dA f acc) fun acc p => (do
  match dkey p.1 with
  | some (.inl k) => some (dput acc (.inl k) p.1 p.2)
  | _ => none : Option (List (PyData × PyData)))) = some (dA f (ps.foldl (fun m p => putA m p.1 p.2) acc))
  | [], acc => rfl
  | p :: ps, acc => by
    obtain ⟨k, e⟩ := Sum.isLeft_iff.mp (hs p.1)
    show ((_ :: dA f ps).foldlM _ _) = _
    rw [List.foldlM_cons]
    simp only [ek, Key.ok, e, Option.bind_eq_bind, Option.bind_some]
    rw [← e, show Key.enc p.1 = ek p.1 from rfl, dA_put]
    exact dictOf_A hs ps _
def mkA (ps : List (κ × β)) : List (κ × β) := ps.foldl (fun m p => putA m p.1 p.2) []
theorem v_dict_A (hs : ∀ k : κ, (Key.dk k).isLeft = true) (ps : List (κ × β)) : v_dict [.list (ps.map fun p => .tuple [ek p.1, f p.2])] = some (.dict (dA f (mkA ps)), .fr) := by
  have := dictOf_A f hs ps []
  simp only [v_dict, pairsD_map, Option.bind_eq_bind, Option.bind_some]
  have h2 : dictOf (ps.map fun x => (ek x.1, f x.2)) = some (dA f (mkA ps)) := this
  rw [h2]; rfl
end
theorem mkA_keys {κ β : Type} [DecidableEq κ] : ∀ (ps acc : List (κ × β)), (acc.map (·.1)).Nodup → ((ps.foldl (fun m p => putA m p.1 p.2) acc).map (·.1)).Nodup
  | [], acc, h => h
  | p :: ps, acc, h => mkA_keys ps _ (nodup_put _ _ h)
theorem mkA_nodup {κ β : Type} [DecidableEq κ] (ps : List (κ × β)) : ((mkA ps).map (·.1)).Nodup := mkA_keys ps [] (by simp)
theorem mkA_mem {κ β : Type} [DecidableEq κ] (k : κ) : ∀ (ps acc : List (κ × β)), k ∈ (ps.foldl (fun m p => putA m p.1 p.2) acc).map (·.1) ↔ k ∈ acc.map (·.1) ∨ k ∈ ps.map (·.1)
  | [], acc => by simp
  | p :: ps, acc => by
    rw [List.foldl_cons, mkA_mem k ps, keys_put, List.map_cons, List.mem_cons]
    by_cases h : hasA acc p.1
    · rw [if_pos h]
      have := hasA_mem.mp h
      constructor
      · rintro (h1 | h1)
        · exact .inl h1
        · exact .inr (.inr h1)
      · rintro (h1 | rfl | h1)
        · exact .inl h1
        · exact .inl this
        · exact .inr h1
    · rw [if_neg h, List.mem_append, List.mem_singleton]
      constructor
      · rintro ((h1 | h1) | h1)
        · exact .inl h1
        · exact .inr (.inl h1)
        · exact .inr (.inr h1)
      · rintro (h1 | h1 | h1)
        · exact .inl (.inl h1)
        · exact .inl (.inr h1)
        · exact .inr h1
abbrev dI {β : Type} (f : β → PyData) (xs : List (Int × β)) : List (PyData × PyData) := dA f xs
abbrev putI {β : Type} (xs : List (Int × β)) (k : Int) (v : β) : List (Int × β) := putA xs k v
abbrev getI {β : Type} (xs : List (Int × β)) (k : Int) : Option β := getA xs k
section
variable {β : Type} (f : β → PyData)
theorem dI_get3 (xs : List (Int × β)) (k : Int) (d : PyData) : v_get [.dict (dI f xs), .int k, d] = some (((getI xs k).map f).getD d, .sh) := dA_get3 f xs k d
theorem dI_get2 (xs : List (Int × β)) (k : Int) : v_get [.dict (dI f xs), .int k] = some (((getI xs k).map f).getD .none, .sh) := dA_get2 f xs k
theorem dI_set (xs : List (Int × β)) (k : Int) (v : β) (h : xs.length < sizeLine) : setV (.dict (dI f xs)) (.int k) (f v) = some (.dict (dI f (putI xs k v))) := dA_set f xs k v h
theorem dI_ix (xs : List (Int × β)) (k : Int) : ixV (.dict (dI f xs)) (.int k) = (getI xs k).map f := dA_ix f xs k
theorem putI_len (xs : List (Int × β)) (k : Int) (v : β) : (putI xs k v).length ≤ xs.length + 1 := putA_len xs k v
end
end PP

namespace PP
open PySem PySem.Spec PyProof.Rows L2
/-! PP26: loops and comprehensions turn by turn. -/
section
variable {Φ : Nat → List PyData → Option (PyData × List PyData)} {gl : List PyData} {ios : List Nat} {g : G} {b : Ss} {dead : List Nat}
def runA (Φ : Nat → List PyData → Option (PyData × List PyData)) (gl : List PyData) (ios : List Nat) (b : Ss) : Option PEnv → Option Out
  | some ρ => runs Φ gl ios b ρ
  | none => none
@[simp] theorem runA_some {ρ : PEnv} : runA Φ gl ios b (some ρ) = runs Φ gl ios b ρ := id rfl
def endT (dead : List Nat) : Option Out → Option Out
  | some (.nx ρ) => some (.nx (wipeP ρ dead))
  | some (.bk ρ) => some (.bk (wipeP ρ dead))
  | o => o
@[simp] theorem endT_nx {ρ : PEnv} : endT dead (some (.nx ρ)) = some (.nx (wipeP ρ dead)) := id rfl
@[simp] theorem endT_bk {ρ : PEnv} : endT dead (some (.bk ρ)) = some (.bk (wipeP ρ dead)) := id rfl
@[simp] theorem endT_rt {d : PyData} {ρ : PEnv} : endT dead (some (.rt d ρ)) = some (.rt d ρ) := id rfl
/-- one turn of a walk -/
def turnE (Φ : Nat → List PyData → Option (PyData × List PyData)) (gl : List PyData) (ios : List Nat) (g : G) (b : Ss) (dead : List Nat) (d : PyData) (ρ : PEnv) : Option Out := endT dead (runA Φ gl ios b (asgG g d ρ))
@[simp] theorem turnE_eq {d : PyData} {ρ : PEnv} : turnE Φ gl ios g b dead d ρ = endT dead (runA Φ gl ios b (asgG g d ρ)) := id rfl
theorem turn_nx {d : PyData} {ρ ρ' : PEnv} (h : turnE Φ gl ios g b dead d ρ = some (.nx ρ')) : ∃ ρ1 ρ2, asgG g d ρ = some ρ1 ∧ runs Φ gl ios b ρ1 = some (.nx ρ2) ∧ wipeP ρ2 dead = ρ' := by
  unfold turnE at h
  cases e : asgG g d ρ with
  | none => rw [e] at h; cases h
  | some ρ1 =>
    rw [e] at h
    cases e2 : runs Φ gl ios b ρ1 with
    | none => simp [e2, endT] at h
    | some o =>
      rw [runA_some, e2] at h
      cases o with
      | nx ρ2 => simp at h; exact ⟨ρ1, ρ2, rfl, e2, h⟩
      | bk ρ2 => simp at h
      | rt d ρ2 => simp at h
theorem turn_rt {d v : PyData} {ρ ρ' : PEnv} (h : turnE Φ gl ios g b dead d ρ = some (.rt v ρ')) : ∃ ρ1, asgG g d ρ = some ρ1 ∧ runs Φ gl ios b ρ1 = some (.rt v ρ') := by
  unfold turnE at h
  cases e : asgG g d ρ with
  | none => rw [e] at h; cases h
  | some ρ1 =>
    rw [e] at h
    cases e2 : runs Φ gl ios b ρ1 with
    | none => simp [e2, endT] at h
    | some o =>
      rw [runA_some, e2] at h
      cases o with
      | nx ρ2 => simp at h
      | bk ρ2 => simp at h
      | rt d ρ2 => simp at h; obtain ⟨rfl, rfl⟩ := h; exact ⟨ρ1, rfl, e2⟩
theorem turn_bk {d : PyData} {ρ ρ' : PEnv} (h : turnE Φ gl ios g b dead d ρ = some (.bk ρ')) : ∃ ρ1 ρ2, asgG g d ρ = some ρ1 ∧ runs Φ gl ios b ρ1 = some (.bk ρ2) ∧ wipeP ρ2 dead = ρ' := by
  unfold turnE at h
  cases e : asgG g d ρ with
  | none => rw [e] at h; cases h
  | some ρ1 =>
    rw [e] at h
    cases e2 : runs Φ gl ios b ρ1 with
    | none => simp [e2, endT] at h
    | some o =>
      rw [runA_some, e2] at h
      cases o with
      | nx ρ2 => simp at h
      | bk ρ2 => simp at h; exact ⟨ρ1, ρ2, rfl, e2, h⟩
      | rt d ρ2 => simp at h
/-- a walk that folds a state, with a word that stays -/
theorem forE_foldW {σ α : Type} (E : σ → PEnv) (enc : α → PyData) (step : σ → α → σ) (I : σ → List α → Prop) (hs : ∀ s x xs, I s (x :: xs) → turnE Φ gl ios g b dead (enc x) (E s) = some (.nx (E (step s x))) ∧ I (step s x) xs) : ∀ (xs : List α) (s : σ) (ρ : PEnv), I s xs → wipeP ρ dead = E s → forE Φ gl ios g b dead (xs.map enc) ρ = some (.nx (E (xs.foldl step s)))
  | [], s, ρ, _, h => by rw [List.map_nil, loop_nil, h]; rfl
  | x :: xs, s, ρ, hi, h => by
    obtain ⟨h1, h2⟩ := hs s x xs hi
    obtain ⟨ρ1, ρ2, e1, e2, e3⟩ := turn_nx h1
    rw [List.map_cons]
    exact loop_cons ρ1 ρ2 (by rw [h]; exact e1) e2 (forE_foldW E enc step I hs xs _ ρ2 h2 e3)
theorem forE_fold {σ α : Type} (E : σ → PEnv) (enc : α → PyData) (step : σ → α → σ) (I : σ → List α → Prop) (xs : List α) (s : σ) (h : wipeP (E s) dead = E s) (hi : I s xs) (hs : ∀ s x xs, I s (x :: xs) → turnE Φ gl ios g b dead (enc x) (E s) = some (.nx (E (step s x))) ∧ I (step s x) xs) : forE Φ gl ios g b dead (xs.map enc) (E s) = some (.nx (E (xs.foldl step s))) := forE_foldW E enc step I hs xs s _ hi h
/-- a walk that looks for something and returns it -/
theorem forE_find {α : Type} (ρ : PEnv) (enc : α → PyData) (p : α → Option PyData) : ∀ (xs : List α), wipeP ρ dead = ρ → (∀ x, x ∈ xs → p x = none → turnE Φ gl ios g b dead (enc x) ρ = some (.nx ρ)) → (∀ x v, x ∈ xs → p x = some v → ∃ ρ', turnE Φ gl ios g b dead (enc x) ρ = some (.rt v ρ')) → ∀ ρ0, wipeP ρ0 dead = ρ → (match xs.findSome? p with | none => forE Φ gl ios g b dead (xs.map enc) ρ0 = some (.nx ρ) | some v => ∃ ρ', forE Φ gl ios g b dead (xs.map enc) ρ0 = some (.rt v ρ'))
  | [], h, _, _, ρ0, h0 => by rw [← h0]; exact loop_nil
  | x :: xs, h, h1, h2, ρ0, h0 => by
    cases e : p x with
    | none =>
      obtain ⟨ρ1, ρ2, e1, e2, e3⟩ := turn_nx (h1 x (List.mem_cons_self ..) e)
      have ih := forE_find ρ enc p xs h (fun y hy => h1 y (List.mem_cons_of_mem _ hy)) (fun y v hy => h2 y v (List.mem_cons_of_mem _ hy)) ρ2 e3
      rw [List.findSome?_cons, e]
      revert ih
      cases xs.findSome? p with
      | none => intro ih; exact loop_cons ρ1 ρ2 (by rw [h0]; exact e1) e2 ih
      | some v =>
        rintro ⟨ρ', ih⟩
        exact ⟨ρ', loop_cons ρ1 ρ2 (by rw [h0]; exact e1) e2 ih⟩
    | some v =>
      obtain ⟨ρ', h3⟩ := h2 x v (List.mem_cons_self ..) e
      obtain ⟨ρ1, e1, e2⟩ := turn_rt h3
      rw [List.findSome?_cons, e]
      exact ⟨ρ', loop_ret ρ1 ρ' (by rw [h0]; exact e1) e2⟩
end
/-! comprehensions -/
section
variable {Φ : Nat → List PyData → Option (PyData × List PyData)} {gl : List PyData} {g : G} {c e : E} {vs : List Nat}
/-- a comprehension: what each item gives, all else as it was -/
theorem compE_pf {α : Type} {ρ : PEnv} (it : α → PyData) (p : α → Bool) (f : α → PyData) (xs : List α) (acc : List PyData) (hl : acc.length + xs.length ≤ sizeLine) (h : ∀ x, x ∈ xs → ∃ ρ1 fl, asgG g (it x) ρ = some ρ1 ∧ ev Φ gl c ρ1 = some (.bool (p x), .sh, ρ1) ∧ (p x = true → ev Φ gl e ρ1 = some (f x, fl, ρ1)) ∧ wipeP ρ1 vs = ρ) :
    compE Φ gl vs g c e (xs.map it) acc ρ = some (acc ++ (xs.filter p).map f, ρ) := by
  unfold compE
  exact compG it p f xs acc (fun x hx => by
    obtain ⟨ρ1, fl, h1, h2, h3, h4⟩ := h x hx
    exact ⟨ρ1, .sh, ρ1, h1, h2, fun _ => h4, fun hp => ⟨fl, ρ1, h3 hp, h4⟩⟩) hl
theorem compE_f {α : Type} {ρ : PEnv} (it : α → PyData) (f : α → PyData) (xs : List α) (acc : List PyData) (hl : acc.length + xs.length ≤ sizeLine) (h : ∀ x, x ∈ xs → ∃ ρ1 fl, asgG g (it x) ρ = some ρ1 ∧ ev Φ gl e ρ1 = some (f x, fl, ρ1) ∧ wipeP ρ1 vs = ρ) :
    compE Φ gl vs g (.bl true) e (xs.map it) acc ρ = some (acc ++ xs.map f, ρ) := by
  rw [compE_pf it (fun _ => true) f xs acc hl (fun x hx => by
    obtain ⟨ρ1, fl, h1, h3, h4⟩ := h x hx
    exact ⟨ρ1, fl, h1, ev_bl, fun _ => h3, h4⟩), List.filter_eq_self.mpr (fun _ _ => rfl)]
/-- two clauses -/
theorem compE2_f {α : Type} {ρ : PEnv} {vs1 : List Nat} {g1 : G} {it1 : I} {c1 : E} (it : α → PyData) (f : α → List PyData) (m : Nat) : ∀ (xs : List α) (acc : List PyData), acc.length + m * xs.length ≤ sizeLine → (∀ x, x ∈ xs → (f x).length ≤ m ∧ ∃ ρ1 ds ρ2, asgG g (it x) ρ = some ρ1 ∧ evi Φ gl it1 ρ1 = some (ds, ρ2) ∧ (∀ acc, acc.length + m ≤ sizeLine → ∃ ρ3, compE Φ gl vs1 g1 c1 e ds acc (wipeP ρ2 vs1) = some (acc ++ f x, ρ3) ∧ wipeP ρ3 vs = ρ)) →
    compE2 Φ gl vs vs1 g (.bl true) g1 it1 c1 e (xs.map it) acc ρ = some (acc ++ (xs.map f).flatten, ρ)
  | [], acc, _, _ => by simp [compE2, compL2]
  | x :: xs, acc, hl, h => by
    obtain ⟨h0, ρ1, ds, ρ2, h1, h2, h3⟩ := h x (List.mem_cons_self ..)
    rw [List.length_cons, Nat.mul_succ] at hl
    obtain ⟨ρ3, h4, h5⟩ := h3 acc (by omega)
    have ih := compE2_f (vs1 := vs1) (g1 := g1) (it1 := it1) (c1 := c1) it f m xs (acc ++ f x) (by rw [List.length_append]; omega) (fun y hy => h y (List.mem_cons_of_mem _ hy))
    unfold compE2 at ih ⊢
    simp only [ev_bl] at ih
    rw [List.map_cons]
    simp only [compL2, h1, ev_bl, h2, h4, Option.bind_eq_bind, Option.bind_some, h5, List.map_cons, List.flatten_cons]
    rw [ih]
    simp
end
/-! numbers of a row -/
theorem ints_map (xs : List Int) : intsD (xs.map .int) = some xs := by
  induction xs with
  | nil => rfl
  | cons x xs ih => simp [intsD, ih]
theorem bools_map (xs : List Bool) : boolsD (xs.map .bool) = some xs := by
  induction xs with
  | nil => rfl
  | cons x xs ih => simp [boolsD, ih]
theorem strs_map (xs : List Str) : strsD (xs.map .str) = some xs := by
  induction xs with
  | nil => rfl
  | cons x xs ih => simp [strsD, ih]
theorem bools_mapF {α : Type} (f : α → Bool) (xs : List α) : boolsD (xs.map fun x => .bool (f x)) = some (xs.map f) := by
  rw [← bools_map, List.map_map]; rfl
theorem ints_mapF {α : Type} (f : α → Int) (xs : List α) : intsD (xs.map fun x => .int (f x)) = some (xs.map f) := by
  rw [← ints_map, List.map_map]; rfl
theorem v_sum_m (xs : List Int) : v_sum [.list (xs.map .int)] = some (.int xs.sum, .sh) := by simp [v_sum, ints_map]
theorem v_sum_t (xs : List Int) : v_sum [.tuple (xs.map .int)] = some (.int xs.sum, .sh) := by simp [v_sum, ints_map]
theorem v_all_m {α : Type} (f : α → Bool) (xs : List α) : v_all [.list (xs.map fun x => .bool (f x))] = some (.bool (xs.all f), .sh) := by
  simp only [v_all, bools_mapF, Option.map_some]
  rw [List.all_map]; rfl
theorem v_any_m {α : Type} (f : α → Bool) (xs : List α) : v_any [.list (xs.map fun x => .bool (f x))] = some (.bool (xs.any f), .sh) := by
  simp only [v_any, bools_mapF, Option.map_some]
  rw [List.any_map]; rfl
end PP

namespace PP
open PySem PySem.Spec PyProof.Rows L2
/-! PP27: rows of numbers, each once; ranges; sets of numbers. -/
def rangeI (i : Int) (m : Nat) : List Int := (List.range m).map fun j => i + (j : Nat)
theorem iidx_eq (i : Int) (m : Nat) : iidx i m = (rangeI i m).map .int := by unfold iidx rangeI; rw [List.map_map]; rfl
@[simp] theorem rangeI_len (i : Int) (m : Nat) : (rangeI i m).length = m := by simp [rangeI]
theorem mem_rangeI {i q : Int} {m : Nat} : q ∈ rangeI i m ↔ i ≤ q ∧ q < i + m := by
  unfold rangeI
  simp only [List.mem_map, List.mem_range]
  constructor
  · rintro ⟨j, hj, rfl⟩; omega
  · rintro ⟨h1, h2⟩; exact ⟨(q - i).toNat, by omega, by omega⟩
theorem rangeI_s {i : Int} {m : Nat} : rangeI i (m + 1) = i :: rangeI (i + 1) m := by
  unfold rangeI
  rw [List.range_succ_eq_map, List.map_cons, List.map_map]
  congr 1
  · simp
  · apply List.map_congr_left; intro j _; simp; omega
theorem rangeI_nodup (i : Int) (m : Nat) : (rangeI i m).Nodup := by
  unfold rangeI
  exact List.Pairwise.map _ (fun (a b : Nat) (h : a ≠ b) => by omega) List.nodup_range
theorem dedupI_go : ∀ (ns acc : List Int), acc.Nodup → (ns.foldl (fun acc x => if acc.any (· == x) then acc else acc ++ [x]) acc).Nodup ∧ ∀ q, q ∈ ns.foldl (fun acc x => if acc.any (· == x) then acc else acc ++ [x]) acc ↔ q ∈ acc ∨ q ∈ ns
  | [], acc, h => ⟨h, by simp⟩
  | x :: ns, acc, h => by
    rw [List.foldl_cons]
    by_cases hx : acc.any (· == x) = true
    · rw [if_pos hx]
      obtain ⟨h1, h2⟩ := dedupI_go ns acc h
      refine ⟨h1, fun q => ?_⟩
      have : x ∈ acc := by simpa using hx
      rw [h2, List.mem_cons]
      constructor
      · rintro (h | h) <;> simp [h]
      · rintro (h | rfl | h)
        · exact .inl h
        · exact .inl this
        · exact .inr h
    · rw [if_neg hx]
      have hx2 : x ∉ acc := by simpa using hx
      obtain ⟨h1, h2⟩ := dedupI_go ns (acc ++ [x]) (by
        rw [List.nodup_append]
        refine ⟨h, by simp, fun a ha b hb => ?_⟩
        have : b = x := by simpa using hb
        subst this
        exact fun z => hx2 (z ▸ ha))
      refine ⟨h1, fun q => ?_⟩
      rw [h2, List.mem_append, List.mem_singleton, List.mem_cons, or_assoc]
theorem dedupI_nodup (ns : List Int) : (dedupI ns).Nodup := (dedupI_go ns [] (by simp)).1
theorem dedupI_mem (ns : List Int) (q : Int) : q ∈ dedupI ns ↔ q ∈ ns := by
  have := (dedupI_go ns [] (by simp)).2 q
  simpa [dedupI] using this
theorem len_of_mem {α : Type} [DecidableEq α] {xs ys : List α} (h1 : xs.Nodup) (h2 : ys.Nodup) (h : ∀ q, q ∈ xs ↔ q ∈ ys) : xs.length = ys.length :=
  ((List.perm_ext_iff_of_nodup h1 h2).mpr h).length_eq
theorem v_lenSet_m (ns : List Int) (h : ns.length ≤ 4000) : v_lenSet [.list (ns.map .int)] = some (.int (dedupI ns).length, .sh) := by
  simp [v_lenSet, ints_map, h]
theorem atI_map {α β : Type} (f : α → β) (xs : List α) (i : Int) : atI (xs.map f) i = (atI xs i).map f := by
  unfold atI
  rw [List.length_map]
  cases ixN xs.length i <;> simp
end PP

namespace PP
open PySem PySem.Spec PyProof.Rows L2
/-! PP28: the order of data: least, greatest, sorted. -/
open PySem.W
mutual
theorem alike_eqv : ∀ x y : PyData, alike x y = true → PyData.eqv x y = true → x = y
  | .none, y, h, e => by cases y <;> simp [alike] at h ⊢
  | .bool a, y, h, e => by cases y <;> simp [alike] at h; simp at e; rw [e]
  | .int a, y, h, e => by cases y <;> simp [alike] at h; simp at e; rw [e]
  | .str a, y, h, e => by cases y <;> simp [alike] at h; simp at e; rw [e]
  | .list xs, y, h, e => by
    cases y <;> simp [alike] at h
    rename_i ys
    rw [alikeAll_eqv xs ys h (by simpa using e)]
  | .tuple xs, y, h, e => by
    cases y <;> simp [alike] at h
    rename_i ys
    rw [alikeAll_eqv xs ys h (by simpa using e)]
  | .dict _, y, h, e => by cases y <;> simp [alike] at h
theorem alikeAll_eqv : ∀ xs ys : List PyData, alikeAll xs ys = true → PyData.eqvAll xs ys = true → xs = ys
  | [], [], _, _ => rfl
  | [], y :: ys, _, e => by simp at e
  | x :: xs, [], _, e => by simp at e
  | x :: xs, y :: ys, h, e => by
    obtain ⟨h1, h2⟩ := alike_all_cons h
    simp at e
    rw [alike_eqv x y h1 e.1, alikeAll_eqv xs ys h2 e.2]
end
theorem toks_inj {x y : PyData} (h : alike x y = true) (e : keyToks x = keyToks y) : x = y := by
  cases he : PyData.eqv x y with
  | true => exact alike_eqv x y h he
  | false =>
    have := (toks_eqv x y h).2 he [] [.inl 0]
    rw [e, lex_pre, lex_irrefl] at this
    cases this
theorem dlt_irrefl (x : PyData) : dataLt x x = false := lex_irrefl _
theorem dlt_trans {x y z : PyData} (h1 : dataLt x y = true) (h2 : dataLt y z = true) : dataLt x z = true := lex_trans _ _ _ h1 h2
theorem dlt_neg {x y z : PyData} (h1 : dataLt x y = false) (h2 : dataLt y z = false) : dataLt x z = false := by
  cases h : dataLt x z with
  | false => rfl
  | true => rcases lex_negTrans (O := itemOrd) (keyToks x) (keyToks y) (keyToks z) h with h3 | h3
            · unfold dataLt at h1; rw [h1] at h3; cases h3
            · unfold dataLt at h2; rw [h2] at h3; cases h3
theorem dlt_asymm {x y : PyData} (h : dataLt x y = true) : dataLt y x = false := by
  cases h2 : dataLt y x with
  | false => rfl
  | true => have := dlt_trans h h2; rw [dlt_irrefl] at this; cases this
theorem dlt_total {x y : PyData} (ha : alike x y = true) (h1 : dataLt x y = false) (h2 : dataLt y x = false) : x = y := toks_inj ha (lex_total _ _ h1 h2)
theorem leD_trans (a b c : PyData) (h1 : leD a b = true) (h2 : leD b c = true) : leD a c = true := by
  simp [leD] at h1 h2 ⊢
  exact dlt_neg h2 h1
theorem leD_total (a b : PyData) : (leD a b || leD b a) = true := by
  simp only [leD]
  cases h : dataLt b a with
  | false => rfl
  | true => rw [dlt_asymm h]; rfl
/-- all alike -/
def Alk (xs : List PyData) : Prop := ∀ x y, x ∈ xs → y ∈ xs → alike x y = true
theorem alk_all {xs : List PyData} : alikeAllD xs = true ↔ Alk xs := by
  unfold alikeAllD Alk
  simp only [List.all_eq_true]
  exact ⟨fun h x y hx hy => h x hx y hy, fun h x hx y hy => h x y hx hy⟩
theorem Alk.sub {xs ys : List PyData} (h : Alk xs) (hs : ∀ y, y ∈ ys → y ∈ xs) : Alk ys := fun x y hx hy => h x y (hs x hx) (hs y hy)
theorem Alk.map {α : Type} (f : α → PyData) (xs : List α) (h : ∀ a b, alike (f a) (f b) = true) : Alk (xs.map f) := by
  intro x y hx hy
  obtain ⟨a, _, rfl⟩ := List.mem_map.mp hx
  obtain ⟨b, _, rfl⟩ := List.mem_map.mp hy
  exact h a b
theorem sortD_perm (xs : List PyData) : (sortD xs).Perm xs := List.mergeSort_perm xs leD
theorem sortD_pw (xs : List PyData) : (sortD xs).Pairwise (fun a b => leD a b = true) := List.pairwise_mergeSort leD_trans leD_total xs
theorem mem_sortD {xs : List PyData} {x : PyData} : x ∈ sortD xs ↔ x ∈ xs := (sortD_perm xs).mem_iff
/-- the sorted row is the one that is sorted and has the same items -/
theorem sortD_eq {xs ys : List PyData} (ha : Alk xs) (p : xs.Perm ys) (hs : ys.Pairwise (fun a b => leD a b = true)) : sortD xs = ys := by
  refine List.Perm.eq_of_pairwise (le := fun a b => leD a b = true) (fun a b h1 h2 l1 l2 => ?_) (sortD_pw xs) hs ((sortD_perm xs).trans p)
  simp [leD] at l1 l2
  exact dlt_total (ha a b (mem_sortD.mp h1) (p.mem_iff.mpr h2)) l2 l1
theorem sortD_congr {xs ys : List PyData} (ha : Alk xs) (p : xs.Perm ys) : sortD xs = sortD ys := sortD_eq ha (p.trans (sortD_perm ys).symm) (sortD_pw ys)
theorem minD_go : ∀ (xs : List PyData) (x : PyData), (minD x xs = x ∨ minD x xs ∈ xs) ∧ dataLt x (minD x xs) = false ∧ ∀ y, y ∈ xs → dataLt y (minD x xs) = false
  | [], x => ⟨.inl rfl, dlt_irrefl _, nofun⟩
  | y :: xs, x => by
    have e : minD x (y :: xs) = minD (if dataLt y x then y else x) xs := rfl
    rw [e]
    cases h : dataLt y x with
    | true =>
      obtain ⟨h1, h2, h3⟩ := minD_go xs y
      rw [if_pos rfl]
      refine ⟨.inr ?_, dlt_neg (dlt_asymm h) h2, fun z hz => ?_⟩
      · rcases h1 with h1 | h1
        · rw [h1]; exact List.mem_cons_self ..
        · exact List.mem_cons_of_mem _ h1
      · rcases List.mem_cons.mp hz with rfl | hz
        · exact h2
        · exact h3 z hz
    | false =>
      obtain ⟨h1, h2, h3⟩ := minD_go xs x
      rw [if_neg (by simp)]
      refine ⟨?_, h2, fun z hz => ?_⟩
      · rcases h1 with h1 | h1
        · exact .inl h1
        · exact .inr (List.mem_cons_of_mem _ h1)
      · rcases List.mem_cons.mp hz with rfl | hz
        · exact dlt_neg h h2
        · exact h3 z hz
theorem maxD_go : ∀ (xs : List PyData) (x : PyData), (maxD x xs = x ∨ maxD x xs ∈ xs) ∧ dataLt (maxD x xs) x = false ∧ ∀ y, y ∈ xs → dataLt (maxD x xs) y = false
  | [], x => ⟨.inl rfl, dlt_irrefl _, nofun⟩
  | y :: xs, x => by
    have e : maxD x (y :: xs) = maxD (if dataLt x y then y else x) xs := rfl
    rw [e]
    cases h : dataLt x y with
    | true =>
      obtain ⟨h1, h2, h3⟩ := maxD_go xs y
      rw [if_pos rfl]
      refine ⟨.inr ?_, dlt_neg h2 (dlt_asymm h), fun z hz => ?_⟩
      · rcases h1 with h1 | h1
        · rw [h1]; exact List.mem_cons_self ..
        · exact List.mem_cons_of_mem _ h1
      · rcases List.mem_cons.mp hz with rfl | hz
        · exact h2
        · exact h3 z hz
    | false =>
      obtain ⟨h1, h2, h3⟩ := maxD_go xs x
      rw [if_neg (by simp)]
      refine ⟨?_, h2, fun z hz => ?_⟩
      · rcases h1 with h1 | h1
        · exact .inl h1
        · exact .inr (List.mem_cons_of_mem _ h1)
      · rcases List.mem_cons.mp hz with rfl | hz
        · exact dlt_neg h2 h
        · exact h3 z hz
theorem minD_mem (x : PyData) (xs : List PyData) : minD x xs ∈ x :: xs := by
  rcases (minD_go xs x).1 with h | h
  · rw [h]; exact List.mem_cons_self ..
  · exact List.mem_cons_of_mem _ h
theorem minD_le (x : PyData) (xs : List PyData) : ∀ y, y ∈ x :: xs → dataLt y (minD x xs) = false := fun y hy => by
  rcases List.mem_cons.mp hy with rfl | hy
  · exact (minD_go xs y).2.1
  · exact (minD_go xs x).2.2 y hy
theorem maxD_mem (x : PyData) (xs : List PyData) : maxD x xs ∈ x :: xs := by
  rcases (maxD_go xs x).1 with h | h
  · rw [h]; exact List.mem_cons_self ..
  · exact List.mem_cons_of_mem _ h
theorem maxD_ge (x : PyData) (xs : List PyData) : ∀ y, y ∈ x :: xs → dataLt (maxD x xs) y = false := fun y hy => by
  rcases List.mem_cons.mp hy with rfl | hy
  · exact (maxD_go xs y).2.1
  · exact (maxD_go xs x).2.2 y hy
/-- the least is the one that is there and that none is below -/
theorem minD_eq {x m : PyData} {xs : List PyData} (ha : Alk (x :: xs)) (hm : m ∈ x :: xs) (hl : ∀ y, y ∈ x :: xs → dataLt y m = false) : minD x xs = m :=
  dlt_total (ha _ _ (minD_mem x xs) hm) (hl _ (minD_mem x xs)) (minD_le x xs m hm)
theorem maxD_eq {x m : PyData} {xs : List PyData} (ha : Alk (x :: xs)) (hm : m ∈ x :: xs) (hl : ∀ y, y ∈ x :: xs → dataLt m y = false) : maxD x xs = m :=
  dlt_total (ha _ _ (maxD_mem x xs) hm) (maxD_ge x xs m hm) (hl _ (maxD_mem x xs))
theorem minD_congr {x y : PyData} {xs ys : List PyData} (ha : Alk (x :: xs)) (h : ∀ z, z ∈ x :: xs ↔ z ∈ y :: ys) : minD x xs = minD y ys :=
  minD_eq ha ((h _).mpr (minD_mem y ys)) fun z hz => minD_le y ys z ((h z).mp hz)
/-! rows of numbers, texts -/
@[simp] theorem dlt_int (x y : Int) : dataLt (.int x) (.int y) = decide (x < y) := dataLt_int x y
theorem alk_ints (xs : List Int) : Alk (xs.map .int) := Alk.map _ _ fun _ _ => rfl
theorem alk_strs (xs : List Str) : Alk (xs.map .str) := Alk.map _ _ fun _ _ => rfl
theorem okN_ints (n : Nat) (xs : List Int) : (xs.map PyData.int).all (okN n) = true := by simp
theorem okN_strs (n : Nat) (xs : List Str) : (xs.map PyData.str).all (okN n) = true := by simp
/-- may be sorted: tuples that are not empty, or no tuples and not None -/
def isT1 : PyData → Bool
  | .tuple (_ :: _) => true
  | _ => false
def isO1 : PyData → Bool
  | .none => false
  | .tuple _ => false
  | _ => true
theorem sortOk_eq (xs : List PyData) : sortOk xs = (alikeAllD xs && okD (.list xs) && (xs.all isT1 || xs.all isO1) && decide (xs.length ≤ sizeLine)) := by
  have h1 : isT1 = (fun x => match x with | .tuple (_ :: _) => true | _ => false) := by funext x; cases x <;> first | rfl | (rename_i l; cases l <;> rfl)
  have h2 : isO1 = (fun x => match x with | .none => false | .tuple _ => false | _ => true) := by funext x; cases x <;> rfl
  rw [h1, h2]; rfl
theorem sortOk_T {xs : List PyData} (h1 : Alk xs) (h2 : xs.all (okN 39) = true) (h3 : xs.all isT1 = true) (h4 : xs.length ≤ sizeLine) : sortOk xs = true := by
  rw [sortOk_eq, alk_all.mpr h1, okD_list, h2, h3]
  simpa using h4
theorem sortOk_O {xs : List PyData} (h1 : Alk xs) (h2 : xs.all (okN 39) = true) (h3 : xs.all isO1 = true) (h4 : xs.length ≤ sizeLine) : sortOk xs = true := by
  rw [sortOk_eq, alk_all.mpr h1, okD_list, h2, h3]
  simpa using h4
theorem sortOk_ints {xs : List Int} (h : xs.length ≤ sizeLine) : sortOk (xs.map .int) = true := sortOk_O (alk_ints xs) (okN_ints 39 xs) (by simp [isO1]) (by simpa using h)
theorem sortOk_strs {xs : List Str} (h : xs.length ≤ sizeLine) : sortOk (xs.map .str) = true := sortOk_O (alk_strs xs) (okN_strs 39 xs) (by simp [isO1]) (by simpa using h)
def maxI (x : Int) (xs : List Int) : Int := xs.foldl max x
def minI (x : Int) (xs : List Int) : Int := xs.foldl min x
theorem max_ints {x : Int} {xs : List Int} (h : xs.length + 1 ≤ sizeLine) : mmV false [.list (.int x :: xs.map .int)] = some (.int (maxI x xs), .sh) := by
  have := sortOk_ints (xs := x :: xs) (by simpa using h)
  rw [List.map_cons] at this
  simp only [mmV, this, if_true]
  rw [maxD_ints]; rfl
theorem min_ints {x : Int} {xs : List Int} (h : xs.length + 1 ≤ sizeLine) : mmV true [.list (.int x :: xs.map .int)] = some (.int (minI x xs), .sh) := by
  have := sortOk_ints (xs := x :: xs) (by simpa using h)
  rw [List.map_cons] at this
  simp only [mmV, this, if_true]
  rw [minD_ints]; rfl
theorem maxI_spec (x : Int) (xs : List Int) : x ≤ maxI x xs ∧ (∀ y, y ∈ xs → y ≤ maxI x xs) ∧ (maxI x xs = x ∨ maxI x xs ∈ xs) := by
  induction xs generalizing x with
  | nil => simp [maxI]
  | cons y ys ih =>
    have e : maxI x (y :: ys) = maxI (max x y) ys := rfl
    obtain ⟨h1, h2, h3⟩ := ih (max x y)
    rw [e]
    refine ⟨by omega, fun z hz => ?_, ?_⟩
    · rcases List.mem_cons.mp hz with rfl | hz
      · omega
      · exact h2 z hz
    · rcases h3 with h3 | h3
      · rcases Int.le_total x y with h | h
        · right; rw [h3, Int.max_eq_right h]; exact List.mem_cons_self ..
        · left; rw [h3, Int.max_eq_left h]
      · exact .inr (List.mem_cons_of_mem _ h3)
theorem minI_spec (x : Int) (xs : List Int) : minI x xs ≤ x ∧ (∀ y, y ∈ xs → minI x xs ≤ y) ∧ (minI x xs = x ∨ minI x xs ∈ xs) := by
  induction xs generalizing x with
  | nil => simp [minI]
  | cons y ys ih =>
    have e : minI x (y :: ys) = minI (min x y) ys := rfl
    obtain ⟨h1, h2, h3⟩ := ih (min x y)
    rw [e]
    refine ⟨by omega, fun z hz => ?_, ?_⟩
    · rcases List.mem_cons.mp hz with rfl | hz
      · omega
      · exact h2 z hz
    · rcases h3 with h3 | h3
      · rcases Int.le_total x y with h | h
        · left; rw [h3, Int.min_eq_left h]
        · right; rw [h3, Int.min_eq_right h]; exact List.mem_cons_self ..
      · exact .inr (List.mem_cons_of_mem _ h3)
end PP

namespace PP
open PySem PySem.Spec PyProof.Rows L2
/-! PP29: walks by number; what the laws draw. -/
section
variable {Φ : Nat → List PyData → Option (PyData × List PyData)} {gl : List PyData} {ios : List Nat} {g : G} {b : Ss} {dead : List Nat}
/-- a walk that folds a state; each item is one of the row, the number of those to come is told -/
theorem forE_foldN {σ α : Type} (E : σ → PEnv) (enc : α → PyData) (step : σ → α → σ) (I : σ → Nat → Prop) (xs : List α) (s : σ) (ρ : PEnv) (h : wipeP ρ dead = E s) (hi : I s xs.length) (hs : ∀ s x n, x ∈ xs → I s (n + 1) → turnE Φ gl ios g b dead (enc x) (E s) = some (.nx (E (step s x))) ∧ I (step s x) n) : forE Φ gl ios g b dead (xs.map enc) ρ = some (.nx (E (xs.foldl step s))) :=
  forE_foldW E enc step (fun s l => (∀ x, x ∈ l → x ∈ xs) ∧ I s l.length) (fun s x l ⟨h1, h2⟩ => by
    obtain ⟨h3, h4⟩ := hs s x l.length (h1 x (List.mem_cons_self ..)) (by simpa using h2)
    exact ⟨h3, fun y hy => h1 y (List.mem_cons_of_mem _ hy), h4⟩) xs s ρ ⟨fun _ h => h, hi⟩ h
/-- for k in range(len(xs)) -/
theorem forE_idx {σ α : Type} (E : σ → PEnv) (step : σ → α → Nat → σ) (I : σ → Nat → Prop) (xs : List α) (s : σ) (ρ : PEnv) (h : wipeP ρ dead = E s) (hi : I s xs.length) (hs : ∀ s x k n, xs[k]? = some x → I s (n + 1) → turnE Φ gl ios g b dead (.int (k : Nat)) (E s) = some (.nx (E (step s x k))) ∧ I (step s x k) n) : forE Φ gl ios g b dead (iidx 0 xs.length) ρ = some (.nx (E (xs.zipIdx.foldl (fun s p => step s p.1 p.2) s))) := by
  rw [iidx_zip xs 0]
  refine forE_foldN E (fun p : α × Nat => PyData.int (0 + (p.2 : Nat))) (fun s p => step s p.1 p.2) I xs.zipIdx s ρ h (by simpa using hi) fun s p n hp hn => ?_
  have := hs s p.1 p.2 n (zipIdx_get hp) hn
  simpa using this
end
theorem zipIdx_foldl {σ α : Type} (step : σ → α → σ) : ∀ (xs : List α) (k : Nat) (s : σ), (xs.zipIdx k).foldl (fun s p => step s p.1) s = xs.foldl step s
  | [], _, _ => rfl
  | x :: xs, k, s => by rw [List.zipIdx_cons, List.foldl_cons, zipIdx_foldl step xs]; rfl
/-! the law's state: draws, how many are taken, and counts -/
def kDraws : Str := Str.ofString "draws"
def kAt : Str := Str.ofString "at"
def wKvs (ms : List Int) (cs : List (Str × Int)) (k : Int) : List (PyData × PyData) := (.str kDraws, .list (ms.map .int)) :: (.str kAt, .int k) :: cs.map fun c => (.str c.1, .int c.2)
def wSt (ms : List Int) (cs : List (Str × Int)) (k : Int) : PyData := .dict (wKvs ms cs k)
theorem w_fits (ms cs k) (x : Str) : dfits (wKvs ms cs k) (.inl (.inr x)) = true := by
  simp [dfits, wKvs, dkey, keyD]
theorem w_at (ms cs k) : ixV (.dict (wKvs ms cs k)) (.str kAt) = some (.int k) := by
  show (if dfits (wKvs ms cs k) (.inl (.inr kAt)) then dlook (wKvs ms cs k) (.inl (.inr kAt)) else none) = _
  rw [w_fits]; rfl
theorem w_draws (ms cs k) : ixV (.dict (wKvs ms cs k)) (.str kDraws) = some (.list (ms.map .int)) := by
  show (if dfits (wKvs ms cs k) (.inl (.inr kDraws)) then dlook (wKvs ms cs k) (.inl (.inr kDraws)) else none) = _
  rw [w_fits]; rfl
/-- what a state's counts are called: not draws, not at -/
def csOk (cs : List (Str × Int)) : Prop := cs.length ≤ 20 ∧ ∀ c, c ∈ cs → c.1 ≠ kAt ∧ c.1 ≠ kDraws
theorem w_set (ms cs k v) (h : csOk cs) : setV (.dict (wKvs ms cs k)) (.str kAt) (.int v) = some (.dict (wKvs ms cs v)) := by
  have hl : (wKvs ms cs k).length < sizeLine := by
    have : (1000 : Nat) < sizeLine := by decide
    have := h.1
    simp [wKvs]; omega
  have hh : dhas (wKvs ms cs k) (.inl (.inr kAt)) = true := by simp [dhas, wKvs, dkey, keyD]
  have hp : dput (wKvs ms cs k) (.inl (.inr kAt)) (.str kAt) (.int v) = wKvs ms cs v := by
    unfold dput
    rw [if_pos hh]
    unfold wKvs
    rw [List.map_cons, List.map_cons, List.map_map]
    have h1 : ¬ dkey (.str kDraws) = some (.inl (.inr kAt)) := by decide
    have h2 : dkey (.str kAt) = some (.inl (.inr kAt)) := rfl
    rw [if_neg h1, if_pos h2]
    congr 2
    apply List.map_congr_left
    intro c hc
    have h3 : ¬ dkey (.str c.1) = some (.inl (.inr kAt)) := by
      intro z
      have : c.1 = kAt := by simpa [dkey, keyD] using z
      exact (h.2 c hc).1 this
    simp only [Function.comp, if_neg h3]
  show (if dfits (wKvs ms cs k) (.inl (.inr kAt)) && decide ((wKvs ms cs k).length < sizeLine) then some (PyData.dict (dput (wKvs ms cs k) (.inl (.inr kAt)) (.str kAt) (.int v))) else none) = _
  rw [w_fits, hp]
  simp [hl]
def bNext : Ss :=
 .cons (.augIx 0 (.str (Str.ofString "at")) .Add (.int 1))
 (.cons (.ifs (.cmp .Gt (.ix (.var 0) (.str (Str.ofString "at"))) (.bi .len (.cons (.ix (.var 0) (.str (Str.ofString "draws"))) (.nil)))) (.cons (.ret (.int 0))
 (.nil)) (.nil))
 (.cons (.ret (.bin .Mod (.bi .int (.cons (.ix (.ix (.var 0) (.str (Str.ofString "draws"))) (.bin .Sub (.ix (.var 0) (.str (Str.ofString "at"))) (.int 1))) (.nil))) (.var 1)))
 (.nil)))
def bPick (f : Nat) : Ss :=
 .cons (.ret (.ix (.var 1) (.call f (.cons (.io 0) (.cons (.bi .len (.cons (.var 1) (.nil))) (.nil))))))
 (.nil)
section
variable {Φ : Nat → List PyData → Option (PyData × List PyData)} {gl : List PyData}
theorem nextR_aug {ios : List Nat} (ms : List Int) (cs : List (Str × Int)) (hc : csOk cs) (k : Int) (x : Sl) : PP.run Φ gl ios (.augIx 0 (.str kAt) .Add (.int 1)) [.ow (wSt ms cs k), x] = some (.nx [.ow (wSt ms cs (k + 1)), x]) := by
  simp [PP.run, wSt, als, mods, dkey, keyD, w_at, w_set _ _ _ _ hc]
theorem nextR (ms : List Int) (cs : List (Str × Int)) (hc : csOk cs) (hm : ∀ z, z ∈ ms → 0 ≤ z) (k : Int) (hk : 0 ≤ k) (many : Int) (h0 : 0 < many) : ∃ v, 0 ≤ v ∧ v < many ∧ (runs Φ gl [0] bNext [.ow (wSt ms cs k), .fz (.int many)]).bind (endOf [0]) = some (.int v, [wSt ms cs (k + 1)]) := by
  unfold bNext
  have e1 : (Str.ofString "at") = kAt := rfl
  have e2 : (Str.ofString "draws") = kDraws := rfl
  simp only [e1, e2]
  rw [runs_step (ρ1 := [.ow (wSt ms cs (k + 1)), .fz (.int many)]) (nextR_aug ms cs hc k _)]
  by_cases hlt : (ms.length : Int) < k + 1
  · refine ⟨0, by omega, h0, ?_⟩
    simp [als, mods, alss, modss, wSt, w_at, w_draws, hlt, outsOf]
  · have hz := hm _ (List.getElem_mem (l := ms) (n := k.toNat) (by omega))
    refine ⟨ms[k.toNat]'(by omega) % many, Int.emod_nonneg _ (by omega), Int.emod_lt_of_pos _ h0, ?_⟩
    have ha2 : atI (ms.map PyData.int) k = some (.int (ms[k.toNat]'(by omega))) := by
      rw [atI_lt hk (by rw [List.length_map]; omega)]
      simp
    simp [als, mods, alss, modss, wSt, w_at, w_draws, hlt, outsOf, ha2, h0]
theorem pickR {f : Nat} (w w' : PyData) (rows : List PyData) (v : Int) (v0 : 0 ≤ v) (v1 : v < rows.length) (e : Φ f [w, .int rows.length] = some (.int v, [w'])) (d : PyData) (hd : d = .list rows ∨ d = .tuple rows) : ∃ x, x ∈ rows ∧ (runs Φ gl [0] (bPick f) [.ow w, .fz d]).bind (endOf [0]) = some (x, [w']) := by
  have ha := atI_lt v0 v1
  refine ⟨rows[v.toNat]'(by omega), List.getElem_mem _, ?_⟩
  unfold bPick
  rcases hd with rfl | rfl <;> simp [als, mods, alss, modss, e, ha, outsOf]
end
/-- tuples of texts, of numbers -/
@[simp] theorem alikeAll_strs : ∀ xs ys : List Str, PySem.W.alikeAll (xs.map .str) (ys.map .str) = true
  | [], ys => by simp [PySem.W.alikeAll]
  | x :: xs, [] => by simp [PySem.W.alikeAll]
  | x :: xs, y :: ys => by simp [PySem.W.alikeAll, PySem.W.alike, alikeAll_strs xs ys]
@[simp] theorem alikeAll_ints : ∀ xs ys : List Int, PySem.W.alikeAll (xs.map .int) (ys.map .int) = true
  | [], ys => by simp [PySem.W.alikeAll]
  | x :: xs, [] => by simp [PySem.W.alikeAll]
  | x :: xs, y :: ys => by simp [PySem.W.alikeAll, PySem.W.alike, alikeAll_ints xs ys]
theorem sOkAll_map {α : Type} (f : α → PyData) (xs : List α) (h : ∀ x, x ∈ xs → sOk (f x)) : sOkAll (xs.map f) := by
  rw [sOkAll_iff]
  intro d hd
  obtain ⟨x, hx, rfl⟩ := List.mem_map.mp hd
  exact h x hx
@[simp] theorem sOk_int (i) : sOk (.int i) := by simp [sOk]
@[simp] theorem sOk_str (i) : sOk (.str i) := by simp [sOk]
@[simp] theorem sOk_bool (i) : sOk (.bool i) := by simp [sOk]
@[simp] theorem sOk_none : sOk .none := by simp [sOk]
@[simp] theorem sOk_tup (xs) : sOk (.tuple xs) ↔ sOkAll xs := by simp [sOk]
@[simp] theorem sOk_lst (xs) : sOk (.list xs) ↔ sOkAll xs := by simp [sOk]
@[simp] theorem sOkAll_nil : sOkAll [] := by simp [sOkAll]
@[simp] theorem sOkAll_cons (x xs) : sOkAll (x :: xs) ↔ sOk x ∧ sOkAll xs := by simp [sOkAll]
@[simp] theorem sOkAll_ints (xs : List Int) : sOkAll (xs.map .int) := sOkAll_map _ _ fun _ _ => sOk_int _
@[simp] theorem sOkAll_strs (xs : List Str) : sOkAll (xs.map .str) := sOkAll_map _ _ fun _ _ => sOk_str _
@[simp] theorem nodes_int (i) : nodes (.int i) = 1 := by simp [nodes]
@[simp] theorem nodes_str (i) : nodes (.str i) = 1 := by simp [nodes]
@[simp] theorem nodes_bool (i) : nodes (.bool i) = 1 := by simp [nodes]
@[simp] theorem nodes_none : nodes .none = 1 := by simp [nodes]
@[simp] theorem nodes_tup (xs) : nodes (.tuple xs) = nodesAll xs + 1 := by simp [nodes]
@[simp] theorem nodes_lst (xs) : nodes (.list xs) = nodesAll xs + 1 := by simp [nodes]
@[simp] theorem nodesAll_nil : nodesAll [] = 0 := by simp [nodesAll]
@[simp] theorem nodesAll_cons (x xs) : nodesAll (x :: xs) = nodes x + nodesAll xs := by simp [nodesAll]
theorem nodesAll_le {α : Type} (f : α → PyData) (m : Nat) : ∀ (xs : List α), (∀ x, x ∈ xs → nodes (f x) ≤ m) → nodesAll (xs.map f) ≤ m * xs.length
  | [], _ => by simp
  | x :: xs, h => by
    have := nodesAll_le f m xs fun y hy => h y (List.mem_cons_of_mem _ hy)
    have := h x (List.mem_cons_self ..)
    rw [List.map_cons, nodesAll_cons, List.length_cons, Nat.mul_succ]
    omega
@[simp] theorem nodesAll_ints (xs : List Int) : nodesAll (xs.map .int) = xs.length := by induction xs <;> simp [*]; omega
@[simp] theorem nodesAll_strs (xs : List Str) : nodesAll (xs.map .str) = xs.length := by induction xs <;> simp [*]; omega
theorem sOk_dA {κ β : Type} [DecidableEq κ] [Key κ] (f : β → PyData) (xs : List (κ × β)) (hs : ∀ k : κ, (Key.dk k).isLeft = true) (hn : (xs.map (·.1)).Nodup) (h1 : ∀ k : κ, sOk (ek k)) (h2 : ∀ p, p ∈ xs → sOk (f p.2)) : sOk (.dict (dA f xs)) := by
  have h3 : keysOk (dA f xs) := by
    refine ⟨?_, ?_⟩
    · rw [List.all_eq_true]
      intro p hp
      obtain ⟨q, _, rfl⟩ := List.mem_map.mp hp
      obtain ⟨k, e⟩ := Sum.isLeft_iff.mp (hs q.1)
      unfold plainKey
      show (match dkey (ek q.1) with | some (.inl _) => true | _ => false) = true
      rw [ek, Key.ok, e]
    · unfold dA
      rw [List.map_map]
      have : (fun p : PyData × PyData => dkey p.1) ∘ (fun p : κ × β => (ek p.1, f p.2)) = (fun k : κ => some (Key.dk k)) ∘ (·.1) := by
        funext p
        exact Key.ok p.1
      rw [this, ← List.map_map]
      exact List.Pairwise.map _ (fun (a b : κ) (h : a ≠ b) z => h (Key.inj (Option.some.inj z))) hn
  refine ⟨h3, ?_⟩
  rw [sOkKv_iff]
  intro p hp
  obtain ⟨q, hq, rfl⟩ := List.mem_map.mp hp
  exact ⟨h1 _, h2 q hq⟩
theorem nodes_dA {κ β : Type} [DecidableEq κ] [Key κ] (f : β → PyData) (m : Nat) (xs : List (κ × β)) (h : ∀ p, p ∈ xs → nodes (ek p.1) + nodes (f p.2) ≤ m) : nodes (.dict (dA f xs)) ≤ m * xs.length + 1 := by
  have : ∀ xs : List (κ × β), (∀ p, p ∈ xs → nodes (ek p.1) + nodes (f p.2) ≤ m) → nodesKv (dA f xs) ≤ m * xs.length := by
    intro xs
    induction xs with
    | nil => intro _; simp [dA, nodesKv]
    | cons p xs ih =>
      intro h
      have h1 := ih fun q hq => h q (List.mem_cons_of_mem _ hq)
      have h2 := h p (List.mem_cons_self ..)
      have e : nodesKv (dA f (p :: xs)) = nodes (ek p.1) + nodes (f p.2) + nodesKv (dA f xs) := by simp [dA, nodesKv]
      rw [e, List.length_cons, Nat.mul_succ]
      omega
  have := this xs h
  simp only [nodes]
  omega
/-! what is in a row -/
theorem inV_T {xs : List PyData} {x : PyData} (h1 : okD x = true) (h2 : okD (.list xs) = true) : inV x (.tuple xs) = some (xs.any fun y => PyData.eqv y x) := by
  have : inV x (.tuple xs) = if okD x && okD (.list xs) then some (xs.any fun y => PyData.eqv y x) else none := by cases x <;> rfl
  rw [this, h1, h2]; rfl
theorem inV_L {xs : List PyData} {x : PyData} (h1 : okD x = true) (h2 : okD (.list xs) = true) : inV x (.list xs) = some (xs.any fun y => PyData.eqv y x) := by
  have : inV x (.list xs) = if okD x && okD (.list xs) then some (xs.any fun y => PyData.eqv y x) else none := by cases x <;> rfl
  rw [this, h1, h2]; rfl
theorem any_strs (r : List Str) (w : Str) : ((r.map PyData.str).any fun y => PyData.eqv y (.str w)) = decide (w ∈ r) := by
  induction r with
  | nil => rfl
  | cons x r ih =>
    rw [List.map_cons, List.any_cons, ih, eqv_ss]
    by_cases h : x = w
    · subst h; simp
    · have h2 : ¬ w = x := fun z => h z.symm
      simp [h, h2]
theorem any_ints (r : List Int) (w : Int) : ((r.map PyData.int).any fun y => PyData.eqv y (.int w)) = decide (w ∈ r) := by
  induction r with
  | nil => rfl
  | cons x r ih =>
    rw [List.map_cons, List.any_cons, ih, eqv_ii]
    by_cases h : x = w
    · subst h; simp
    · have h2 : ¬ w = x := fun z => h z.symm
      simp [h, h2]
@[simp] theorem in_strsT (r : List Str) (w : Str) : inV (.str w) (.tuple (r.map .str)) = some (decide (w ∈ r)) := by
  rw [inV_T rfl (by simp), any_strs]
@[simp] theorem in_strsL (r : List Str) (w : Str) : inV (.str w) (.list (r.map .str)) = some (decide (w ∈ r)) := by
  rw [inV_L rfl (by simp), any_strs]
@[simp] theorem in_intsT (r : List Int) (w : Int) : inV (.int w) (.tuple (r.map .int)) = some (decide (w ∈ r)) := by
  rw [inV_T rfl (by simp), any_ints]
@[simp] theorem in_intsL (r : List Int) (w : Int) : inV (.int w) (.list (r.map .int)) = some (decide (w ∈ r)) := by
  rw [inV_L rfl (by simp), any_ints]
theorem fold_filter {α β : Type} (p : α → Bool) (f : α → β) : ∀ (xs : List α) (s : List β), xs.foldl (fun s x => if p x = true then s ++ [f x] else s) s = s ++ (xs.filter p).map f
  | [], s => by simp
  | x :: xs, s => by
    rw [List.foldl_cons, fold_filter p f xs, List.filter_cons]
    cases p x <;> simp
theorem fold_map {α β : Type} (f : α → β) : ∀ (xs : List α) (s : List β), xs.foldl (fun s x => s ++ [f x]) s = s ++ xs.map f
  | [], s => by simp
  | x :: xs, s => by rw [List.foldl_cons, fold_map f xs]; simp
theorem fold_flat {α β : Type} (f : α → List β) : ∀ (xs : List α) (s : List β), xs.foldl (fun s x => s ++ f x) s = s ++ xs.flatMap f
  | [], s => by simp
  | x :: xs, s => by rw [List.foldl_cons, fold_flat f xs]; simp
theorem pairwise_idx {α : Type} (xs : List α) (p : α × Nat → Bool) : ((xs.zipIdx.filter p).map fun z => (z.2 : Int)).Pairwise (· < ·) := by
  rw [List.pairwise_map]
  apply List.Pairwise.filter
  have : (xs.zipIdx.map (·.2)).Pairwise (· < ·) := by
    rw [List.zipIdx_map_snd]
    exact List.pairwise_lt_range'
  rw [List.pairwise_map] at this
  exact this.imp fun h => by omega
/-- sorted: numbers that ascend and are the same -/
theorem sort_intsA {xs ys : List Int} (hx : xs.Nodup) (hy : ys.Pairwise (· < ·)) (h : ∀ q, q ∈ xs ↔ q ∈ ys) : sortD (xs.map .int) = ys.map .int := by
  refine sortD_eq (alk_ints xs) (List.Perm.map _ ((List.perm_ext_iff_of_nodup hx (hy.imp fun h => by omega)).mpr h)) ?_
  rw [List.pairwise_map]
  refine hy.imp fun h => ?_
  simp [leD]; omega
theorem cut_take {α : Type} (xs : List α) (k : Nat) : cutL xs none (some (k : Int)) = xs.take k := by
  unfold cutL
  rw [HT.sIx_none, HT.sIx_nat]
  simp only [List.drop_zero, Nat.sub_zero]
  rw [List.take_eq_take_iff]; omega
theorem cut_drop {α : Type} (xs : List α) (k : Nat) : cutL xs (some (k : Int)) none = xs.drop k := by
  unfold cutL
  rw [HT.sIx_none, HT.sIx_nat]
  rw [List.take_of_length_le (by rw [List.length_drop]; exact Nat.le_refl _)]
  by_cases h : k ≤ xs.length
  · rw [Nat.min_eq_left h]
  · rw [Nat.min_eq_right (by omega), List.drop_length, List.drop_eq_nil_of_le (by omega)]
/-- a slot that is not one's own -/
def notOw (x : Sl) : Prop := x = .no ∨ ∃ d, x = .fz d
theorem notOw.own {x : Sl} (h : notOw x) (ρ : PEnv) : isOwn (x :: ρ) 0 = false := by rcases h with rfl | ⟨d, rfl⟩ <;> rfl
theorem notOw.nd {x : Sl} (h : notOw x) (ρ : PEnv) : nd (x :: ρ) 0 = true := by rcases h with rfl | ⟨d, rfl⟩ <;> rfl
theorem notOw.frz {x : Sl} (h : notOw x) (ρ : PEnv) : frz1 (x :: ρ) 0 = x :: ρ := by rcases h with rfl | ⟨d, rfl⟩ <;> rfl
theorem notOw_no : notOw .no := .inl rfl
theorem notOw_fz (d : PyData) : notOw (.fz d) := .inr ⟨d, rfl⟩
section
variable {Φ : Nat → List PyData → Option (PyData × List PyData)} {gl : List PyData} {ios : List Nat} {g : G} {b : Ss} {dead : List Nat}
/-- a walk under a word of the items to come and the environment -/
theorem forE_rel {α : Type} (enc : α → PyData) (P : List α → PEnv → Prop) (hs : ∀ x xs ρ, P (x :: xs) ρ → ∃ ρ', turnE Φ gl ios g b dead (enc x) ρ = some (.nx ρ') ∧ P xs ρ') : ∀ (xs : List α) (ρ : PEnv), P xs (wipeP ρ dead) → ∃ ρ', forE Φ gl ios g b dead (xs.map enc) ρ = some (.nx ρ') ∧ P [] ρ'
  | [], ρ, h => ⟨_, loop_nil, h⟩
  | x :: xs, ρ, h => by
    obtain ⟨ρ', h1, h2⟩ := hs x xs _ h
    obtain ⟨ρ1, ρ2, e1, e2, rfl⟩ := turn_nx h1
    obtain ⟨ρ3, e3, h3⟩ := forE_rel enc P hs xs ρ2 h2
    exact ⟨ρ3, by rw [List.map_cons]; exact loop_cons ρ1 ρ2 e1 e2 e3, h3⟩
end
end PP

/-! PP30: more rules of the walk: d.update(e). -/
namespace PP
open PySem PySem.Spec PyProof.Rows L2 RZ
def rUpdK : V → List V → Hp → VK → Prop := fun x vs H Q => ∃ (a b : Addr) (kvs more : List (L2.Key × V)), x = .ref a ∧ vs = [.ref b] ∧ a ≠ b ∧ H a = some (.dK kvs) ∧ Rd H b (.dK more) ∧ kvs.length + more.length ≤ sizeLine ∧ Q .non (upd H a (.dK (mergeK kvs more)))
theorem length_mergeK : ∀ (more kvs : List (L2.Key × V)), (mergeK kvs more).length ≤ kvs.length + more.length
  | [], kvs => Nat.le_refl _
  | p :: more, kvs => by
    have h1 := length_mergeK more (putK kvs p.1 p.2)
    have h2 := length_putK kvs p.1 p.2
    have e : mergeK kvs (p :: more) = mergeK (putK kvs p.1 p.2) more := rfl
    rw [e, List.length_cons]
    omega
theorem mt_updK {X : Cx} : MtR X "dict.update" rUpdK := by
  intro pins s σ H x xs v us Q I rx rxs ⟨a, b, kvs, more, ex, exs, hne, e, e2, hl, q⟩
  subst ex; subst exs
  cases rx
  obtain ⟨u, rfl, ru⟩ := rxs.one
  cases ru
  obtain ⟨z, hd, vs, rel, dd⟩ := dk_of I.hok e
  obtain ⟨z2, hd2, vs2, rel2, dd2⟩ := dk_rd I.hok e2
  have hm := length_mergeK more kvs
  refine call_meetsIn PySem.F.slot_dict_update dd.typeIs PySem.F.entry_dict_update (PySem.F.args_dict_update_2 _ _) (meets_dict_update (mixKind X.prog X.w) a b hne hd2)
    ⟨vs, vs2, dd, dd2, by rw [← rel.length, ← rel2.length]; exact hl, fun h' dd' _ hs => ?_⟩
  have he : ∃ q, h'.get? a = some q := let ⟨q, _, _, hq, _⟩ := dd'; ⟨q, hq⟩
  exact ⟨.non, _, d_write (t' := s.toks) I (by rw [e]; exact True.intro) hs he (dk_new (Nat.le_trans hm hl) hd (KV.merge rel2 rel) dd'), rfl, q⟩
section
variable {K : PySem.W.Frag} {H : Hp} {P : Addr → Prop}
theorem rpK_merge : ∀ {more : List (L2.Key × V)} {ds2 : List (PyData × PyData)} {kvs : List (L2.Key × V)} {ds : List (PyData × PyData)}, RpK K H P more ds2 → RpK K H P kvs ds → RpK K H P (mergeK kvs more) (mergeD ds ds2)
  | _, _, kvs, ds, .nil, r => r
  | _, _, kvs, ds, .cons (k := k) (v := v) (d := d) r1 rs, r => by
    have hk : dkey (keyPD k) = some (.inl k) := by cases k <;> rfl
    have := rpK_merge rs (dput_rp (k := k) r1 r)
    show RpK K H P (mergeK (putK kvs k v) _) (List.foldl _ (match dkey (keyPD k) with | some k' => dput ds k' (keyPD k) d | none => ds) _)
    rw [hk]
    exact this
theorem rpT_plain {kvs : List (List L2.Key × V)} {ds : List (PyData × PyData)} (r : RpT K H P kvs ds) (h : ds.all plainKey = true) : kvs = [] := by
  cases r with
  | nil => rfl
  | cons r rs =>
    exfalso
    rename_i k _ _ _ _
    rw [List.all_cons, Bool.and_eq_true] at h
    have := h.1
    unfold plainKey at this
    rw [show dkey (PyData.tuple (List.map keyPD k), _).1 = _ from dkey_t k] at this
    cases this
end
section
variable {X : Cx} {Φ : Nat → List PyData → Option (PyData × List PyData)} {gl : List PyData} {ios : List Nat} {pos cpos apos p : Pos} {i : Nat} {x : Str} {e : Expr} {ee : E}
theorem ty_dict : ∀ (P : Addr → Prop) a d, mKind "update" d = true → Own X.K H P a d → tyV X.K "dict" (.ref a) H := fun P a d hk o => by
  cases o with
  | lst h r => simp [mKind] at hk
  | dk h r => exact .inr (.inr (.inl ⟨rfl, .inl ⟨_, h⟩⟩))
  | dt n h r => exact .inr (.inr (.inl ⟨rfl, .inr ⟨_, h⟩⟩))
theorem s_update (hN : X.N[i]? = some x) (hv : Vis X.env.scope x) (he : PEv X Φ gl e ee) (hd : (x == ("__debug__" : Str)) = false := by decide) (hcd : (x == ("__classdict__" : Str)) = false := by decide)
    (hbase : attributeBase (.Name x p) "update" X.env (eval (.Name x p) X.env) = eval (.Name x p) X.env := by rfl)
    (hfew : ((backTo cpos (starEach [e] X.env)).all (fun x => !x.1) && (backToKw cpos (keywordEach [] X.env)).all (fun x => x.1.isSome)
      && decide (([e] : List Expr).length + ([] : List Keyword).length + (if ([] : List Keyword).isEmpty then 0 else 1) < 30)) = true := by rfl)
    (hline : (apos.endLine == cpos.line) = true := by rfl) (hs : starEach [e] X.env = (false, eval e X.env) :: starEach [] X.env := by rfl) (hplain : (backTo cpos (starEach [] X.env)).any (·.1) = false := by rfl)
    (hsw : swapsWith (.Call (.Attribute (.Name x p) "update" apos) [e] [] cpos) none pos.line X.env = pure false := by rfl) :
    PSv X Φ gl ios (.Expr (.Call (.Attribute (.Name x p) "update" apos) [e] [] cpos) pos) (.mut "update" i ee) :=
  (ps_expr (pe_bm (id := "dict.update") PySem.F.plainAttrs_dict PySem.F.slot_dict_update PySem.F.type_dict_update mt_updK (pe_var hN hv hd hcd) (pa_cons he pa_nil hs) hbase hfew hline hs hplain) hsw).imp fun D σ H w =>
    mut_core w ty_dict fun P H1 a v d dv d' hp o r hm Q hQ => by
      cases o with
      | lst h ra => simp [mutV] at hm
      | dk h ra =>
        cases r with
        | dk n2 h2 rb =>
          simp only [mutV] at hm
          split at hm
          · rename_i hz
            simp only [Bool.and_eq_true, decide_eq_true_eq] at hz
            cases hm
            exact ⟨a, _, _, _, rfl, rfl, fun z => n2 (z ▸ hp), h, h2.rd, by rw [ra.length, rb.length]; exact hz.2, hQ _ _ (.dk upd_same ((rpK_merge rb ra).ext (own_ext hp h fun _ z => nomatch z)))⟩
          · cases hm
        | dt n2 h2 rb =>
          simp only [mutV] at hm
          split at hm
          · rename_i hz
            simp only [Bool.and_eq_true, decide_eq_true_eq] at hz
            exact absurd (rpT_plain rb hz.1.2) h2.1
          · cases hm
        | _ => simp [mutV] at hm
      | dt n h ra =>
        cases r with
        | dk n2 h2 rb =>
          simp only [mutV] at hm
          split at hm
          · rename_i hz
            simp only [Bool.and_eq_true, decide_eq_true_eq] at hz
            exact absurd (rpT_plain ra hz.1.1) n
          · cases hm
        | dt n2 h2 rb =>
          simp only [mutV] at hm
          split at hm
          · rename_i hz
            simp only [Bool.and_eq_true, decide_eq_true_eq] at hz
            exact absurd (rpT_plain ra hz.1.1) n
          · cases hm
        | _ => simp [mutV] at hm
end
end PP

/-! PP31: sets of ints and texts, any number of them, made of a list, and sorted: after the house's sets of ints (HandS.Set, HandS.SetFor), by the kind of keys that dicts have. -/
namespace PP
open PySem PySem.Spec PyProof.Rows L2 RZ
def memK (ks : List L2.Key) (j : L2.Key) : Bool := ks.any fun x => decide (x = j)
theorem memK_iff {ks : List L2.Key} {j : L2.Key} : memK ks j = true ↔ j ∈ ks := by
  unfold memK
  simp
def kofV : Value → L2.Key
  | .int i _ => .inl i
  | .str x _ => .inr x
  | _ => .inl 0
theorem kof_rel {k : L2.Key} {v : Value} (r : RelV (kV k) v) : kofV v = k := by
  cases k with
  | inl i => obtain ⟨t, rfl⟩ := (show ∃ t, v = Value.int i t from r); rfl
  | inr x => obtain ⟨t, rfl⟩ := (show ∃ t, v = Value.str x t from r); rfl
section
variable (P : Program) (w : World)
abbrev mxK : KeyKind P w L2.Key := mixKind P w
def GoodM (e : Int × Value) : Prop := ∃ k : L2.Key, RelV (kV k) e.2 ∧ e.1 = (mxK P w).hash k
abbrev keyM (e : Int × Value) : L2.Key := kofV e.2
/-- the set at a: S its members, n their number, its table such that it can be walked -/
def SetM (h : Heap) (a : Addr) (S : L2.Key → Bool) (n : Nat) : Prop := ∃ o es ep t, h.get? a = some o ∧ o.ExactSet ∧ o.data = .set es ep t ∧ (∀ e ∈ es.toList, GoodM P w e) ∧ (es.toList.map keyM).Nodup ∧
    (∀ k, S k = true ↔ k ∈ es.toList.map keyM) ∧ es.size < scanBound ∧ t.fits es.size = true ∧ es.size = n ∧ Ris t.place.toList ∧ (w.params.followText "set-order" = true ∨ t.led = true)
end
section
variable {P : Program} {w : World} {h h' : Heap} {a : Addr} {S : L2.Key → Bool} {n : Nat}
theorem SetM.at (R : SetM P w h a S n) (k : ∀ o, h.get? a = some o → h'.get? a = some o) : SetM P w h' a S n := let ⟨o, es, ep, t, ho, r⟩ := R; ⟨o, es, ep, t, k o ho, r⟩
theorem SetM.congr {S' : L2.Key → Bool} (R : SetM P w h a S n) (e : ∀ k, S' k = S k) : SetM P w h a S' n := by
  rw [show S' = S from funext e]; exact R
theorem goodM_elems {l : List (Int × Value)} (g : ∀ e ∈ l, GoodM P w e) : ElemsOf (mxK P w) l := fun e he => let ⟨k, h1, h2⟩ := g e he; ⟨⟨k, kV_is h1, h2⟩, key_scan h1⟩
theorem goodM_is {e : Int × Value} (g : GoodM P w e) (k : L2.Key) : (mxK P w).is k e.2 = true ↔ keyM e = k := by
  obtain ⟨k0, h1, _⟩ := g
  rw [show keyM e = k0 from kof_rel h1]
  exact ⟨fun q => (mxK P w).inj _ _ _ (kV_is h1) q, fun q => q ▸ kV_is h1⟩
theorem goodM_mem {l : List (Int × Value)} (g : ∀ e ∈ l, GoodM P w e) (k : L2.Key) : k ∈ l.map keyM ↔ ∃ e ∈ l, (mxK P w).is k e.2 = true := by
  rw [List.mem_map]
  exact ⟨fun ⟨e, he, q⟩ => ⟨e, he, (goodM_is (g e he) k).2 q⟩, fun ⟨e, he, q⟩ => ⟨e, he, (goodM_is (g e he) k).1 q⟩⟩
end
section
variable {P : Program} {w : World} {A : Around} {E : Value → Shared → Prop} {s : Shared} {a : Addr} {S : L2.Key → Bool} {n : Nat}
/-- the store behind an add -/
theorem setM_tail {g : Bool → Sem Unit} (hg : ∀ (b : Bool) (s₁ : Shared) (Q' : Unit → Shared → Prop), Q' () s₁ → wpAny (model P w) A (g b) Q' E s₁)
    {o : Obj} {es es1 : Array (Int × Value)} {ep : Nat} {t t2 : SetTable} (ho : s.heap.get? a = some o) (hex : o.ExactSet) (hd : o.data = .set es ep t) {S' : L2.Key → Bool}
    (g1 : ∀ e ∈ es1.toList, GoodM P w e) (nd1 : (es1.toList.map keyM).Nodup) (m1 : ∀ k, S' k = true ↔ k ∈ es1.toList.map keyM) (hb1 : es1.size < scanBound) (hf2 : t2.fits es1.size = true) (hr : Ris t2.place.toList)
    (hl : w.params.followText "set-order" = true ∨ t2.led = true) {wasDummy : Bool} {R : Option Bool → Shared → Prop} (hR : ∀ h', Heap.SameBut a s.heap h' → SetM P w h' a S' es1.size → R (some true) { s with heap := h' }) :
    wpAny (model P w) A (do
        storeSet a es1 t2
        if (!wasDummy && t2.tooFull) = true then do
            g (relayAll t2 es1 (SetTable.grown es1.size)).2.2
            storeSet a (relayAll t2 es1 (SetTable.grown es1.size)).1 (relayAll t2 es1 (SetTable.grown es1.size)).2.1
            pure (some true)
          else pure (some true)) R E s := by
  have sb1 := Heap.SameBut.update s.heap a (Obj.putSet es1 t2)
  have ho1 := store_at (es' := es1) (t' := t2) ho hd
  refine wpAny_bind (wpAny_storeSet_of ho hd ?_ (fits_of_scanBound hb1))
  split
  case isFalse => exact wpAny_pure (hR _ sb1 ⟨_, es1, _, t2, ho1, hex, rfl, g1, nd1, m1, hb1, hf2, rfl, hr, hl⟩)
  case isTrue =>
    have pm := relayAll_perm t2 es1 (SetTable.grown es1.size)
    have f3 := relayAll_fits t2 es1 (SetTable.grown es1.size)
    have r3 := relayAll_ris t2 es1 (SetTable.grown es1.size)
    have l3 := relayAll_led t2 es1 (SetTable.grown es1.size)
    generalize relayAll t2 es1 (SetTable.grown es1.size) = Z at pm f3 r3 l3 ⊢
    obtain ⟨es2, t3, gave⟩ := Z
    dsimp only at pm f3 r3 l3 ⊢
    have hsz : es2.size = es1.size := by
      have := pm.length_eq
      rwa [Array.length_toList, Array.length_toList] at this
    have hb2 : es2.size < scanBound := hsz ▸ hb1
    refine wpAny_bind (hg _ _ _ (wpAny_bind (wpAny_storeSet_of ho1 rfl ?_ (fits_of_scanBound hb2))))
    exact wpAny_pure (hR _ (sb1.trans (Heap.SameBut.update _ a _)) ⟨_, es2, _, t3, store_at (es' := es2) (t' := t3) ho1 rfl, hex, rfl, fun e he => g1 e (pm.mem_iff.mp he), (pm.map keyM).nodup_iff.mpr nd1,
      fun k => (m1 k).trans (pm.map keyM).mem_iff.symm, hb2, f3, hsz, r3, hl.imp id fun z => l3.trans z⟩)
/-- a key is put in -/
theorem setM_add {k : L2.Key} {v : Value} {Q : Bool → Shared → Prop} (hv : RelV (kV k) v) (R : SetM P w s.heap a S n) (room : n + 1 < scanBound)
    (hQ : ∀ h', Heap.SameBut a s.heap h' → SetM P w h' a (fun j => S j || decide (j = k)) (if S k = true then n else n + 1) → Q (!S k) { s with heap := h' }) :
    wpAny (model P w) A (setAddHashed a v ((mxK P w).hash k)) Q E s := by
  obtain ⟨o, es, ep, t, ho, hex, hd, g, nd, hm, hb, hf, hn, hr, hl⟩ := R
  have hkey : (mxK P w).is k v = true := kV_is hv
  have hsc : v.scannable = true := key_scan hv
  have hel : ElemsOf (mxK P w) es.toList := goodM_elems g
  unfold setAddHashed setAddHashedIn
  refine wpAny_holding (wpAny_bind (wpAny_setState_of ho hd hf ?_))
  dsimp only
  rw [byScan_of hsc hb hel]
  simp only [↓reduceIte]
  unfold setAddByScan
  refine wpAny_bind (wpAny_bind (wpAny_rule (wpAny_bind (wpAny_setScan_of hkey ho hd hf hel ?_))))
  cases hfi : List.findIdx? (fun e => (mxK P w).is k e.2) es.toList with
  | some j =>
    obtain ⟨hj, pj, _⟩ := List.findIdx?_eq_some_iff_getElem.mp hfi
    have hSk : S k = true := (hm k).2 ((goodM_mem g k).2 ⟨es.toList[j], List.getElem_mem hj, pj⟩)
    have q := hQ s.heap (Heap.SameBut.refl a s.heap) ⟨o, es, ep, t, ho, hex, hd, g, nd, fun i => by
      rw [Bool.or_eq_true, decide_eq_true_eq, ← hm i]
      exact ⟨fun z => z.elim id (fun e => e ▸ hSk), .inl⟩, hb, hf, by rw [if_pos hSk]; exact hn, hr, hl⟩
    rw [hSk] at q
    exact wpAny_pure (wpAny_pure q)
  | none =>
    have hnk : k ∉ es.toList.map keyM := fun z => by
      obtain ⟨e, he, q⟩ := (goodM_mem g k).1 z
      have c := List.findIdx?_eq_none_iff.mp hfi e he
      rw [q] at c
      cases c
    have hSk : S k = false := Bool.eq_false_iff.mpr fun q => hnk ((hm k).1 q)
    have hgw : ∀ (b : Bool) {s₁ : Shared} {Q' : Unit → Shared → Prop}, Q' () s₁ → wpAny (model P w) A (match b with | true => rule "set.scan.the-table-gave-way" | false => pure ()) Q' E s₁ :=
      fun b s₁ Q' q => by cases b <;> first | exact wpAny_pure q | exact wpAny_rule q
    have pm := layNew_perm t es ((mxK P w).hash k) v
    have f1 := layNew_fits t es ((mxK P w).hash k) v
    have r1 := layNew_ris t es ((mxK P w).hash k) v hr
    have l1 := layNew_led t es ((mxK P w).hash k) v
    dsimp only
    generalize layNew t es ((mxK P w).hash k) v = Z at pm f1 r1 l1 ⊢
    obtain ⟨es1, t1, wasDummy, gave⟩ := Z
    dsimp only at pm f1 r1 l1 ⊢
    rw [Array.toList_push] at pm
    have pc : es1.toList.Perm (((mxK P w).hash k, v) :: es.toList) := pm.trans (List.perm_append_singleton _ _)
    have pk : (es1.toList.map keyM).Perm (k :: es.toList.map keyM) := by
      have := pc.map keyM
      rwa [List.map_cons, show keyM ((mxK P w).hash k, v) = k from kof_rel hv] at this
    have g1 : ∀ e ∈ es1.toList, GoodM P w e := fun e he => (List.mem_cons.mp (pc.mem_iff.mp he)).elim (fun z => z ▸ ⟨k, hv, rfl⟩) (g e)
    have nd1 : (es1.toList.map keyM).Nodup := pk.nodup_iff.mpr (List.nodup_cons.mpr ⟨hnk, nd⟩)
    have m1 : ∀ i, (S i || decide (i = k)) = true ↔ i ∈ es1.toList.map keyM := fun i => by
      rw [Bool.or_eq_true, decide_eq_true_eq, hm i, pk.mem_iff, List.mem_cons, or_comm]
    have hsz : es1.size = n + 1 := by
      have := pc.length_eq
      rwa [Array.length_toList, List.length_cons, Array.length_toList, hn] at this
    have hb1 : es1.size < scanBound := hsz ▸ room
    have hled : w.params.followText "set-order" = true ∨ t1.led = true := hl.imp id fun z => l1.trans z
    have fin : ∀ h', Heap.SameBut a s.heap h' → SetM P w h' a (fun j => S j || decide (j = k)) es1.size → Q true { s with heap := h' } := fun h' sb r => by
      have q := hQ h' sb
      rw [hSk] at q
      exact q (hsz ▸ r)
    refine wpAny_bind (hgw _ ?_)
    split
    · refine wpAny_bind ?_
      rw [hashByValue_scannable 8 hsc]
      refine wpAny_pure (setM_tail (fun b s₁ Q' q => hgw b q) ho hex hd g1 nd1 m1 hb1 ?_ ?_ ?_ fun h' sb r => wpAny_pure (fin h' sb r))
      · first | (split <;> first | exact f1 | exact SetTable.fits_plain_off f1) | exact f1
      · first | (split <;> exact r1) | exact r1
      · first | (split <;> exact hled) | exact hled
    · refine wpAny_bind (wpAny_pure ?_)
      simp only [↓reduceIte]
      exact setM_tail (fun b s₁ Q' q => hgw b q) ho hex hd g1 nd1 m1 hb1 f1 r1 hled fun h' sb r => wpAny_pure (fin h' sb r)
theorem setM_new {h : Heap} {a : Addr} {ks : List L2.Key} (ho : h.get? a = some { cls := .type "set", dict := none, data := .set #[] 0 (.fresh 0 0 (!w.params.followText "set-order")) }) : SetM P w h a (fun j => memK (ks.take 0) j) 0 :=
  ⟨_, #[], 0, _, ho, ⟨rfl, rfl, rfl⟩, rfl, (fun e he => by simp at he), (by simp), (fun k => by simp [memK]), (by decide), (by rfl), rfl, List.Pairwise.nil, (by cases e : w.params.followText "set-order" with
    | true => exact .inl rfl
    | false => exact .inr (by first | rfl | simp [SetTable.fresh, e]))⟩
/-- the loop that fills it -/
theorem setM_loop {I : Addr} {fp wr : List Addr} {G : Array GenState → Array GenState → Prop} {n : Nat} {Pv : Nat → Value → Prop} {St : Nat → Shared → Prop} {R : Result → Shared → Prop}
    (W : WalksS P w A.in1 I fp wr G n Pv St) (S : Addr) (hSf : S ∉ fp) (ks : List L2.Key) (hn : n = ks.length) (hb : ks.length + 1 < scanBound) (hval : ∀ i v, Pv i v → ∃ k, ks[i]? = some k ∧ RelV (kV k) v) :
    ∀ (k i : Nat) (s : Shared), n - i = k → i ≤ n → St i s → (∃ c, c ≤ i ∧ SetM P w s.heap S (fun j => memK (ks.take i) j) c) →
      (∀ s' c, Moved (S :: wr) G s s' → c ≤ n → SetM P w s'.heap S (fun j => memK ks j) c → R (.ok (.ret .none)) s') → codeAny (model P w) A (.builtin "set.update.loop" ⟨[.ref S, .ref I], []⟩) R s := by
  have hSw : S ∉ wr := fun h => hSf (W.sub _ h)
  have hsub : ∀ b ∈ wr, b ∈ S :: wr := fun b hb => List.mem_cons_of_mem _ hb
  intro k
  induction k with
  | zero =>
    intro i s hk' hi hst ⟨c, hc, hS⟩ hR
    obtain rfl : i = n := by omega
    refine codeAny_builtin F.entry_set_update_loop ?_
    rw [Around.under_plainId F.plain_set_update_loop _]
    refine wpAny_bind (W.done s _ _ hst fun s' hm => wpAny_pure (hR s' c (hm.mono hsub) hc ?_))
    rw [List.take_of_length_le (by omega)] at hS
    exact hS.at fun o e => hm.heap S o hSw e
  | succ k ih =>
    intro i s hk' hi hst ⟨c, hc, hS⟩ hR
    have hlt : i < n := by omega
    refine codeAny_builtin F.entry_set_update_loop ?_
    rw [Around.under_plainId F.plain_set_update_loop _]
    refine wpAny_bind (W.item i s _ _ hlt hst fun v s' hP hst' hm => ?_)
    obtain ⟨z, hz, rv⟩ := hval i v hP
    have hS' : SetM P w s'.heap S (fun j => memK (ks.take i) j) c := hS.at fun o e => hm.heap S o hSw e
    refine wpAny_bind (wpAny_holding ?_)
    unfold setAdd
    refine wpAny_holding (wpAny_bind ((mxK P w).pyHash (kV_is rv) (setM_add (s := { s' with toks := s'.toks + 1 }) rv hS' (by omega) fun h' hsb hS2 => ?_)))
    have hS3 : SetM P w h' S (fun j => memK (ks.take (i + 1)) j) (if memK (ks.take i) z = true then c else c + 1) := hS2.congr fun j => by
      rw [List.take_add_one, hz]
      simp [memK, List.any_append, eq_comm]
    have hc3 : (if memK (ks.take i) z = true then c else c + 1) ≤ i + 1 := by split <;> omega
    refine wpAny_pure ⟨plainId_quiet F.plain_set_update_loop _, ih (i + 1) _ (by omega) hlt (W.frame _ s' _ _ hst' (Nat.le_succ _) fun b hb o e => ?_) ⟨_, hc3, hS3⟩ fun s'' c'' hm'' hc'' hS'' => ?_⟩
    · exact (hsb.2 b fun h : b = S => hSf (h ▸ hb)).trans e
    · refine hR s'' c'' (Moved.trans W.gtrans ((hm.mono hsub).then_heap (Nat.le_succ _) fun b o hb e => ?_) hm'') hc'' hS''
      exact (hsb.2 b fun h : b = S => hb (h ▸ List.mem_cons_self)).trans e
end
end PP

/-! PP32: sorted(set(xs)), xs a list of ints or of texts. -/
namespace PP
open PySem PySem.Spec PyProof.Rows L2 RZ
abbrev setObj0 (w : World) : Obj := { cls := .type "set", dict := none, data := .set #[] 0 (.fresh 0 0 (!w.params.followText "set-order")) }
section
variable {P : Program} {w : World} {A : Around} {E : Value → Shared → Prop} {s : Shared}
set_option maxHeartbeats 3200000 in
/-- set(xs): the members are the keys -/
theorem setM_list {l : Addr} {items : Array Value} (ks : List L2.Key) {Q : Value → Shared → Prop} (hh : A.handled = none) (hl : s.heap.IsList l items) (hit : Vals (ks.map kV) items.toList) (hb : ks.length + 1 < scanBound)
    (h : ∀ (h' : Heap) (tk c : Nat), SetM P w h' s.heap.objs.size (memK ks) c → c ≤ ks.length → (∀ b o, s.heap.get? b = some o → h'.get? b = some o) → Q (.ref s.heap.objs.size) { s with heap := h', toks := tk }) :
    wpAny (model P w) A (call (.type "set") [.ref l]) Q E s := by
  have hisz : items.size = ks.length := by
    have q : (ks.map kV).length = items.toList.length := hit.length
    rw [List.length_map] at q
    exact q.symm
  obtain ⟨c, tl, hmro⟩ := F.called_set.mro
  have hmade := F.called_set.made
  have hsub := F.called_set.sub
  have h1 := F.called_set.notType
  have h2 := F.called_set.canCreate
  have hct := F.typeCall_set_1 (.ref l)
  refine wpAny_call (codeAny_of_tree ?_)
  show wpAny _ _ (callAny (.type "set") _) _ _ _
  refine wpAny_pure ⟨Code.quiet_builtin _ (by decide +kernel), codeAny_builtin F.entry_type_call ?_⟩
  rw [Around.under_plain (weight_type_call_type "set" [.ref l] []) rfl]
  repeat (any_goals (first | assumption | wp_step))
  refine codeAny_mono (code_set_led1 (.ref l) (E := E) (Q₁ := fun obj s₁ => obj = .ref s.heap.objs.size ∧ s₁ = { s with heap := s.heap.push (setObj0 w) }) ⟨rfl, rfl⟩) fun r s₁ hr => ?_
  rcases r with e | fl
  · exact hr
  cases fl with
  | ret obj =>
    obtain ⟨rfl, rfl⟩ := hr
    have hS : (s.heap.push (setObj0 w)).get? s.heap.objs.size = some (setObj0 w) := Heap.get?_push_size _ rfl
    have hT : Shared.TypeIs { s with heap := s.heap.push (setObj0 w) } (.ref s.heap.objs.size) "set" := ⟨_, hS, rfl⟩
    have hli := F.called_set.init.lookup
    have hbi := F.called_set.init.bind (.ref s.heap.objs.size)
    repeat (any_goals (first | assumption | wp_step))
    refine codeAny_mono (codeAny_call_builtin (R := wants (fun r s₂ => r = .none ∧ ∃ h' tk c, s₂ = { s with heap := h', toks := tk } ∧ SetM P w h' s.heap.objs.size (memK ks) c ∧ c ≤ ks.length ∧
        (∀ b o, s.heap.get? b = some o → h'.get? b = some o)) E) F.called_set.init.plain F.entry_set_init (check_set_init_1 hT ?_)) fun r₂ s₂ hr₂ => ?_
    · obtain ⟨⟨ocls, odict, odata, oslots⟩, hol, hcl, nl, hdl⟩ := hl
      simp only at hcl hdl
      subst hcl; subst hdl
      have hol' : (s.heap.push (setObj0 w)).get? l = some { cls := .type "list", dict := odict, data := .seq items nl, slots := oslots } := Heap.get?_push_of_some _ hol
      have hsls := F.sub_list_set
      have hslf := F.sub_list_frozenset
      have hne : (Value.type "list" == Value.type "dict") = false := by decide
      have hl1 : (s.heap.push (setObj0 w)).IsList l items := ⟨_, hol', rfl, nl, rfl⟩
      have hlS : l < s.heap.objs.size := Heap.lt_size hol
      have hz1 : (s.heap.push (setObj0 w)).objs.size = s.heap.objs.size + 1 := Heap.size_push ..
      have hneI : l ≠ (s.heap.push (setObj0 w)).objs.size := by rw [hz1]; exact Nat.ne_of_lt (Nat.lt_succ_of_lt hlS)
      have hSf : s.heap.objs.size ∉ [(s.heap.push (setObj0 w)).objs.size, l] := by
        rw [hz1]; simp only [List.mem_cons, List.not_mem_nil, or_false, not_or]
        exact ⟨Nat.ne_of_lt (Nat.lt_succ_self _), Nat.ne_of_gt hlS⟩
      unfold Builtin.«set.__init__» noKeywords Builtin.Frozenset.updateFrom
      generalize hPI : pyIter = PI
      wp_walk
      subst hPI
      refine wpAny_pyIter_list hl1 (wpAny_bind (wpAny_runValue ?_))
      have hh3 : A.in1.in1.in1.handled = none := by simp [hh]
      have hval : ∀ (i : Nat) (v : Value), items[i]? = some v → ∃ k, ks[i]? = some k ∧ RelV (kV k) v := fun i v hv => by
        obtain ⟨x, hx, rx⟩ := prR hit (by rw [Array.getElem?_toList]; exact hv)
        rw [List.getElem?_map] at hx
        obtain ⟨k, hk, rfl⟩ := Option.map_eq_some_iff.mp hx
        exact ⟨k, hk, rx⟩
      refine setM_loop ((Walks.list hh3 _ l hneI items).toS) s.heap.objs.size hSf ks hisz hb hval (items.size - 0) 0 _ (by omega) (Nat.zero_le _)
        ⟨⟨_, Heap.get?_push_size _ rfl, rfl, rfl⟩, (hl1.push _)⟩ ⟨0, Nat.le_refl 0, setM_new (Heap.get?_push_of_some _ hS)⟩ fun s' c' hm hc' hS' => ?_
      obtain ⟨h', g2, d', tk', os'⟩ := s'
      have eg : g2 = s.gens := hm.gens
      have ed : d' = s.drawn := hm.drawn
      have eo : os' = s.os := hm.os
      subst eg; subst ed; subst eo
      refine wpAny_pure ?_
      show wpAny _ _ (ret Value.none) _ _ _
      refine wpAny_pure ⟨rfl, h', tk', c', rfl, hS', hisz ▸ hc', fun b o e => ?_⟩
      have hb0 : b < s.heap.objs.size := Heap.lt_size e
      refine hm.heap b o ?_ (Heap.get?_push_of_some _ (Heap.get?_push_of_some _ e))
      simp only [List.mem_cons, List.not_mem_nil, or_false, not_or]
      rw [hz1]
      exact ⟨Nat.ne_of_lt hb0, Nat.ne_of_lt (Nat.lt_succ_of_lt hb0)⟩
    · rcases r₂ with e | fl₂
      · exact hr₂
      cases fl₂ with
      | ret r =>
        obtain ⟨rfl, h', tk, c', rfl, hS', hc', hk'⟩ := hr₂
        repeat (any_goals (first | assumption | wp_step))
        exact h _ _ _ hS' hc' hk'
      | _ => exact hr₂.elim
  | _ => exact hr.elim
end
end PP

/-! PP33: sorted(set(xs)), the expression. -/
namespace PP
open PySem PySem.Spec PyProof.Rows L2 RZ
section
variable {X : Cx}
/-- sorted(x), x collected, its items in an order that is not known -/
theorem sortedCE (hu : X.A.units + 70 < cLine) {pins : List (Addr × Obj)} {σ : L2.St} {H : Hp} {s : Shared} {P : Addr → Prop} {Q : VK} {u : Value} {ds0 : List PyData} (w : WantP X.K P H Q (.list (sortD ds0)) .fr)
    (col : ∀ (E : Value → Shared → Prop) (Q' : List Value → Shared → Prop), (∀ its s1 xs ds, Inv X pins σ H s1 → Vals xs its → RpAll X.K H P xs ds → sortOk ds = true → sortD ds = sortD ds0 → Q' its s1) → wpAny (model X.prog X.w) X.A.in1 (collect u) Q' E s) :
    wpAny (model X.prog X.w) X.A (call (.builtin "sorted") [u]) (EP X pins σ Q) X.xe s := by
  have hd : mxD = 40 := rfl
  refine Calls.call_function_entry PyProof.Rows.kind_sorted PyProof.Rows.plain_sorted PyProof.Rows.entry_sorted (PyProof.Rows.args_sorted1 _) ?_
  unfold Builtin.«sorted»
  refine wpAny_bind (m := checkCount "sorted" 1 1 _) (wpAny_pure ?_)
  refine wpAny_bind (col _ _ fun its s1 xs ds I1 rv r ok es0 => ?_)
  rw [← es0] at w
  obtain ⟨h1, h2, h3, h4, h5⟩ := sortOk_ok ok
  have hl : its.length = ds.length := rv.length.symm.trans r.length
  refine wpAny_bind (wpAny_newList ?_ (by rw [hl]; exact h5))
  have hoL : (s1.heap.push (seqObj "list" its.toArray 0)).get? s1.heap.objs.size = some (seqObj "list" its.toArray 0) := Heap.get?_push_size _ rfl
  have old : ∀ b o, s1.heap.get? b = some o → (PySem.W.sortingHeap (s1.heap.push (seqObj "list" its.toArray 0)) s1.heap.objs.size its).get? b = some o := fun b o e => by
    have hb : b < s1.heap.objs.size := Heap.lt_size e
    have e2 : (s1.heap.push (seqObj "list" its.toArray 0)).get? b = some o := Heap.get?_push_of_some _ e
    exact PySem.W.sortingHeap_old (Nat.ne_of_lt hb) e2
  obtain ⟨as, rr⟩ := r.readsAll I1 h2 rv
  have es : PySem.W.EachIs (fun v d => ∃ as, Reads (PySem.W.sortingHeap (s1.heap.push (seqObj "list" its.toArray 0)) s1.heap.objs.size its) v d as) its ds :=
    (each_of rr).mono fun _ _ ⟨as, q⟩ => ⟨as, PyProof.Rows.Reads.keeps old q⟩
  have dep : ∀ d, d ∈ ds → X.A.in1.in1.units + d.depth < cLine := by
    intro d hd'
    have : d.depth ≤ PyData.depthAll ds := by
      clear rr es r h1 h4 ok w hl rv col es0
      induction ds with
      | nil => cases hd'
      | cons x xs ih =>
        show d.depth ≤ max x.depth (PyData.depthAll xs)
        rcases List.mem_cons.mp hd' with rfl | hb
        · exact Nat.le_max_left _ _
        · exact Nat.le_trans (ih (plainAll_cons h2).2 (Nat.le_trans (Nat.le_max_right _ _) h3) (Nat.le_of_succ_le h5) hb) (Nat.le_max_right _ _)
    show X.A.units + 1 + 1 + d.depth < cLine
    omega
  have S := PySem.W.SortsAt.data (prog := X.prog) (w := X.w) (A := X.A.in1.in1) (s := { s1 with heap := PySem.W.sortingHeap (s1.heap.push (seqObj "list" its.toArray 0)) s1.heap.objs.size its }) es h1 h4 dep
  have sd := PySem.W.sortVals_data (h' := PySem.W.sortingHeap (s1.heap.push (seqObj "list" its.toArray 0)) s1.heap.objs.size its) (R := Sd X.K H P) (enc := fun d : PyData => d) false (sd_of r rv) es (by simpa using h1)
  show wpAny _ _ _ _ _ { s1 with heap := s1.heap.push (seqObj "list" its.toArray 0) }
  refine wpAny_bind (wpAny_holding (wpAny_call_entry PyProof.Rows.slot_list_sort ⟨_, hoL, rfl⟩ PyProof.Rows.entry_list_sort
    (PySem.W.list_sort_vals (s := { s1 with heap := s1.heap.push (seqObj "list" its.toArray 0) }) hoL S (by rw [hl]; exact h5) ⟨_, rfl, ?_⟩)
    (PyProof.Rows.args_list_sort _)))
  obtain ⟨ws, rw1, rw2⟩ := of_sd sd
  obtain ⟨e', he'⟩ := PyProof.Rows.sortedHeap_at (vs := its) (out := (PySem.W.sortVals (PySem.W.dataKind (PySem.W.sortingHeap (s1.heap.push (seqObj "list" its.toArray 0)) s1.heap.objs.size its) ds) false its its).toArray) hoL
  have hlen : ws.length ≤ sizeLine := by rw [rw1.length, List.length_mergeSort]; exact h5
  refine wpAny_pure ⟨_, rfl, .ref s1.heap.objs.size, upd H s1.heap.objs.size (.lst ws), I1.laid (t' := s1.toks) (fun b u e => ?_) (Nat.le_refl _)
    (show ObjOk X.prog X.w _ _ _ (.lst ws) from ⟨hlen, _, e', by simpa using rw2, by simpa using he'⟩), rfl, w.lst ?_ _ (I1.hok.fresh (Nat.le_refl _))⟩
  · have hb : b < s1.heap.objs.size := Heap.lt_size e
    rw [PyProof.Rows.sortedHeap_old (Nat.ne_of_lt hb) (by rw [size_push']; exact Nat.lt_succ_of_lt hb)]
    exact Heap.get?_push_of_some _ e
  · exact rw1
end
theorem keysD_dat : ∀ {xs : List PyData} {ks : List (Sum Int Str)}, keysD xs = some ks → xs = ks.map keyDat
  | [], ks, h => by cases h; rfl
  | x :: xs, ks, h => by
    simp only [keysD] at h
    obtain ⟨k, h1, h⟩ := bind_some h
    obtain ⟨ks', h2, h⟩ := bind_some h
    cases h
    rw [List.map_cons, ← keysD_dat h2]
    congr 1
    cases x <;> simp [keyD] at h1 <;> subst h1 <;> rfl
theorem dedupK_mem : ∀ (ks : List (Sum Int Str)) (k : Sum Int Str), k ∈ dedupK ks ↔ k ∈ ks
  | [], k => by simp [dedupK]
  | x :: ks, k => by
    simp only [dedupK, List.mem_cons, List.mem_filter, dedupK_mem ks]
    by_cases h : k = x <;> simp [h]
theorem dedupK_nodup : ∀ ks : List (Sum Int Str), (dedupK ks).Nodup
  | [] => by simp [dedupK]
  | x :: ks => by
    simp only [dedupK, List.nodup_cons]
    exact ⟨by simp, (dedupK_nodup ks).filter _⟩
theorem dedupK_len : ∀ ks : List (Sum Int Str), (dedupK ks).length ≤ ks.length
  | [] => Nat.le_refl _
  | x :: ks => by
    have := dedupK_len ks
    have := List.length_filter_le (fun j => !decide (j = x)) (dedupK ks)
    simp only [dedupK, List.length_cons]
    omega
theorem sortOk_sub {xs ys : List PyData} (h : sortOk xs = true) (hs : ∀ y, y ∈ ys → y ∈ xs) (hl : ys.length ≤ xs.length) : sortOk ys = true := by
  rw [sortOk_eq] at h ⊢
  simp only [Bool.and_eq_true, Bool.or_eq_true, decide_eq_true_eq] at h ⊢
  obtain ⟨⟨⟨h1, h2⟩, h3⟩, h4⟩ := h
  refine ⟨⟨⟨alk_all.mpr ((alk_all.mp h1).sub hs), ?_⟩, ?_⟩, Nat.le_trans hl h4⟩
  · rw [okD_list] at h2 ⊢
    exact List.all_eq_true.mpr fun y hy => List.all_eq_true.mp h2 y (hs y hy)
  · exact h3.imp (fun z => List.all_eq_true.mpr fun y hy => List.all_eq_true.mp z y (hs y hy)) fun z => List.all_eq_true.mpr fun y hy => List.all_eq_true.mp z y (hs y hy)
theorem rp_keys {K : PySem.W.Frag} {H : Hp} {P : Addr → Prop} : ∀ ks : List L2.Key, RpAll K H P (ks.map kV) (ks.map keyDat)
  | [] => .nil
  | .inl i :: ks => .cons (.int i) (rp_keys ks)
  | .inr x :: ks => .cons (.str x) (rp_keys ks)
theorem keys_rpV {K : PySem.W.Frag} {H : Hp} {P : Addr → Prop} : ∀ {ks : List L2.Key} {vs : List V}, RpAll K H P vs (ks.map keyDat) → vs = ks.map kV
  | [], _, .nil => rfl
  | .inl i :: ks, _, .cons (.int _) rs => by rw [keys_rpV rs]; rfl
  | .inr x :: ks, _, .cons (.str _) rs => by rw [keys_rpV rs]; rfl
theorem vals_keys : ∀ {its : List Value}, (∀ v, v ∈ its → ∃ k : L2.Key, RelV (kV k) v) → Vals ((its.map kofV).map kV) its
  | [], _ => .nil
  | v :: its, h => by
    obtain ⟨k, r⟩ := h v (List.mem_cons_self ..)
    refine .cons ?_ (vals_keys fun u hu => h u (List.mem_cons_of_mem _ hu))
    rw [kof_rel r]; exact r
section
variable {X : Cx} {Φ : Nat → List PyData → Option (PyData × List PyData)} {gl : List PyData} {a : Expr} {ea : E} {pos p p2 q : Pos}
theorem e_sortedSet (hg : Gl X "sorted") (hm : X.mg "sorted" = none) (hg2 : Gl X "set") (hm2 : X.mg "set" = none) (ha : PEv X Φ gl a ea) (hc : X.calm = true) (hu : X.A.units + 70 < cLine)
    (na : starEach [a] X.env = (false, eval a X.env) :: starEach [] X.env := by rfl) : PEv X Φ gl (.Call (.Name "sorted" p) [.Call (.Name "set" p2) [a] [] q] [] pos) (.bi .sortedSet (.cons ea .nil)) := by
  refine ⟨fun pins s σ H Q I ⟨F, ρ, d, fl, ρ', en, sa, sm, h, w⟩ => ?_⟩
  simp only [ev, evs] at h
  obtain ⟨⟨ds, ρ1⟩, h1, h⟩ := bind_some h
  obtain ⟨⟨x, fx, ρ2⟩, h2, h1⟩ := bind_some h1
  cases h1
  obtain ⟨⟨d', f'⟩, h3, h⟩ := bind_some h
  cases h
  refine Call_ (ld_blt I hg hm (show bootBuiltins "sorted" = some (.builtin "sorted") from rfl) ?_)
  refine PyProof.Rows.callWith_builtin1 (PyProof.Rows.args_cons ?_ rfl) rfl rfl
  refine Call_ (ld_blt I hg2 hm2 boot_set ?_)
  refine PyProof.Rows.callWith_type1 (PyProof.Rows.args_cons (thn (ha.run pins s σ H _ I (one (Q := fun v H1 => ∃ l ks, v = .ref l ∧ SqL X.K H1 l (ks.map kV) ∧ sortOk (ks.map keyDat) = true ∧ ks.length < 4000 ∧ WantP X.K F.P H1 Q (.list (sortD ((dedupK ks).map keyDat))) .fr) en (by simpa [als, alss] using sa) (by simpa [mods, modss] using sm) h2 fun v H1 en1 k1 r1 => ?_)) fun v s1 ⟨x, H1, I1, r1, q1⟩ => PyProof.Rows.args_nil ?_) na) na rfl
  · replace h3 : v_sortedSet [x] = some (d', f') := h3
    simp only [v_sortedSet] at h3
    cases x with
    | list xs =>
      try dsimp only at h3
      obtain ⟨ks, h4, h5⟩ := bind_some h3
      clear h3
      split at h5
      · rename_i hz
        rw [Bool.and_eq_true, decide_eq_true_eq] at hz
        have ex := keysD_dat h4
        subst ex
        cases h5
        cases r1.rp with
        | lst n hh ra =>
          have := keys_rpV ra
          subst this
          exact ⟨_, ks, rfl, .inl (.inl hh), hz.1, by simpa using hz.2, fin en1 k1 w⟩
      · cases h5
    | _ => simp at h3
  · obtain ⟨l, ks, rfl, hq, ok, hl, w1⟩ := q1
    cases r1
    obtain ⟨its, r, pl, hz⟩ := I1.list hq
    refine setM_list ks (I1.ok.hd hc) pl.isList (by simpa using r) (by unfold scanBound; omega) fun h' tk c hS hcl hk => ?_
    refine PyProof.Rows.args_nil ?_
    have I2 : Inv X pins σ H1 { s1 with heap := h', toks := tk } := I1.kept hk
    refine sortedCE hu w1 fun E Q' hQ => ?_
    obtain ⟨o, es, ep, t, ho, hex, hd, g, nd, hm, hb, hf, hn, hr, hl2⟩ := hS
    refine collect_set (A := X.A.in1) (by simpa using I2.ok.hd hc) ⟨o, ho, hex.1, hd⟩ hf hb hr hl2 fun s' out k1 hz g1 o1 pm => ?_
    have I3 : Inv X pins σ H1 s' := I2.call' (ch := []) o1 (Un.kept k1) (I2.hok.kept k1) (by rw [g1]; exact I2.bare) (fun _ z => nomatch z)
    have hv : ∀ v, v ∈ out → ∃ k : L2.Key, RelV (kV k) v := fun v hv => by
      obtain ⟨e, he, rfl⟩ := List.mem_map.mp (pm.mem_iff.mp hv)
      obtain ⟨k, h1, _⟩ := g e he
      exact ⟨k, h1⟩
    have pk : (out.map kofV).Perm (es.toList.map keyM) := by
      have := pm.map kofV
      rwa [List.map_map] at this
    have mem : ∀ k, k ∈ out.map kofV ↔ k ∈ ks := fun k => by rw [pk.mem_iff, ← hm k, memK_iff]
    have pd : ((out.map kofV).map keyDat).Perm ((dedupK ks).map keyDat) := List.Perm.map _ ((List.perm_ext_iff_of_nodup (pk.nodup_iff.mpr nd) (dedupK_nodup ks)).mpr fun k => (mem k).trans (dedupK_mem ks k).symm)
    have hsub : ∀ y, y ∈ (out.map kofV).map keyDat → y ∈ ks.map keyDat := fun y hy => by
      obtain ⟨k, hk, rfl⟩ := List.mem_map.mp hy
      exact List.mem_map.mpr ⟨k, (mem k).mp hk, rfl⟩
    have hlen : ((out.map kofV).map keyDat).length ≤ (ks.map keyDat).length := by
      have := pd.length_eq
      have := dedupK_len ks
      simp at this ⊢
      simp at pd
      have q := pd.length_eq
      simp at q
      omega
    have ok2 := sortOk_sub ok hsub hlen
    refine hQ out s' _ _ I3 (vals_keys hv) (rp_keys _) ok2 (sortD_congr ?_ pd)
    rw [sortOk_eq] at ok2
    simp only [Bool.and_eq_true] at ok2
    exact alk_all.mp ok2.1.1.1
end
end PP

namespace PP
open PySem PySem.Spec PyProof.Rows L2
/-! PP34: sets of texts, sorted; dicts put together; comprehensions of two clauses. -/
open PySem.W
def unS : PyData → Str
  | .str s => s
  | _ => Str.ofString ""
def sortS (xs : List Str) : List Str := (sortD (xs.map .str)).map unS
theorem sortS_eq (xs : List Str) : sortD (xs.map .str) = (sortS xs).map .str := by
  unfold sortS
  rw [List.map_map]
  conv => lhs; rw [← List.map_id (sortD (xs.map .str))]
  apply List.map_congr_left
  intro d hd
  obtain ⟨s, _, rfl⟩ := List.mem_map.mp (mem_sortD.mp hd)
  rfl
theorem str_inj {xs ys : List Str} (h : xs.map PyData.str = ys.map PyData.str) : xs = ys := (List.map_inj_right fun x y e => PyData.str.inj e).mp h
theorem sortS_perm (xs : List Str) : (sortS xs).Perm xs := by
  have h := (sortD_perm (xs.map .str)).map unS
  rw [List.map_map] at h
  have e : xs.map (unS ∘ PyData.str) = xs := List.map_id xs
  rw [e] at h
  exact h
theorem sortS_mem {xs : List Str} {q : Str} : q ∈ sortS xs ↔ q ∈ xs := (sortS_perm xs).mem_iff
theorem sortS_len (xs : List Str) : (sortS xs).length = xs.length := (sortS_perm xs).length_eq
theorem sortS_congr {xs ys : List Str} (h : xs.Perm ys) : sortS xs = sortS ys := str_inj (by rw [← sortS_eq, ← sortS_eq]; exact sortD_congr (alk_strs xs) (h.map _))
theorem sortS_set {xs ys : List Str} (hx : xs.Nodup) (hy : ys.Nodup) (h : ∀ q, q ∈ xs ↔ q ∈ ys) : sortS xs = sortS ys := sortS_congr ((List.perm_ext_iff_of_nodup hx hy).mpr h)
def dedupS : List Str → List Str
  | [] => []
  | x :: xs => x :: (dedupS xs).filter fun y => !decide (y = x)
theorem dedupS_mem : ∀ (xs : List Str) (q : Str), q ∈ dedupS xs ↔ q ∈ xs
  | [], q => by simp [dedupS]
  | x :: xs, q => by
    simp only [dedupS, List.mem_cons, List.mem_filter, dedupS_mem xs]
    by_cases h : q = x <;> simp [h]
theorem dedupS_nodup : ∀ xs : List Str, (dedupS xs).Nodup
  | [] => by simp [dedupS]
  | x :: xs => by
    simp only [dedupS, List.nodup_cons]
    exact ⟨by simp, (dedupS_nodup xs).filter _⟩
theorem dedupS_len : ∀ xs : List Str, (dedupS xs).length ≤ xs.length
  | [] => Nat.le_refl _
  | x :: xs => by
    have := dedupS_len xs
    have := List.length_filter_le (fun j => !decide (j = x)) (dedupS xs)
    simp only [dedupS, List.length_cons]
    omega
theorem dedupK_strs : ∀ xs : List Str, (dedupK (xs.map .inr)).map keyDat = (dedupS xs).map .str
  | [] => rfl
  | x :: xs => by
    simp only [List.map_cons, dedupK, dedupS]
    have ih := dedupK_strs xs
    congr 1
    have hk : ∀ (ks : List (Sum Int Str)) (ys : List Str), ks.map keyDat = ys.map .str → (ks.filter fun j => !decide (j = .inr x)).map keyDat = (ys.filter fun y => !decide (y = x)).map .str := by
      intro ks
      induction ks with
      | nil => intro ys h; cases ys with
               | nil => rfl
               | cons _ _ => cases h
      | cons k ks ih =>
        intro ys h
        cases ys with
        | nil => cases h
        | cons y ys =>
          simp only [List.map_cons, List.cons.injEq] at h
          obtain ⟨h1, h2⟩ := h
          have := ih ys h2
          cases k with
          | inl i => cases h1
          | inr z =>
            obtain rfl : z = y := PyData.str.inj h1
            by_cases hz : z = x
            · subst hz; simpa using this
            · simp [hz, this, keyDat]
    exact hk _ _ ih
/-- the set of texts, ascending -/
def setS (xs : List Str) : List Str := sortS (dedupS xs)
theorem setS_mem {xs : List Str} {q : Str} : q ∈ setS xs ↔ q ∈ xs := sortS_mem.trans (dedupS_mem xs q)
theorem setS_nodup (xs : List Str) : (setS xs).Nodup := (sortS_perm _).nodup_iff.mpr (dedupS_nodup xs)
theorem setS_len (xs : List Str) : (setS xs).length ≤ xs.length := by unfold setS; rw [sortS_len]; exact dedupS_len xs
theorem setS_eq {xs ys : List Str} (h : ∀ q, q ∈ xs ↔ q ∈ ys) : setS xs = setS ys := sortS_set (dedupS_nodup xs) (dedupS_nodup ys) fun q => by rw [dedupS_mem, dedupS_mem]; exact h q
theorem sortS_setS {xs ys : List Str} (hx : xs.Nodup) (h : ∀ q, q ∈ xs ↔ q ∈ ys) : sortS xs = setS ys := sortS_set hx (dedupS_nodup ys) fun q => by rw [dedupS_mem]; exact h q
theorem keysD_strs (xs : List Str) : keysD (xs.map .str) = some (xs.map .inr) := by
  induction xs with
  | nil => rfl
  | cons x xs ih => simp [keysD, keyD, ih]
theorem v_sortedSet_strs (xs : List Str) (h : xs.length < 4000) : v_sortedSet [.list (xs.map .str)] = some (.list ((setS xs).map .str), .fr) := by
  have hz : (4000 : Nat) ≤ sizeLine := by decide
  simp only [v_sortedSet, keysD_strs, Option.bind_eq_bind, Option.bind_some, sortOk_strs (xs := xs) (by omega), dedupK_strs, sortS_eq]
  simp [h, setS]
theorem v_sorted_strs (xs : List Str) (h : xs.length < 4000) : v_sorted [.list (xs.map .str)] = some (.list ((sortS xs).map .str), .fr) := by
  have hz : (4000 : Nat) ≤ sizeLine := by decide
  simp only [v_sorted, sortOk_strs (xs := xs) (by omega), if_true, sortS_eq]
/-- sorted(d), the keys texts -/
theorem v_sorted_dS {β : Type} (f : β → PyData) (xs : List (Str × β)) (h : xs.length < 4000) : v_sorted [.dict (dA f xs)] = some (.list ((sortS (xs.map (·.1))).map .str), .fr) := by
  have hz : (4000 : Nat) ≤ sizeLine := by decide
  have hk : (dA f xs).map (·.1) = (xs.map (·.1)).map .str := dA_keys f xs
  simp only [v_sorted, hk, sortOk_strs (xs := xs.map (·.1)) (by rw [List.length_map]; omega), if_true, sortS_eq]
/-! dicts put together -/
def mrgA {κ β : Type} [DecidableEq κ] (xs ys : List (κ × β)) : List (κ × β) := ys.foldl (fun m p => putA m p.1 p.2) xs
theorem mrgA_len {κ β : Type} [DecidableEq κ] : ∀ (ys xs : List (κ × β)), (mrgA xs ys).length ≤ xs.length + ys.length
  | [], xs => by simp [mrgA]
  | y :: ys, xs => by
    have h1 := mrgA_len ys (putA xs y.1 y.2)
    have h2 := putA_len xs y.1 y.2
    have e : mrgA xs (y :: ys) = mrgA (putA xs y.1 y.2) ys := rfl
    rw [e, List.length_cons]; omega
theorem mkA_len {κ β : Type} [DecidableEq κ] (ps : List (κ × β)) : (mkA ps).length ≤ ps.length := by
  have := mrgA_len ps []
  simpa [mkA, mrgA] using this
section
variable {κ β : Type} [DecidableEq κ] [Key κ] (f : β → PyData)
theorem mergeD_A : ∀ (ys xs : List (κ × β)), mergeD (dA f xs) (dA f ys) = dA f (mrgA xs ys)
  | [], xs => rfl
  | y :: ys, xs => by
    have ih := mergeD_A ys (putA xs y.1 y.2)
    unfold mergeD at ih ⊢
    show List.foldl _ (match dkey (ek y.1) with | some k => dput (dA f xs) k (ek y.1) (f y.2) | none => dA f xs) (dA f ys) = _
    rw [show dkey (ek y.1) = some (Key.dk y.1) from Key.ok y.1]
    simp only [dA_put]
    exact ih
theorem plain_A (hs : ∀ k : κ, (Key.dk k).isLeft = true) (xs : List (κ × β)) : (dA f xs).all plainKey = true := by
  rw [List.all_eq_true]
  intro p hp
  obtain ⟨q, _, rfl⟩ := List.mem_map.mp hp
  obtain ⟨k, e⟩ := Sum.isLeft_iff.mp (hs q.1)
  unfold plainKey
  show (match dkey (ek q.1) with | some (.inl _) => true | _ => false) = true
  rw [show dkey (ek q.1) = some (Key.dk q.1) from Key.ok q.1, e]
theorem mut_update (hs : ∀ k : κ, (Key.dk k).isLeft = true) (xs ys : List (κ × β)) (h : xs.length + ys.length ≤ sizeLine) : mutV "update" (.dict (dA f xs)) (.dict (dA f ys)) = some (.dict (dA f (mrgA xs ys))) := by
  have e : mutV "update" (.dict (dA f xs)) (.dict (dA f ys)) = if (dA f xs).all plainKey && (dA f ys).all plainKey && decide ((dA f xs).length + (dA f ys).length ≤ sizeLine) then some (.dict (mergeD (dA f xs) (dA f ys))) else none := rfl
  rw [e, plain_A f hs, plain_A f hs, dA_len, dA_len, mergeD_A]
  simp [h]
end
@[simp] theorem mKind_update {xs : List (PyData × PyData)} : mKind "update" (.dict xs) = true := id rfl
/-! two clauses -/
section
variable {Φ : Nat → List PyData → Option (PyData × List PyData)} {gl : List PyData} {g : G} {c e : E} {vs : List Nat}
theorem compE2_pf {α β : Type} {ρ : PEnv} {vs1 : List Nat} {g1 : G} {it1 : I} {c1 : E} (it : α → PyData) (gi : α → List β) (iti : β → PyData) (p : α → β → Bool) (f : α → β → PyData) (m : Nat) (xs : List α) (acc : List PyData) (hl : acc.length + m * xs.length ≤ sizeLine)
    (h : ∀ x, x ∈ xs → (gi x).length ≤ m ∧ ∃ ρ1, asgG g (it x) ρ = some ρ1 ∧ evi Φ gl it1 ρ1 = some ((gi x).map iti, ρ1) ∧ wipeP ρ1 vs1 = ρ1 ∧ wipeP ρ1 vs = ρ ∧
      ∀ y, y ∈ gi x → ∃ ρ2 fl, asgG g1 (iti y) ρ1 = some ρ2 ∧ ev Φ gl c1 ρ2 = some (.bool (p x y), .sh, ρ2) ∧ (p x y = true → ev Φ gl e ρ2 = some (f x y, fl, ρ2)) ∧ wipeP ρ2 vs1 = ρ1) :
    compE2 Φ gl vs vs1 g (.bl true) g1 it1 c1 e (xs.map it) acc ρ = some (acc ++ xs.flatMap fun x => ((gi x).filter (p x)).map (f x), ρ) := by
  rw [compE2_f it (fun x => ((gi x).filter (p x)).map (f x)) m xs acc hl (fun x hx => by
    obtain ⟨h1, ρ1, h2, h3, h4, h5, h6⟩ := h x hx
    refine ⟨by rw [List.length_map]; exact Nat.le_trans (List.length_filter_le ..) h1, ρ1, _, ρ1, h2, h3, fun acc ha => ⟨ρ1, ?_, h5⟩⟩
    rw [h4]
    exact compE_pf iti (p x) (f x) (gi x) acc (by omega) h6), List.flatMap_def]
end
end PP

namespace PP
open PySem PySem.Spec PyProof.Rows L2
/-! PP35: each once, as first met. -/
def firstsQ (q : Str → Bool) (xs : List Str) : List Str := (xs.zipIdx.filter fun z => q z.1 && !decide (z.1 ∈ xs.take z.2)).map (·.1)
theorem firsts_fold (q : Str → Bool) : ∀ (xs pre s : List Str), (∀ y, y ∈ s ↔ y ∈ pre ∧ q y = true) → xs.foldl (fun s x => if q x = true ∧ x ∉ s then s ++ [x] else s) s = s ++ ((xs.zipIdx pre.length).filter fun z => q z.1 && !decide (z.1 ∈ (pre ++ xs).take z.2)).map (·.1)
  | [], pre, s, _ => by simp
  | x :: xs, pre, s, h => by
    have ht : (pre ++ x :: xs).take pre.length = pre := by simp
    rw [List.foldl_cons, List.zipIdx_cons, List.filter_cons]
    simp only [ht]
    have e : pre ++ x :: xs = (pre ++ [x]) ++ xs := by simp
    have hl : (pre ++ [x]).length = pre.length + 1 := by simp
    by_cases hq : q x = true
    · by_cases hx : x ∈ s
      · have hp : x ∈ pre := ((h x).mp hx).1
        have ih := firsts_fold q xs (pre ++ [x]) s fun y => by
          rw [h, List.mem_append, List.mem_singleton]
          constructor
          · rintro ⟨h1, h2⟩; exact ⟨.inl h1, h2⟩
          · rintro ⟨h1 | rfl, h2⟩
            · exact ⟨h1, h2⟩
            · exact ⟨hp, h2⟩
        rw [hl, ← e] at ih
        simp [hq, hx, hp, ih]
      · have hp : x ∉ pre := fun z => hx ((h x).mpr ⟨z, hq⟩)
        have ih := firsts_fold q xs (pre ++ [x]) (s ++ [x]) fun y => by
          rw [List.mem_append, List.mem_append, h, List.mem_singleton]
          constructor
          · rintro (⟨h1, h2⟩ | rfl)
            · exact ⟨.inl h1, h2⟩
            · exact ⟨.inr rfl, hq⟩
          · rintro ⟨h1 | rfl, h2⟩
            · exact .inl ⟨h1, h2⟩
            · exact .inr rfl
        rw [hl, ← e] at ih
        simp [hq, hx, hp, ih]
    · have ih := firsts_fold q xs (pre ++ [x]) s fun y => by
        rw [h, List.mem_append, List.mem_singleton]
        constructor
        · rintro ⟨h1, h2⟩; exact ⟨.inl h1, h2⟩
        · rintro ⟨h1 | rfl, h2⟩
          · exact ⟨h1, h2⟩
          · exact absurd h2 hq
      rw [hl, ← e] at ih
      simp [hq, ih]
theorem firstsQ_fold (q : Str → Bool) (xs : List Str) : xs.foldl (fun s x => if q x = true ∧ x ∉ s then s ++ [x] else s) [] = firstsQ q xs := by
  have := firsts_fold q xs [] [] (by simp)
  simpa [firstsQ] using this
theorem firstsQ_len (q : Str → Bool) (xs : List Str) : (firstsQ q xs).length ≤ xs.length := by
  unfold firstsQ
  rw [List.length_map]
  exact Nat.le_trans (List.length_filter_le ..) (by simp)
end PP

namespace PP
open PySem PySem.Spec PyProof.Rows L2
/-! a walk with a state that may end in a return -/
section
variable {Φ : Nat → List PyData → Option (PyData × List PyData)} {gl : List PyData} {ios : List Nat} {g : G} {b : Ss} {dead : List Nat}
theorem forE_stop {σ α : Type} (E : σ → PEnv) (enc : α → PyData) (q : α → Option PyData) (step : σ → α → σ) (I : σ → Nat → Prop) : ∀ (xs : List α) (s : σ) (ρ : PEnv), wipeP ρ dead = E s → I s xs.length → (∀ s x n, x ∈ xs → I s (n + 1) → (q x = none → turnE Φ gl ios g b dead (enc x) (E s) = some (.nx (E (step s x))) ∧ I (step s x) n) ∧ ∀ v, q x = some v → ∃ ρ', turnE Φ gl ios g b dead (enc x) (E s) = some (.rt v ρ')) →
    (match xs.findSome? q with | none => forE Φ gl ios g b dead (xs.map enc) ρ = some (.nx (E (xs.foldl step s))) | some v => ∃ ρ', forE Φ gl ios g b dead (xs.map enc) ρ = some (.rt v ρ'))
  | [], s, ρ, h, _, _ => by
    show forE Φ gl ios g b dead [] ρ = some (.nx (E s))
    rw [← h]; exact loop_nil
  | x :: xs, s, ρ, h, hi, hs => by
    obtain ⟨ha, hb⟩ := hs s x xs.length (List.mem_cons_self ..) hi
    cases e : q x with
    | none =>
      obtain ⟨h1, h2⟩ := ha e
      obtain ⟨ρ1, ρ2, e1, e2, e3⟩ := turn_nx h1
      have ih := forE_stop E enc q step I xs (step s x) ρ2 e3 h2 fun s y n hy => hs s y n (List.mem_cons_of_mem _ hy)
      rw [List.findSome?_cons, e]
      revert ih
      cases xs.findSome? q with
      | none => intro ih; exact loop_cons ρ1 ρ2 (by rw [h]; exact e1) e2 ih
      | some v =>
        rintro ⟨ρ', ih⟩
        exact ⟨ρ', loop_cons ρ1 ρ2 (by rw [h]; exact e1) e2 ih⟩
    | some v =>
      obtain ⟨ρ', h3⟩ := hb v e
      obtain ⟨ρ1, e1, e2⟩ := turn_rt h3
      rw [List.findSome?_cons, e]
      exact ⟨ρ', loop_ret ρ1 ρ' (by rw [h]; exact e1) e2⟩
end
/-- the first that is so, by a fold -/
theorem fold_first {α : Type} (p : α → Bool) : ∀ (xs : List α) (s : Option α), xs.foldl (fun s x => if s.isNone && p x then some x else s) s = s.or (xs.find? p)
  | [], s => by cases s <;> rfl
  | x :: xs, s => by
    rw [List.foldl_cons, fold_first p xs, List.find?_cons]
    cases s <;> cases h : p x <;> simp
theorem findSome_if {α β : Type} (p : α → Bool) (f : α → β) (xs : List α) : xs.findSome? (fun x => if p x = true then some (f x) else none) = (xs.find? p).map f := by
  induction xs with
  | nil => rfl
  | cons x xs ih => rw [List.findSome?_cons, List.find?_cons]; cases h : p x <;> simp [ih]
@[simp] theorem optI_n : optI none = some none := id rfl
@[simp] theorem optI_s (i : Int) : optI (some (.int i)) = some (some i) := id rfl
@[simp] theorem immAll_strs (xs : List Str) : immAll (xs.map PyData.str) = true := by induction xs <;> simp [*]
theorem mul_small (x : Int) {k : Int} (h0 : -1000 ≤ k) (h : k ≤ 1000) : mulOk x k = true := by simp [mulOk]; omega
end PP

namespace PP
open PySem PySem.Spec PyProof.Rows L2
section
variable {Φ : Nat → List PyData → Option (PyData × List PyData)} {gl : List PyData} {ios : List Nat} {c : E} {b : Ss} {dead : List Nat}
/-- a loop with a state and a word that stays -/
theorem whileE_iterI {σ : Type} (E : σ → PEnv) (step : σ → σ) (p : σ → Bool) (I : σ → Nat → Prop) (hs : ∀ s n, I s n → ∃ ρ1, evT Φ gl c (E s) = some (p s, ρ1) ∧ (p s = false → ρ1 = E s) ∧ (p s = true → ∀ n', n = n' + 1 → I (step s) n' ∧ ∃ ρ2, runs Φ gl ios b ρ1 = some (.nx ρ2) ∧ wipeP ρ2 dead = E (step s))) : ∀ (k m : Nat) (s : σ) (ρ : PEnv), wipeP ρ dead = E s → I s k → (∀ i, i < k → p (iter step i s) = true) → p (iter step k s) = false → k < m → whileE Φ gl ios c b dead m ρ = some (.nx (E (iter step k s)))
  | _, 0, _, _, _, _, _, _, hm => absurd hm (Nat.not_lt_zero _)
  | 0, m + 1, s, ρ, h, hi, _, hf, _ => by
    obtain ⟨ρ1, h1, h2, _⟩ := hs s 0 hi
    have hf : p s = false := hf
    unfold whileE
    simp only [whileL, h, h1, Option.bind_eq_bind, Option.bind_some, hf, h2 hf]
    rfl
  | k + 1, m + 1, s, ρ, h, hi, ht, hf, hm => by
    obtain ⟨ρ1, h1, _, h3⟩ := hs s (k + 1) hi
    have hp : p s = true := ht 0 (Nat.succ_pos _)
    obtain ⟨hi2, ρ2, h4, h5⟩ := h3 hp k rfl
    have ih := whileE_iterI E step p I hs k m (step s) ρ2 h5 hi2 (fun i hi => ht (i + 1) (Nat.succ_lt_succ hi)) hf (Nat.lt_of_succ_lt_succ hm)
    unfold whileE at ih ⊢
    simp only [whileL, h, h1, Option.bind_eq_bind, Option.bind_some, hp, h4]
    exact ih
end
theorem nodup_sub_len {α : Type} [DecidableEq α] : ∀ (xs U : List α), xs.Nodup → (∀ x, x ∈ xs → x ∈ U) → xs.length ≤ U.length
  | [], U, _, _ => Nat.zero_le _
  | x :: xs, U, hn, h => by
    rw [List.nodup_cons] at hn
    have hx := h x (List.mem_cons_self ..)
    have := nodup_sub_len xs (U.erase x) hn.2 fun y hy => by
      have : y ≠ x := fun e => hn.1 (e ▸ hy)
      exact (List.mem_erase_of_ne this).mpr (h y (List.mem_cons_of_mem _ hy))
    rw [List.length_erase_of_mem hx] at this
    have : 0 < U.length := List.length_pos_of_mem hx
    rw [List.length_cons]
    omega
/-! comprehensions whose test draws -/
section
variable {Φ : Nat → List PyData → Option (PyData × List PyData)} {gl : List PyData}
theorem compXc {vs : List Nat} {g : G} {c e : E} (I : PEnv → Prop) (P : PyData → Prop) : ∀ (ds acc : List PyData) (ρ : PEnv), I ρ → (∀ ρ d, I ρ → d ∈ ds → ∃ ρ1 b fl ρ2, asgG g d ρ = some ρ1 ∧ ev Φ gl c ρ1 = some (.bool b, fl, ρ2) ∧ (b = false → I (wipeP ρ2 vs)) ∧ (b = true → ∃ v fl3 ρ3, ev Φ gl e ρ2 = some (v, fl3, ρ3) ∧ P v ∧ I (wipeP ρ3 vs))) → acc.length + ds.length ≤ sizeLine →
    ∃ out ρ', compE Φ gl vs g c e ds acc ρ = some (acc ++ out, ρ') ∧ I ρ' ∧ out.length ≤ ds.length ∧ ∀ v, v ∈ out → P v
  | [], acc, ρ, h, _, _ => ⟨[], ρ, by simp [compE, compL, compL2], h, by simp, nofun⟩
  | d :: ds, acc, ρ, h, hs, hl => by
    obtain ⟨ρ1, b, fl, ρ2, h1, h2, h3, h4⟩ := hs ρ d h (List.mem_cons_self ..)
    cases b with
    | false =>
      obtain ⟨out, ρ', e1, e2, e3, e4⟩ := compXc (vs := vs) (g := g) (c := c) (e := e) I P ds acc (wipeP ρ2 vs) (h3 rfl) (fun ρ d hi hd => hs ρ d hi (List.mem_cons_of_mem _ hd)) (by simp at hl ⊢; omega)
      refine ⟨out, ρ', ?_, e2, by simp; omega, e4⟩
      unfold compE compL at e1 ⊢
      simp only [compL2, h1, h2, Option.bind_eq_bind, Option.bind_some]
      exact e1
    | true =>
      obtain ⟨v, fl3, ρ3, h5, h6, h7⟩ := h4 rfl
      obtain ⟨out, ρ', e1, e2, e3, e4⟩ := compXc (vs := vs) (g := g) (c := c) (e := e) I P ds (acc ++ [v]) (wipeP ρ3 vs) h7 (fun ρ d hi hd => hs ρ d hi (List.mem_cons_of_mem _ hd)) (by simp at hl ⊢; omega)
      refine ⟨v :: out, ρ', ?_, e2, by simp; omega, fun x hx => ?_⟩
      · have : acc.length < sizeLine := by simp at hl; omega
        unfold compE compL at e1 ⊢
        simp only [compL2, h1, h2, addV, h5, Option.bind_eq_bind, Option.bind_some, if_pos this]
        rw [e1, List.append_assoc]
        rfl
      · rcases List.mem_cons.mp hx with rfl | hx
        · exact h6
        · exact e4 x hx
end
end PP

namespace PP
open PySem PySem.Spec PyProof.Rows L2
/-! PP38: a comprehension whose items draw, item by item -/
section
variable {Φ : Nat → List PyData → Option (PyData × List PyData)} {gl : List PyData}
theorem compXr {α β : Type} {vs : List Nat} {g : G} {e : E} (enc : α → PyData) (dec : β → PyData) (I : PEnv → Prop) (R : α → β → Prop) : ∀ (xs : List α) (acc : List PyData) (ρ : PEnv), I ρ → (∀ ρ x, I ρ → x ∈ xs → ∃ ρ1 b fl ρ2, asgG g (enc x) ρ = some ρ1 ∧ ev Φ gl e ρ1 = some (dec b, fl, ρ2) ∧ R x b ∧ I (wipeP ρ2 vs)) → acc.length + xs.length ≤ sizeLine →
    ∃ (ys : List β) (ρ' : PEnv), compE Φ gl vs g (.bl true) e (xs.map enc) acc ρ = some (acc ++ ys.map dec, ρ') ∧ I ρ' ∧ ys.length = xs.length ∧ ∀ p, p ∈ xs.zip ys → R p.1 p.2
  | [], acc, ρ, h, _, _ => ⟨[], ρ, by simp [compE, compL, compL2], h, rfl, nofun⟩
  | x :: xs, acc, ρ, h, hs, hl => by
    obtain ⟨ρ1, b, fl, ρ2, h1, h2, h3, h4⟩ := hs ρ x h (List.mem_cons_self ..)
    obtain ⟨ys, ρ', e1, e2, e3, e4⟩ := compXr (vs := vs) (g := g) (e := e) enc dec I R xs (acc ++ [dec b]) (wipeP ρ2 vs) h4 (fun ρ d hi hd => hs ρ d hi (List.mem_cons_of_mem _ hd)) (by simp at hl ⊢; omega)
    refine ⟨b :: ys, ρ', ?_, e2, by simp [e3], fun p hp => ?_⟩
    · have : acc.length < sizeLine := by simp at hl; omega
      unfold compE compL at e1 ⊢
      simp only [ev_bl] at e1
      simp only [List.map_cons, compL2, h1, ev_bl, addV, h2, Option.bind_eq_bind, Option.bind_some, if_pos this]
      rw [e1, List.append_assoc]
      rfl
    · rw [List.zip_cons_cons] at hp
      rcases List.mem_cons.mp hp with rfl | hp
      · exact h3
      · exact e4 p hp
end
theorem zip_right {α β : Type} : ∀ {xs : List α} {ys : List β} {y : β}, ys.length = xs.length → y ∈ ys → ∃ x, x ∈ xs ∧ (x, y) ∈ xs.zip ys
  | [], [], _, _, h => nomatch h
  | x :: xs, z :: ys, y, hl, h => by
    rcases List.mem_cons.mp h with rfl | h
    · exact ⟨x, List.mem_cons_self .., by simp⟩
    · obtain ⟨x', h1, h2⟩ := zip_right (xs := xs) (ys := ys) (by simpa using hl) h
      exact ⟨x', List.mem_cons_of_mem _ h1, by rw [List.zip_cons_cons]; exact List.mem_cons_of_mem _ h2⟩
  | _ :: _, [], _, hl, _ => by simp at hl
  | [], _ :: _, _, hl, _ => by simp at hl
end PP

namespace PP
open PySem PySem.Spec PyProof.Rows L2
/-! PP39: dicts that are the same; a law's own look at two values, part by part -/
section
variable {κ β : Type} [DecidableEq κ] [Key κ] (f : β → PyData)
theorem dict_same (hs : ∀ k : κ, (Key.dk k).isLeft = true) (m : List (κ × β)) (hn : (m.map (·.1)).Nodup) (hf : ∀ p, p ∈ m → okD (f p.2) = true ∧ PyData.eqv (f p.2) (f p.2) = true) : dictEq (dA f m) (dA f m) = some true := by
  unfold dictEq
  rw [plain_A f hs m, if_pos]
  simp only [decide_true, Bool.true_and, List.all_eq_true]
  intro p hp
  obtain ⟨q, hq, rfl⟩ := List.mem_map.mp hp
  have hg : getA m q.1 = some q.2 := getA_of_mem hn hq
  have h1 : dkey (ek q.1) = some (Key.dk q.1) := Key.ok q.1
  obtain ⟨h2, h3⟩ := hf q hq
  simp only [h1, dA_look, hg, Option.map_some, h2, h3, Bool.and_self]
theorem dict_ne (hs : ∀ k : κ, (Key.dk k).isLeft = true) (m : List (κ × β)) (hn : (m.map (·.1)).Nodup) (hf : ∀ p, p ∈ m → okD (f p.2) = true ∧ PyData.eqv (f p.2) (f p.2) = true) : cmpV .NotEq (.dict (dA f m)) (.dict (dA f m)) = some false := by
  show (dictEq _ _).map (!·) = _
  rw [dict_same f hs m hn hf]; rfl
end
def cAlike (f : Nat) : E := .un .Not (.call f (.cons (.ix (.var 0) (.var 2)) (.cons (.ix (.var 1) (.var 2)) (.nil))))
@[simp] theorem als_cAlike (f : Nat) : als (cAlike f) = [0, 2, 1, 2] := id rfl
@[simp] theorem mods_cAlike (f : Nat) : mods (cAlike f) = [] := id rfl
def bAlike (f : Nat) : Ss :=
 .cons (.ifs (.bi (.isI "tuple") (.cons (.var 1) (.nil))) (.cons (.ifs (.bop .Or (.un .Not (.bi (.isI "tuple") (.cons (.var 0) (.nil)))) (.cmp .NotEq (.bi .len (.cons (.var 0) (.nil))) (.bi .len (.cons (.var 1) (.nil))))) (.cons (.ret (.bl false))
 (.nil)) (.nil))
 (.cons (.ret (.cmp .Eq (.comp [2] (.nm 2) (.rng (.cons (.bi .len (.cons (.var 1) (.nil))) (.nil))) (cAlike f) (.var 2)) (.lst (.nil))))
 (.nil))) (.nil))
 (.cons (.ifs (.cmp .Is (.var 1) (.non)) (.cons (.ret (.cmp .Is (.var 0) (.non)))
 (.nil)) (.nil))
 (.cons (.ifs (.bi (.isI "bool") (.cons (.var 1) (.nil))) (.cons (.ret (.bop .And (.bi (.isI "bool") (.cons (.var 0) (.nil))) (.cmp .Eq (.var 0) (.var 1))))
 (.nil)) (.nil))
 (.cons (.ifs (.bi (.isI "int") (.cons (.var 1) (.nil))) (.cons (.ret (.bop .And (.bi (.isI "int") (.cons (.var 0) (.nil))) (.bop .And (.un .Not (.bi (.isI "bool") (.cons (.var 0) (.nil)))) (.cmp .Eq (.var 0) (.var 1)))))
 (.nil)) (.nil))
 (.cons (.ret (.bop .And (.bi (.isI "str") (.cons (.var 0) (.nil))) (.cmp .Eq (.var 0) (.var 1))))
 (.nil)))))
/-- a value of tuples, not deeper than h -/
def aOk : Nat → PyData → Prop
  | _, .none => True
  | _, .bool _ => True
  | _, .int _ => True
  | _, .str _ => True
  | h + 1, .tuple xs => xs.length ≤ 5000 ∧ ∀ x, x ∈ xs → aOk h x
  | _, _ => False
@[simp] theorem aOk_n (h : Nat) : aOk h .none := by cases h <;> simp [aOk]
@[simp] theorem aOk_b (h : Nat) (b : Bool) : aOk h (.bool b) := by cases h <;> simp [aOk]
@[simp] theorem aOk_i (h : Nat) (b : Int) : aOk h (.int b) := by cases h <;> simp [aOk]
@[simp] theorem aOk_s (h : Nat) (b : Str) : aOk h (.str b) := by cases h <;> simp [aOk]
@[simp] theorem aOk_t (h : Nat) (xs : List PyData) : aOk (h + 1) (.tuple xs) ↔ xs.length ≤ 5000 ∧ ∀ x, x ∈ xs → aOk h x := by simp [aOk]
section
variable {Φ : Nat → List PyData → Option (PyData × List PyData)} {gl : List PyData}
theorem alikeR (f : Nat) (h : Nat) (d : PyData) (hd : aOk h d) (hx : ∀ x h', h = h' + 1 → aOk h' x → Φ f [x, x] = some (.bool true, [])) : (runs Φ gl [] (bAlike f) [.fz d, .fz d, .no]).bind (endOf []) = some (.bool true, []) := by
  have hz : (10000 : Nat) < sizeLine := by decide
  have s0 : (0 : Nat) ≤ sizeLine := by decide
  have hso := @outsOf
  cases d with
  | none => simp [bAlike, als, alsO, alsI, alss, mods, modsO, modsI, modss, isT, outsOf]
  | bool b => simp [bAlike, als, alsO, alsI, alss, mods, modsO, modsI, modss, isT, outsOf]
  | int b => simp [bAlike, als, alsO, alsI, alss, mods, modsO, modsI, modss, isT, outsOf]
  | str b => simp [bAlike, als, alsO, alsI, alss, mods, modsO, modsI, modss, isT, outsOf]
  | list xs => cases h <;> simp [aOk] at hd
  | dict xs => cases h <;> simp [aOk] at hd
  | tuple xs =>
    cases h with
    | zero => simp [aOk] at hd
    | succ h =>
      rw [aOk_t] at hd
      obtain ⟨h1, h2⟩ := hd
      have hc := compE_pf (Φ := Φ) (gl := gl) (vs := [2]) (g := .nm 2) (c := cAlike f) (e := .var 2) (ρ := [.fz (.tuple xs), .fz (.tuple xs), .no]) (fun k : Nat => .int (0 + (k : Nat))) (fun _ => false) (fun k => .int (k : Nat)) (List.range xs.length) [] (by simp; omega) (fun k hk => by
        have hk := List.mem_range.mp hk
        have hi : atI xs (k : Nat) = some xs[k] := atI_nat (by simp [hk])
        have := hx xs[k] h rfl (h2 _ (List.getElem_mem _))
        exact ⟨[.fz (.tuple xs), .fz (.tuple xs), .fz (.int (k : Nat))], .sh, by simp, by simp [cAlike, hi, this], fun _ => by simp, by simp⟩)
      change compE _ _ _ _ _ _ (iidx 0 xs.length) _ _ = _ at hc
      rw [show (List.range xs.length).filter (fun _ => false) = [] from List.filter_eq_nil_iff.mpr fun _ _ => by simp] at hc
      have hr := rngD_n (n := xs.length) (by omega)
      have q0 : cmpV .Eq (.list []) (.list []) = some true := rfl
      simp [bAlike, als, alsO, alsI, alss, mods, modsO, modsI, modss, isT, hr, hc, q0, s0, outsOf]
end
end PP

namespace LW
open PySem PySem.Spec PyProof.Rows L2 PP
/-- is_number: slots 0 thing -/
def b_is_number : Ss :=
 .cons (.ret (.bop .And (.bi (.isI "int") (.cons (.var 0) (.nil))) (.un .Not (.bi (.isI "bool") (.cons (.var 0) (.nil))))))
 (.nil)
def D_is_number : Def := ⟨1, 1, [], b_is_number⟩
def N_is_number : List Str := [(Str.ofString "thing")]
/-- is_from: slots 0 thing 1 least -/
def b_is_from : Ss :=
 .cons (.ret (.bop .And (.call 0 (.cons (.var 0) (.nil))) (.cmp .GtE (.var 0) (.var 1))))
 (.nil)
def D_is_from : Def := ⟨2, 2, [], b_is_from⟩
def N_is_from : List Str := [(Str.ofString "thing"), (Str.ofString "least")]
/-- is_tuple_of: slots 0 thing 1 many -/
def b_is_tuple_of : Ss :=
 .cons (.ret (.bop .And (.bi (.isI "tuple") (.cons (.var 0) (.nil))) (.cmp .Eq (.bi .len (.cons (.var 0) (.nil))) (.var 1))))
 (.nil)
def D_is_tuple_of : Def := ⟨2, 2, [], b_is_tuple_of⟩
def N_is_tuple_of : List Str := [(Str.ofString "thing"), (Str.ofString "many")]
/-- is_name: slots 0 thing 1 sign -/
def e_is_name_0 : E :=
 .bop .Or (.cmp .In (.var 1) (.glob 0)) (.cmp .In (.var 1) (.glob 1))
@[simp] theorem als_e_is_name_0 : als e_is_name_0 = [1, 1] := id rfl
@[simp] theorem mods_e_is_name_0 : mods e_is_name_0 = [] := id rfl
def b_is_name : Ss :=
 .cons (.ifs (.bop .Or (.un .Not (.bi (.isI "str") (.cons (.var 0) (.nil)))) (.bop .Or (.cmp .Eq (.var 0) (.str (Str.ofString ""))) (.cmp .NotIn (.ix (.var 0) (.int 0)) (.glob 0)))) (.cons (.ret (.bl false))
 (.nil)) (.nil))
 (.cons (.ret (.bi .all (.cons (.comp [1] (.nm 1) (.seq (.var 0)) (.bl true) (e_is_name_0)) (.nil))))
 (.nil))
def D_is_name : Def := ⟨1, 2, [], b_is_name⟩
def N_is_name : List Str := [(Str.ofString "thing"), (Str.ofString "sign")]
/-- is_power: slots 0 thing -/
def c_is_power_0 : E :=
 .cmp .Eq (.bin .Mod (.var 0) (.int 2)) (.int 0)
@[simp] theorem als_c_is_power_0 : als c_is_power_0 = [0] := id rfl
@[simp] theorem mods_c_is_power_0 : mods c_is_power_0 = [] := id rfl
def b_is_power_1 : Ss :=
 .cons (.asg 0 (.bin .FloorDiv (.var 0) (.int 2)))
 (.nil)
def b_is_power : Ss :=
 .cons (.ifs (.un .Not (.call 1 (.cons (.var 0) (.cons (.int 1) (.nil))))) (.cons (.ret (.bl false))
 (.nil)) (.nil))
 (.cons (.whil (c_is_power_0) (b_is_power_1) [])
 (.cons (.ret (.cmp .Eq (.var 0) (.int 1)))
 (.nil)))
def D_is_power : Def := ⟨1, 1, [], b_is_power⟩
def N_is_power : List Str := [(Str.ofString "thing")]
/-- set_of: slots 0 things -/
def b_set_of : Ss :=
 .cons (.ret (.bi .tuple (.cons (.bi .sortedSet (.cons (.var 0) (.nil))) (.nil))))
 (.nil)
def D_set_of : Def := ⟨1, 1, [], b_set_of⟩
def N_set_of : List Str := [(Str.ofString "things")]
/-- up_to: slots 0 number 1 align -/
def b_up_to : Ss :=
 .cons (.ret (.bin .Add (.var 0) (.bin .Mod (.bin .Sub (.var 1) (.bin .Mod (.var 0) (.var 1))) (.var 1))))
 (.nil)
def D_up_to : Def := ⟨2, 2, [], b_up_to⟩
def N_up_to : List Str := [(Str.ofString "number"), (Str.ofString "align")]
/-- laid: slots 0 blocks 1 begin 2 found 3 at 4 size 5 align -/
def b_laid_0 : Ss :=
 .cons (.asg 3 (.call 6 (.cons (.var 3) (.cons (.var 5) (.nil)))))
 (.cons (.mut "append" 2 (.var 3))
 (.cons (.aug 3 .Add (.var 4))
 (.nil)))
def b_laid : Ss :=
 .cons (.asgD [2, 3] (.cons (.lst (.nil)) (.cons (.var 1) (.nil))))
 (.cons (.for_ (.tp [.nm 4, .nm 5]) (.seq (.var 0)) (b_laid_0) [4, 5])
 (.cons (.ret (.bi .tuple (.cons (.var 2) (.nil))))
 (.nil)))
def D_laid : Def := ⟨2, 6, [], b_laid⟩
def N_laid : List Str := [(Str.ofString "blocks"), (Str.ofString "begin"), (Str.ofString "found"), (Str.ofString "at"), (Str.ofString "size"), (Str.ofString "align")]
/-- are_asks: slots 0 thing 1 name 2 size 3 align 4 given 5 one -/
def b_are_asks_0 : Ss :=
 .cons (.ifs (.bop .Or (.un .Not (.call 3 (.cons (.var 1) (.nil)))) (.bop .Or (.un .Not (.call 1 (.cons (.var 2) (.cons (.int 1) (.nil))))) (.bop .Or (.un .Not (.call 4 (.cons (.var 3) (.nil)))) (.un .Not (.bi (.isI "bool") (.cons (.var 4) (.nil))))))) (.cons (.ret (.bl false))
 (.nil)) (.nil))
 (.nil)
def e_are_asks_1 : E :=
 .call 2 (.cons (.var 5) (.cons (.int 4) (.nil)))
@[simp] theorem als_e_are_asks_1 : als e_are_asks_1 = [5] := id rfl
@[simp] theorem mods_e_are_asks_1 : mods e_are_asks_1 = [] := id rfl
def b_are_asks : Ss :=
 .cons (.ifs (.bop .Or (.un .Not (.bi (.isI "tuple") (.cons (.var 0) (.nil)))) (.un .Not (.bi .all (.cons (.comp [5] (.nm 5) (.seq (.var 0)) (.bl true) (e_are_asks_1)) (.nil))))) (.cons (.ret (.bl false))
 (.nil)) (.nil))
 (.cons (.for_ (.tp [.nm 1, .nm 2, .nm 3, .nm 4]) (.seq (.var 0)) (b_are_asks_0) [1, 2, 3, 4])
 (.cons (.ret (.bl true))
 (.nil)))
def D_are_asks : Def := ⟨1, 6, [], b_are_asks⟩
def N_are_asks : List Str := [(Str.ofString "thing"), (Str.ofString "name"), (Str.ofString "size"), (Str.ofString "align"), (Str.ofString "given"), (Str.ofString "one")]
/-- asked_names: slots 0 asks 1 one -/
def e_asked_names_0 : E :=
 .ix (.var 1) (.int 0)
@[simp] theorem als_e_asked_names_0 : als e_asked_names_0 = [1] := id rfl
@[simp] theorem mods_e_asked_names_0 : mods e_asked_names_0 = [] := id rfl
def b_asked_names : Ss :=
 .cons (.ret (.call 5 (.cons (.comp [1] (.nm 1) (.seq (.var 0)) (.bl true) (e_asked_names_0)) (.nil))))
 (.nil)
def D_asked_names : Def := ⟨1, 2, [], b_asked_names⟩
def N_asked_names : List Str := [(Str.ofString "asks"), (Str.ofString "one")]
/-- room_for: slots 0 asks 1 name 2 own 3 given 4 k -/
def e_room_for_0 : E :=
 .ix (.ix (.var 0) (.var 4)) (.int 2)
@[simp] theorem als_e_room_for_0 : als e_room_for_0 = [0, 4] := id rfl
@[simp] theorem mods_e_room_for_0 : mods e_room_for_0 = [] := id rfl
def e_room_for_1 : E :=
 .ix (.ix (.var 0) (.var 4)) (.int 1)
@[simp] theorem als_e_room_for_1 : als e_room_for_1 = [0, 4] := id rfl
@[simp] theorem mods_e_room_for_1 : mods e_room_for_1 = [] := id rfl
def c_room_for_2 : E :=
 .ix (.ix (.var 0) (.var 4)) (.int 3)
@[simp] theorem als_c_room_for_2 : als c_room_for_2 = [0, 4] := id rfl
@[simp] theorem mods_c_room_for_2 : mods c_room_for_2 = [] := id rfl
def c_room_for_3 : E :=
 .cmp .Eq (.ix (.ix (.var 0) (.var 4)) (.int 0)) (.var 1)
@[simp] theorem als_c_room_for_3 : als c_room_for_3 = [0, 4, 1] := id rfl
@[simp] theorem mods_c_room_for_3 : mods c_room_for_3 = [] := id rfl
def b_room_for : Ss :=
 .cons (.asg 2 (.comp [4] (.nm 4) (.rng (.cons (.bi .len (.cons (.var 0) (.nil))) (.nil))) (c_room_for_3) (.var 4)))
 (.cons (.asg 3 (.comp [4] (.nm 4) (.seq (.var 2)) (c_room_for_2) (.var 4)))
 (.cons (.ifs (.cmp .NotEq (.var 3) (.lst (.nil))) (.cons (.ret (.bin .Add (.sl (.ix (.var 0) (.ix (.var 3) (.int 0))) (.so (.int 1)) (.so (.int 3))) (.tup (.cons (.ix (.var 3) (.int 0)) (.nil)))))
 (.nil)) (.nil))
 (.cons (.ret (.tup (.cons (.bi .max (.cons (.comp [4] (.nm 4) (.seq (.var 2)) (.bl true) (e_room_for_1)) (.nil))) (.cons (.bi .max (.cons (.comp [4] (.nm 4) (.seq (.var 2)) (.bl true) (e_room_for_0)) (.nil))) (.cons (.non) (.nil))))))
 (.nil))))
def D_room_for : Def := ⟨2, 5, [], b_room_for⟩
def N_room_for : List Str := [(Str.ofString "asks"), (Str.ofString "name"), (Str.ofString "own"), (Str.ofString "given"), (Str.ofString "k")]
/-- rooms_given_twice: slots 0 asks 1 found 2 name 3 one -/
def c_rooms_given_twice_0 : E :=
 .bop .And (.cmp .Eq (.ix (.var 3) (.int 0)) (.var 2)) (.ix (.var 3) (.int 3))
@[simp] theorem als_c_rooms_given_twice_0 : als c_rooms_given_twice_0 = [3, 2, 3] := id rfl
@[simp] theorem mods_c_rooms_given_twice_0 : mods c_rooms_given_twice_0 = [] := id rfl
def b_rooms_given_twice_1 : Ss :=
 .cons (.ifs (.cmp .Gt (.bi .len (.cons (.comp [3] (.nm 3) (.seq (.var 0)) (c_rooms_given_twice_0) (.int 1)) (.nil))) (.int 1)) (.cons (.mut "append" 1 (.var 2))
 (.nil)) (.nil))
 (.nil)
def b_rooms_given_twice : Ss :=
 .cons (.asg 1 (.lst (.nil)))
 (.cons (.for_ (.nm 2) (.seq (.call 9 (.cons (.var 0) (.nil)))) (b_rooms_given_twice_1) [2])
 (.cons (.ret (.bi .tuple (.cons (.var 1) (.nil))))
 (.nil)))
def D_rooms_given_twice : Def := ⟨1, 4, [], b_rooms_given_twice⟩
def N_rooms_given_twice : List Str := [(Str.ofString "asks"), (Str.ofString "found"), (Str.ofString "name"), (Str.ofString "one")]
/-- too_small: slots 0 asks 1 found 2 k 3 size 4 align 5 place -/
def b_too_small_0 : Ss :=
 .cons (.asgT (.tp [.nm 3, .nm 4, .nm 5]) (.call 10 (.cons (.var 0) (.cons (.ix (.ix (.var 0) (.var 2)) (.int 0)) (.nil)))))
 (.cons (.ifs (.bop .And (.cmp .IsNot (.var 5) (.non)) (.bop .Or (.cmp .Gt (.ix (.ix (.var 0) (.var 2)) (.int 1)) (.var 3)) (.cmp .Gt (.ix (.ix (.var 0) (.var 2)) (.int 2)) (.var 4)))) (.cons (.mut "append" 1 (.var 2))
 (.nil)) (.nil))
 (.nil))
def b_too_small : Ss :=
 .cons (.asg 1 (.lst (.nil)))
 (.cons (.for_ (.nm 2) (.rng (.cons (.bi .len (.cons (.var 0) (.nil))) (.nil))) (b_too_small_0) [2, 3, 4, 5])
 (.cons (.ret (.bi .tuple (.cons (.var 1) (.nil))))
 (.nil)))
def D_too_small : Def := ⟨1, 6, [], b_too_small⟩
def N_too_small : List Str := [(Str.ofString "asks"), (Str.ofString "found"), (Str.ofString "k"), (Str.ofString "size"), (Str.ofString "align"), (Str.ofString "place")]
/-- all_rooms: slots 0 asks 1 rows 2 name 3 row -/
def c_all_rooms_0 : E :=
 .cmp .Is (.ix (.var 3) (.int 3)) (.non)
@[simp] theorem als_c_all_rooms_0 : als c_all_rooms_0 = [3] := id rfl
@[simp] theorem mods_c_all_rooms_0 : mods c_all_rooms_0 = [] := id rfl
def e_all_rooms_1 : E :=
 .sl (.var 3) .no (.so (.int 3))
@[simp] theorem als_e_all_rooms_1 : als e_all_rooms_1 = [3] := id rfl
@[simp] theorem mods_e_all_rooms_1 : mods e_all_rooms_1 = [] := id rfl
def e_all_rooms_2 : E :=
 .bin .Add (.tup (.cons (.var 2) (.nil))) (.call 10 (.cons (.var 0) (.cons (.var 2) (.nil))))
@[simp] theorem als_e_all_rooms_2 : als e_all_rooms_2 = [2, 0, 2] := id rfl
@[simp] theorem mods_e_all_rooms_2 : mods e_all_rooms_2 = [] := id rfl
def b_all_rooms : Ss :=
 .cons (.ifs (.cmp .NotEq (.call 11 (.cons (.var 0) (.nil))) (.tup (.nil))) (.cons (.ret (.tup (.cons (.str (Str.ofString "no")) (.cons (.call 11 (.cons (.var 0) (.nil))) (.nil)))))
 (.nil)) (.nil))
 (.cons (.asg 1 (.comp [2] (.nm 2) (.seq (.call 9 (.cons (.var 0) (.nil)))) (.bl true) (e_all_rooms_2)))
 (.cons (.ret (.tup (.cons (.str (Str.ofString "yes")) (.cons (.bi .tuple (.cons (.comp [3] (.nm 3) (.seq (.var 1)) (c_all_rooms_0) (e_all_rooms_1)) (.nil))) (.nil)))))
 (.nil)))
def D_all_rooms : Def := ⟨1, 4, [], b_all_rooms⟩
def N_all_rooms : List Str := [(Str.ofString "asks"), (Str.ofString "rows"), (Str.ofString "name"), (Str.ofString "row")]
/-- rooms_by_alignment: slots 0 rooms 1 _ 2 room -/
def e_rooms_by_alignment_0 : E :=
 .tup (.cons (.un .USub (.ix (.var 2) (.int 2))) (.cons (.un .USub (.ix (.var 2) (.int 1))) (.cons (.ix (.var 2) (.int 0)) (.cons (.var 2) (.nil)))))
@[simp] theorem als_e_rooms_by_alignment_0 : als e_rooms_by_alignment_0 = [2, 2, 2, 2] := id rfl
@[simp] theorem mods_e_rooms_by_alignment_0 : mods e_rooms_by_alignment_0 = [] := id rfl
def b_rooms_by_alignment : Ss :=
 .cons (.ret (.bi .tuple (.cons (.comp [1, 1, 1, 2] (.tp [.nm 1, .nm 1, .nm 1, .nm 2]) (.seq (.bi .sorted (.cons (.comp [2] (.nm 2) (.seq (.var 0)) (.bl true) (e_rooms_by_alignment_0)) (.nil)))) (.bl true) (.var 2)) (.nil))))
 (.nil)
def D_rooms_by_alignment : Def := ⟨1, 3, [], b_rooms_by_alignment⟩
def N_rooms_by_alignment : List Str := [(Str.ofString "rooms"), (Str.ofString "_"), (Str.ofString "room")]
/-- put_rooms: slots 0 rooms 1 begin 2 places 3 room 4 at -/
def e_put_rooms_0 : E :=
 .tup (.cons (.ix (.var 3) (.int 0)) (.cons (.var 4) (.nil)))
@[simp] theorem als_e_put_rooms_0 : als e_put_rooms_0 = [3, 4] := id rfl
@[simp] theorem mods_e_put_rooms_0 : mods e_put_rooms_0 = [] := id rfl
def e_put_rooms_1 : E :=
 .sl (.var 3) (.so (.int 1)) .no
@[simp] theorem als_e_put_rooms_1 : als e_put_rooms_1 = [3] := id rfl
@[simp] theorem mods_e_put_rooms_1 : mods e_put_rooms_1 = [] := id rfl
def b_put_rooms : Ss :=
 .cons (.asg 2 (.call 7 (.cons (.bi .tuple (.cons (.comp [3] (.nm 3) (.seq (.var 0)) (.bl true) (e_put_rooms_1)) (.nil))) (.cons (.var 1) (.nil)))))
 (.cons (.ret (.bi .dict (.cons (.comp [3, 4] (.tp [.nm 3, .nm 4]) (.zip (.var 0) (.var 2)) (.bl true) (e_put_rooms_0)) (.nil))))
 (.nil))
def D_put_rooms : Def := ⟨2, 5, [], b_put_rooms⟩
def N_put_rooms : List Str := [(Str.ofString "rooms"), (Str.ofString "begin"), (Str.ofString "places"), (Str.ofString "room"), (Str.ofString "at")]
/-- whole_room: slots 0 asks 1 name -/
def e_whole_room_0 : E :=
 .ix (.call 10 (.cons (.var 0) (.cons (.var 1) (.nil)))) (.int 0)
@[simp] theorem als_e_whole_room_0 : als e_whole_room_0 = [0, 1] := id rfl
@[simp] theorem mods_e_whole_room_0 : mods e_whole_room_0 = [] := id rfl
def b_whole_room : Ss :=
 .cons (.ret (.bi .sum (.cons (.comp [1] (.nm 1) (.seq (.call 9 (.cons (.var 0) (.nil)))) (.bl true) (e_whole_room_0)) (.nil))))
 (.nil)
def D_whole_room : Def := ⟨1, 2, [], b_whole_room⟩
def N_whole_room : List Str := [(Str.ofString "asks"), (Str.ofString "name")]
/-- grown_by: slots 0 asks 1 more 2 found 3 name 4 one 5 other -/
def b_grown_by_0 : Ss :=
 .cons (.asgD [4, 5] (.cons (.call 10 (.cons (.var 0) (.cons (.var 3) (.nil)))) (.cons (.call 10 (.cons (.bin .Add (.var 0) (.var 1)) (.cons (.var 3) (.nil)))) (.nil))))
 (.cons (.ifs (.bop .Or (.cmp .Gt (.ix (.var 5) (.int 0)) (.ix (.var 4) (.int 0))) (.cmp .Gt (.ix (.var 5) (.int 1)) (.ix (.var 4) (.int 1)))) (.cons (.mut "append" 2 (.var 3))
 (.nil)) (.nil))
 (.nil))
def b_grown_by : Ss :=
 .cons (.asg 2 (.lst (.nil)))
 (.cons (.for_ (.nm 3) (.seq (.call 9 (.cons (.var 0) (.nil)))) (b_grown_by_0) [3, 4, 5])
 (.cons (.ret (.bi .tuple (.cons (.var 2) (.nil))))
 (.nil)))
def D_grown_by : Def := ⟨2, 6, [], b_grown_by⟩
def N_grown_by : List Str := [(Str.ofString "asks"), (Str.ofString "more"), (Str.ofString "found"), (Str.ofString "name"), (Str.ofString "one"), (Str.ofString "other")]
/-- asked_most: slots 0 asks 1 rows 2 name 3 one -/
def c_asked_most_0 : E :=
 .cmp .Eq (.ix (.var 3) (.int 0)) (.var 2)
@[simp] theorem als_c_asked_most_0 : als c_asked_most_0 = [3, 2] := id rfl
@[simp] theorem mods_c_asked_most_0 : mods c_asked_most_0 = [] := id rfl
def e_asked_most_1 : E :=
 .tup (.cons (.un .USub (.bi .len (.cons (.comp [3] (.nm 3) (.seq (.var 0)) (c_asked_most_0) (.int 1)) (.nil)))) (.cons (.var 2) (.nil)))
@[simp] theorem als_e_asked_most_1 : als e_asked_most_1 = [0, 3, 2, 2] := id rfl
@[simp] theorem mods_e_asked_most_1 : mods e_asked_most_1 = [] := id rfl
def b_asked_most : Ss :=
 .cons (.asg 1 (.comp [2] (.nm 2) (.seq (.call 9 (.cons (.var 0) (.nil)))) (.bl true) (e_asked_most_1)))
 (.cons (.ret (.ite (.cmp .NotEq (.var 1) (.lst (.nil))) (.tup (.cons (.un .USub (.ix (.bi .min (.cons (.var 1) (.nil))) (.int 0))) (.cons (.ix (.bi .min (.cons (.var 1) (.nil))) (.int 1)) (.nil)))) (.non)))
 (.nil))
def D_asked_most : Def := ⟨1, 4, [], b_asked_most⟩
def N_asked_most : List Str := [(Str.ofString "asks"), (Str.ofString "rows"), (Str.ofString "name"), (Str.ofString "one")]
/-- decides: slots 0 asks 1 name 2 found 3 k 4 rest -/
def b_decides_0 : Ss :=
 .cons (.ifs (.cmp .Eq (.ix (.ix (.var 0) (.var 3)) (.int 0)) (.var 1)) (.cons (.asg 4 (.bin .Add (.sl (.var 0) .no (.so (.var 3))) (.sl (.var 0) (.so (.bin .Add (.var 3) (.int 1))) .no)))
 (.cons (.ifs (.bop .Or (.cmp .NotIn (.var 1) (.call 9 (.cons (.var 4) (.nil)))) (.cmp .NotEq (.sl (.call 10 (.cons (.var 4) (.cons (.var 1) (.nil)))) .no (.so (.int 2))) (.sl (.call 10 (.cons (.var 0) (.cons (.var 1) (.nil)))) .no (.so (.int 2))))) (.cons (.mut "append" 2 (.var 3))
 (.nil)) (.nil))
 (.nil))) (.nil))
 (.nil)
def b_decides : Ss :=
 .cons (.asg 2 (.lst (.nil)))
 (.cons (.for_ (.nm 3) (.rng (.cons (.bi .len (.cons (.var 0) (.nil))) (.nil))) (b_decides_0) [3, 4])
 (.cons (.ret (.bi .tuple (.cons (.var 2) (.nil))))
 (.nil)))
def D_decides : Def := ⟨2, 5, [], b_decides⟩
def N_decides : List Str := [(Str.ofString "asks"), (Str.ofString "name"), (Str.ofString "found"), (Str.ofString "k"), (Str.ofString "rest")]
def N__law_draws : List Str := [(Str.ofString "script"), (Str.ofString "many"), (Str.ofString "draws"), (Str.ofString "mixed"), (Str.ofString "k"), (Str.ofString "cell"), (Str.ofString "rest"), (Str.ofString "turn")]
/-- _law_next: slots 0 w 1 many -/
def b__law_next : Ss :=
 .cons (.augIx 0 (.str (Str.ofString "at")) .Add (.int 1))
 (.cons (.ifs (.cmp .Gt (.ix (.var 0) (.str (Str.ofString "at"))) (.bi .len (.cons (.ix (.var 0) (.str (Str.ofString "draws"))) (.nil)))) (.cons (.ret (.int 0))
 (.nil)) (.nil))
 (.cons (.ret (.bin .Mod (.bi .int (.cons (.ix (.ix (.var 0) (.str (Str.ofString "draws"))) (.bin .Sub (.ix (.var 0) (.str (Str.ofString "at"))) (.int 1))) (.nil))) (.var 1)))
 (.nil)))
def D__law_next : Def := ⟨2, 2, [0], b__law_next⟩
def N__law_next : List Str := [(Str.ofString "w"), (Str.ofString "many")]
/-- _law_pick: slots 0 w 1 rows -/
def b__law_pick : Ss :=
 .cons (.ret (.ix (.var 1) (.call 21 (.cons (.io 0) (.cons (.bi .len (.cons (.var 1) (.nil))) (.nil))))))
 (.nil)
def D__law_pick : Def := ⟨2, 2, [0], b__law_pick⟩
def N__law_pick : List Str := [(Str.ofString "w"), (Str.ofString "rows")]
/-- _law_alike: slots 0 given 1 due 2 k -/
def c__law_alike_0 : E :=
 .un .Not (.call 23 (.cons (.ix (.var 0) (.var 2)) (.cons (.ix (.var 1) (.var 2)) (.nil))))
@[simp] theorem als_c__law_alike_0 : als c__law_alike_0 = [0, 2, 1, 2] := id rfl
@[simp] theorem mods_c__law_alike_0 : mods c__law_alike_0 = [] := id rfl
def b__law_alike : Ss :=
 .cons (.ifs (.bi (.isI "tuple") (.cons (.var 1) (.nil))) (.cons (.ifs (.bop .Or (.un .Not (.bi (.isI "tuple") (.cons (.var 0) (.nil)))) (.cmp .NotEq (.bi .len (.cons (.var 0) (.nil))) (.bi .len (.cons (.var 1) (.nil))))) (.cons (.ret (.bl false))
 (.nil)) (.nil))
 (.cons (.ret (.cmp .Eq (.comp [2] (.nm 2) (.rng (.cons (.bi .len (.cons (.var 1) (.nil))) (.nil))) (c__law_alike_0) (.var 2)) (.lst (.nil))))
 (.nil))) (.nil))
 (.cons (.ifs (.cmp .Is (.var 1) (.non)) (.cons (.ret (.cmp .Is (.var 0) (.non)))
 (.nil)) (.nil))
 (.cons (.ifs (.bi (.isI "bool") (.cons (.var 1) (.nil))) (.cons (.ret (.bop .And (.bi (.isI "bool") (.cons (.var 0) (.nil))) (.cmp .Eq (.var 0) (.var 1))))
 (.nil)) (.nil))
 (.cons (.ifs (.bi (.isI "int") (.cons (.var 1) (.nil))) (.cons (.ret (.bop .And (.bi (.isI "int") (.cons (.var 0) (.nil))) (.bop .And (.un .Not (.bi (.isI "bool") (.cons (.var 0) (.nil)))) (.cmp .Eq (.var 0) (.var 1)))))
 (.nil)) (.nil))
 (.cons (.ret (.bop .And (.bi (.isI "str") (.cons (.var 0) (.nil))) (.cmp .Eq (.var 0) (.var 1))))
 (.nil)))))
def D__law_alike : Def := ⟨2, 3, [], b__law_alike⟩
def N__law_alike : List Str := [(Str.ofString "given"), (Str.ofString "due"), (Str.ofString "k")]
/-- _law_room: slots 0 asks 1 name 2 own 3 given 4 k -/
def e__law_room_0 : E :=
 .ix (.ix (.var 0) (.var 4)) (.int 2)
@[simp] theorem als_e__law_room_0 : als e__law_room_0 = [0, 4] := id rfl
@[simp] theorem mods_e__law_room_0 : mods e__law_room_0 = [] := id rfl
def e__law_room_1 : E :=
 .ix (.ix (.var 0) (.var 4)) (.int 1)
@[simp] theorem als_e__law_room_1 : als e__law_room_1 = [0, 4] := id rfl
@[simp] theorem mods_e__law_room_1 : mods e__law_room_1 = [] := id rfl
def c__law_room_2 : E :=
 .ix (.ix (.var 0) (.var 4)) (.int 3)
@[simp] theorem als_c__law_room_2 : als c__law_room_2 = [0, 4] := id rfl
@[simp] theorem mods_c__law_room_2 : mods c__law_room_2 = [] := id rfl
def c__law_room_3 : E :=
 .cmp .Eq (.ix (.ix (.var 0) (.var 4)) (.int 0)) (.var 1)
@[simp] theorem als_c__law_room_3 : als c__law_room_3 = [0, 4, 1] := id rfl
@[simp] theorem mods_c__law_room_3 : mods c__law_room_3 = [] := id rfl
def b__law_room : Ss :=
 .cons (.asg 2 (.comp [4] (.nm 4) (.rng (.cons (.bi .len (.cons (.var 0) (.nil))) (.nil))) (c__law_room_3) (.var 4)))
 (.cons (.asg 3 (.comp [4] (.nm 4) (.seq (.var 2)) (c__law_room_2) (.var 4)))
 (.cons (.ifs (.cmp .NotEq (.var 3) (.lst (.nil))) (.cons (.ret (.tup (.cons (.ix (.ix (.var 0) (.ix (.var 3) (.int 0))) (.int 1)) (.cons (.ix (.ix (.var 0) (.ix (.var 3) (.int 0))) (.int 2)) (.cons (.ix (.var 3) (.int 0)) (.nil))))))
 (.nil)) (.nil))
 (.cons (.ret (.tup (.cons (.bi .max (.cons (.comp [4] (.nm 4) (.seq (.var 2)) (.bl true) (e__law_room_1)) (.nil))) (.cons (.bi .max (.cons (.comp [4] (.nm 4) (.seq (.var 2)) (.bl true) (e__law_room_0)) (.nil))) (.cons (.non) (.nil))))))
 (.nil))))
def D__law_room : Def := ⟨2, 5, [], b__law_room⟩
def N__law_room : List Str := [(Str.ofString "asks"), (Str.ofString "name"), (Str.ofString "own"), (Str.ofString "given"), (Str.ofString "k")]
/-- _law_asks: slots 0 w 1 many 2 k -/
def e__law_asks_0 : E :=
 .tup (.cons (.call 22 (.cons (.io 0) (.cons (.lst (.cons (.str (Str.ofString "a")) (.cons (.str (Str.ofString "b")) (.cons (.str (Str.ofString "c")) (.nil))))) (.nil)))) (.cons (.bin .Add (.int 1) (.call 21 (.cons (.io 0) (.cons (.int 20) (.nil))))) (.cons (.call 22 (.cons (.io 0) (.cons (.lst (.cons (.int 1) (.cons (.int 2) (.cons (.int 4) (.cons (.int 8) (.nil)))))) (.nil)))) (.cons (.cmp .Eq (.call 21 (.cons (.io 0) (.cons (.int 5) (.nil)))) (.int 0)) (.nil)))))
@[simp] theorem als_e__law_asks_0 : als e__law_asks_0 = [] := id rfl
@[simp] theorem mods_e__law_asks_0 : mods e__law_asks_0 = [0, 0, 0, 0] := id rfl
def b__law_asks : Ss :=
 .cons (.ret (.bi .tuple (.cons (.comp [2] (.nm 2) (.rng (.cons (.var 1) (.nil))) (.bl true) (e__law_asks_0)) (.nil))))
 (.nil)
def D__law_asks : Def := ⟨2, 3, [0], b__law_asks⟩
def N__law_asks : List Str := [(Str.ofString "w"), (Str.ofString "many"), (Str.ofString "k")]
/-- law: slots 0 script 1 w 2 turn 3 asks 4 more 5 names 6 twice 7 rooms 8 small 9 name 10 own 11 rests 12 turns 13 grown 14 most 15 order 16 begin 17 at 18 places 19 room 20 bad 21 k 22 key 23 rest 24 one -/
def b_law_0 : Ss :=
 .cons (.ifs (.un .Not (.call 23 (.cons (.call 8 (.cons (.var 20) (.nil))) (.cons (.bl false) (.nil))))) (.cons (.ret (.bl false))
 (.nil)) (.nil))
 (.nil)
def b_law_1 : Ss :=
 .cons (.asg 17 (.bin .Mult (.bin .FloorDiv (.bin .Sub (.bin .Add (.var 17) (.ix (.var 19) (.int 2))) (.int 1)) (.ix (.var 19) (.int 2))) (.ix (.var 19) (.int 2))))
 (.cons (.asgDS 18 (.ix (.var 19) (.int 0)) 17 (.var 17) (.bin .Add (.var 17) (.ix (.var 19) (.int 1))))
 (.nil))
def e_law_2 : E :=
 .tup (.cons (.bin .Sub (.int 0) (.ix (.var 19) (.int 2))) (.cons (.bin .Sub (.int 0) (.ix (.var 19) (.int 1))) (.cons (.ix (.var 19) (.int 0)) (.cons (.var 19) (.nil)))))
@[simp] theorem als_e_law_2 : als e_law_2 = [19, 19, 19, 19] := id rfl
@[simp] theorem mods_e_law_2 : mods e_law_2 = [] := id rfl
def e_law_3 : E :=
 .ix (.var 22) (.int 3)
@[simp] theorem als_e_law_3 : als e_law_3 = [22] := id rfl
@[simp] theorem mods_e_law_3 : mods e_law_3 = [] := id rfl
def e_law_4 : E :=
 .ix (.call 24 (.cons (.var 3) (.cons (.var 9) (.nil)))) (.int 0)
@[simp] theorem als_e_law_4 : als e_law_4 = [3, 9] := id rfl
@[simp] theorem mods_e_law_4 : mods e_law_4 = [] := id rfl
def c_law_5 : E :=
 .cmp .Eq (.ix (.var 10) (.int 0)) (.var 9)
@[simp] theorem als_c_law_5 : als c_law_5 = [10, 9] := id rfl
@[simp] theorem mods_c_law_5 : mods c_law_5 = [] := id rfl
def e_law_6 : E :=
 .tup (.cons (.bin .Sub (.int 0) (.bi .len (.cons (.comp [10] (.nm 10) (.seq (.var 3)) (c_law_5) (.int 1)) (.nil)))) (.cons (.var 9) (.nil)))
@[simp] theorem als_e_law_6 : als e_law_6 = [3, 10, 9, 9] := id rfl
@[simp] theorem mods_e_law_6 : mods e_law_6 = [] := id rfl
def c_law_7 : E :=
 .bop .Or (.cmp .Gt (.ix (.call 24 (.cons (.bin .Add (.var 3) (.var 4)) (.cons (.var 9) (.nil)))) (.int 0)) (.ix (.call 24 (.cons (.var 3) (.cons (.var 9) (.nil)))) (.int 0))) (.cmp .Gt (.ix (.call 24 (.cons (.bin .Add (.var 3) (.var 4)) (.cons (.var 9) (.nil)))) (.int 1)) (.ix (.call 24 (.cons (.var 3) (.cons (.var 9) (.nil)))) (.int 1)))
@[simp] theorem als_c_law_7 : als c_law_7 = [3, 4, 9, 3, 9, 3, 4, 9, 3, 9] := id rfl
@[simp] theorem mods_c_law_7 : mods c_law_7 = [] := id rfl
def c_law_8 : E :=
 .cmp .Eq (.ix (.var 24) (.int 0)) (.var 9)
@[simp] theorem als_c_law_8 : als c_law_8 = [24, 9] := id rfl
@[simp] theorem mods_c_law_8 : mods c_law_8 = [] := id rfl
def c_law_9 : E :=
 .bop .Or (.cmp .Eq (.comp [24] (.nm 24) (.seq (.var 23)) (c_law_8) (.int 1)) (.lst (.nil))) (.cmp .NotEq (.sl (.call 24 (.cons (.var 23) (.cons (.var 9) (.nil)))) .no (.so (.int 2))) (.sl (.call 24 (.cons (.var 3) (.cons (.var 9) (.nil)))) .no (.so (.int 2))))
@[simp] theorem als_c_law_9 : als c_law_9 = [23, 24, 9, 23, 9, 3, 9] := id rfl
@[simp] theorem mods_c_law_9 : mods c_law_9 = [] := id rfl
def e_law_10 : E :=
 .tup (.cons (.var 21) (.cons (.bin .Add (.sl (.var 3) .no (.so (.var 21))) (.sl (.var 3) (.so (.bin .Add (.var 21) (.int 1))) .no)) (.nil)))
@[simp] theorem als_e_law_10 : als e_law_10 = [21, 3, 21, 3, 21] := id rfl
@[simp] theorem mods_e_law_10 : mods e_law_10 = [] := id rfl
def c_law_11 : E :=
 .cmp .Eq (.ix (.ix (.var 3) (.var 21)) (.int 0)) (.var 9)
@[simp] theorem als_c_law_11 : als c_law_11 = [3, 21, 9] := id rfl
@[simp] theorem mods_c_law_11 : mods c_law_11 = [] := id rfl
def b_law_12 : Ss :=
 .cons (.asg 10 (.comp [21] (.nm 21) (.rng (.cons (.bi .len (.cons (.var 3) (.nil))) (.nil))) (c_law_11) (.var 21)))
 (.cons (.asg 11 (.comp [21] (.nm 21) (.seq (.var 10)) (.bl true) (e_law_10)))
 (.cons (.asg 12 (.bi .tuple (.cons (.comp [21, 23] (.tp [.nm 21, .nm 23]) (.seq (.var 11)) (c_law_9) (.var 21)) (.nil))))
 (.cons (.ifs (.un .Not (.call 23 (.cons (.tup (.cons (.call 10 (.cons (.var 3) (.cons (.var 9) (.nil)))) (.cons (.call 19 (.cons (.var 3) (.cons (.var 9) (.nil)))) (.nil)))) (.cons (.tup (.cons (.call 24 (.cons (.var 3) (.cons (.var 9) (.nil)))) (.cons (.var 12) (.nil)))) (.nil))))) (.cons (.ret (.bl false))
 (.nil)) (.nil))
 (.nil))))
def c_law_13 : E :=
 .bop .And (.cmp .IsNot (.ix (.call 24 (.cons (.var 3) (.cons (.ix (.ix (.var 3) (.var 21)) (.int 0)) (.nil)))) (.int 2)) (.non)) (.bop .Or (.cmp .Gt (.ix (.ix (.var 3) (.var 21)) (.int 1)) (.ix (.call 24 (.cons (.var 3) (.cons (.ix (.ix (.var 3) (.var 21)) (.int 0)) (.nil)))) (.int 0))) (.cmp .Gt (.ix (.ix (.var 3) (.var 21)) (.int 2)) (.ix (.call 24 (.cons (.var 3) (.cons (.ix (.ix (.var 3) (.var 21)) (.int 0)) (.nil)))) (.int 1))))
@[simp] theorem als_c_law_13 : als c_law_13 = [3, 3, 21, 3, 21, 3, 3, 21, 3, 21, 3, 3, 21] := id rfl
@[simp] theorem mods_c_law_13 : mods c_law_13 = [] := id rfl
def c_law_14 : E :=
 .cmp .Is (.ix (.call 24 (.cons (.var 3) (.cons (.var 9) (.nil)))) (.int 2)) (.non)
@[simp] theorem als_c_law_14 : als c_law_14 = [3, 9] := id rfl
@[simp] theorem mods_c_law_14 : mods c_law_14 = [] := id rfl
def e_law_15 : E :=
 .bin .Add (.tup (.cons (.var 9) (.nil))) (.sl (.call 24 (.cons (.var 3) (.cons (.var 9) (.nil)))) .no (.so (.int 2)))
@[simp] theorem als_e_law_15 : als e_law_15 = [9, 3, 9] := id rfl
@[simp] theorem mods_e_law_15 : mods e_law_15 = [] := id rfl
def c_law_16 : E :=
 .bop .And (.cmp .Eq (.ix (.var 10) (.int 0)) (.var 9)) (.ix (.var 10) (.int 3))
@[simp] theorem als_c_law_16 : als c_law_16 = [10, 9, 10] := id rfl
@[simp] theorem mods_c_law_16 : mods c_law_16 = [] := id rfl
def c_law_17 : E :=
 .cmp .Gt (.bi .len (.cons (.comp [10] (.nm 10) (.seq (.var 3)) (c_law_16) (.int 1)) (.nil))) (.int 1)
@[simp] theorem als_c_law_17 : als c_law_17 = [3, 10, 9, 10] := id rfl
@[simp] theorem mods_c_law_17 : mods c_law_17 = [] := id rfl
def e_law_18 : E :=
 .tup (.cons (.ix (.var 10) (.int 0)) (.cons (.bl true) (.nil)))
@[simp] theorem als_e_law_18 : als e_law_18 = [10] := id rfl
@[simp] theorem mods_e_law_18 : mods e_law_18 = [] := id rfl
def b_law_19 : Ss :=
 .cons (.asgD [3, 4] (.cons (.call 25 (.cons (.io 1) (.cons (.call 21 (.cons (.io 1) (.cons (.int 7) (.nil)))) (.nil)))) (.cons (.call 25 (.cons (.io 1) (.cons (.call 21 (.cons (.io 1) (.cons (.int 3) (.nil)))) (.nil)))) (.nil))))
 (.cons (.asg 5 (.bi .sorted (.cons (.bi .dict (.cons (.comp [10] (.nm 10) (.seq (.var 3)) (.bl true) (e_law_18)) (.nil))) (.nil))))
 (.cons (.asg 6 (.bi .tuple (.cons (.comp [9] (.nm 9) (.seq (.var 5)) (c_law_17) (.var 9)) (.nil))))
 (.cons (.asg 7 (.bi .tuple (.cons (.comp [9] (.nm 9) (.seq (.var 5)) (c_law_14) (e_law_15)) (.nil))))
 (.cons (.asg 8 (.bi .tuple (.cons (.comp [21] (.nm 21) (.rng (.cons (.bi .len (.cons (.var 3) (.nil))) (.nil))) (c_law_13) (.var 21)) (.nil))))
 (.cons (.ifs (.un .Not (.call 23 (.cons (.tup (.cons (.call 9 (.cons (.var 3) (.nil))) (.cons (.call 11 (.cons (.var 3) (.nil))) (.cons (.call 13 (.cons (.var 3) (.nil))) (.cons (.call 12 (.cons (.var 3) (.nil))) (.cons (.call 8 (.cons (.var 3) (.nil))) (.nil))))))) (.cons (.tup (.cons (.bi .tuple (.cons (.var 5) (.nil))) (.cons (.var 6) (.cons (.ite (.cmp .NotEq (.var 6) (.tup (.nil))) (.tup (.cons (.str (Str.ofString "no")) (.cons (.var 6) (.nil)))) (.tup (.cons (.str (Str.ofString "yes")) (.cons (.var 7) (.nil))))) (.cons (.var 8) (.cons (.bl true) (.nil))))))) (.nil))))) (.cons (.ret (.bl false))
 (.nil)) (.nil))
 (.cons (.for_ (.nm 9) (.seq (.var 5)) (b_law_12) [9, 10, 11, 12])
 (.cons (.asg 13 (.bi .tuple (.cons (.comp [9] (.nm 9) (.seq (.var 5)) (c_law_7) (.var 9)) (.nil))))
 (.cons (.asg 14 (.ite (.cmp .NotEq (.var 5) (.lst (.nil))) (.bi .min (.cons (.comp [9] (.nm 9) (.seq (.var 5)) (.bl true) (e_law_6)) (.nil))) (.non)))
 (.cons (.ifs (.un .Not (.call 23 (.cons (.tup (.cons (.call 17 (.cons (.var 3) (.cons (.var 4) (.nil)))) (.cons (.call 18 (.cons (.var 3) (.nil))) (.cons (.call 16 (.cons (.var 3) (.nil))) (.nil))))) (.cons (.tup (.cons (.var 13) (.cons (.ite (.cmp .IsNot (.var 14) (.non)) (.tup (.cons (.bin .Sub (.int 0) (.ix (.var 14) (.int 0))) (.cons (.ix (.var 14) (.int 1)) (.nil)))) (.non)) (.cons (.bi .sum (.cons (.comp [9] (.nm 9) (.seq (.var 5)) (.bl true) (e_law_4)) (.nil))) (.nil))))) (.nil))))) (.cons (.ret (.bl false))
 (.nil)) (.nil))
 (.cons (.asg 15 (.bi .tuple (.cons (.comp [22] (.nm 22) (.seq (.bi .sorted (.cons (.comp [19] (.nm 19) (.seq (.var 7)) (.bl true) (e_law_2)) (.nil)))) (.bl true) (e_law_3)) (.nil))))
 (.cons (.asgD [16, 17, 18] (.cons (.call 21 (.cons (.io 1) (.cons (.int 40) (.nil)))) (.cons (.int 0) (.cons (.dic (.nil)) (.nil)))))
 (.cons (.asg 17 (.var 16))
 (.cons (.for_ (.nm 19) (.seq (.var 15)) (b_law_1) [19])
 (.cons (.ifs (.bop .Or (.un .Not (.call 23 (.cons (.call 14 (.cons (.var 7) (.nil))) (.cons (.var 15) (.nil))))) (.cmp .NotEq (.call 15 (.cons (.var 15) (.cons (.var 16) (.nil)))) (.var 18))) (.cons (.ret (.bl false))
 (.nil)) (.nil))
 (.cons (.for_ (.nm 20) (.seq (.tup (.cons (.bi .list (.cons (.var 3) (.nil))) (.cons (.non) (.cons (.bin .Add (.var 3) (.tup (.cons (.tup (.cons (.str (Str.ofString "a")) (.cons (.int 0) (.cons (.int 1) (.cons (.bl false) (.nil)))))) (.nil)))) (.cons (.bin .Add (.var 3) (.tup (.cons (.tup (.cons (.str (Str.ofString "a")) (.cons (.int 1) (.cons (.int 3) (.cons (.bl false) (.nil)))))) (.nil)))) (.cons (.bin .Add (.var 3) (.tup (.cons (.tup (.cons (.str (Str.ofString "a")) (.cons (.int 1) (.cons (.int 1) (.cons (.int 1) (.nil)))))) (.nil)))) (.cons (.bin .Add (.var 3) (.tup (.cons (.tup (.cons (.str (Str.ofString "a")) (.cons (.int 1) (.cons (.int 1) (.nil))))) (.nil)))) (.cons (.bin .Add (.var 3) (.tup (.cons (.tup (.cons (.str (Str.ofString "")) (.cons (.int 1) (.cons (.int 1) (.cons (.bl true) (.nil)))))) (.nil)))) (.cons (.bin .Add (.var 3) (.tup (.cons (.tup (.cons (.str (Str.ofString "a")) (.cons (.bl true) (.cons (.int 1) (.cons (.bl true) (.nil)))))) (.nil)))) (.cons (.bin .Add (.var 3) (.tup (.cons (.tup (.cons (.str (Str.ofString "a")) (.cons (.int 1) (.cons (.int 0) (.cons (.bl true) (.nil)))))) (.nil)))) (.nil)))))))))))) (b_law_0) [20])
 (.nil))))))))))))))))
def b_law : Ss :=
 .cons (.for_ (.nm 2) (.rng (.cons (.int 9) (.nil))) (b_law_19) [2, 3, 4, 5, 6, 7, 8, 9, 10, 11, 12, 13, 14, 15, 16, 17, 18, 19, 20])
 (.cons (.ret (.bl true))
 (.nil))
def D_law : Def := ⟨1, 25, [], b_law⟩
def N_law : List Str := [(Str.ofString "script"), (Str.ofString "w"), (Str.ofString "turn"), (Str.ofString "asks"), (Str.ofString "more"), (Str.ofString "names"), (Str.ofString "twice"), (Str.ofString "rooms"), (Str.ofString "small"), (Str.ofString "name"), (Str.ofString "own"), (Str.ofString "rests"), (Str.ofString "turns"), (Str.ofString "grown"), (Str.ofString "most"), (Str.ofString "order"), (Str.ofString "begin"), (Str.ofString "at"), (Str.ofString "places"), (Str.ofString "room"), (Str.ofString "bad"), (Str.ofString "k"), (Str.ofString "key"), (Str.ofString "rest"), (Str.ofString "one")]
def tbl : List Def := [D_is_number, D_is_from, D_is_tuple_of, D_is_name, D_is_power, D_set_of, D_up_to, D_laid, D_are_asks, D_asked_names, D_room_for, D_rooms_given_twice, D_too_small, D_all_rooms, D_rooms_by_alignment, D_put_rooms, D_whole_room, D_grown_by, D_asked_most, D_decides, D_is_number, D__law_next, D__law_pick, D__law_alike, D__law_room, D__law_asks]
def gls : List PyData := [.str (Str.ofString "abcdefghijklmnopqrstuvwxyz"), .str (Str.ofString "0123456789")]
def gn : List Str := ["LETTERS", "DIGITS"]
def bn : List Str := ["abs", "all", "bool", "dict", "int", "isinstance", "len", "list", "max", "min", "range", "set", "sorted", "str", "sum", "tuple", "zip"]
def T : List (Str × List Bool) := [("is_number", [false]), ("is_from", [false, false]), ("is_tuple_of", [false, false]), ("is_name", [false]), ("is_power", [false]), ("set_of", [false]), ("up_to", [false, false]), ("laid", [false, false]), ("are_asks", [false]), ("asked_names", [false]), ("room_for", [false, false]), ("rooms_given_twice", [false]), ("too_small", [false]), ("all_rooms", [false]), ("rooms_by_alignment", [false]), ("put_rooms", [false, false]), ("whole_room", [false]), ("grown_by", [false, false]), ("asked_most", [false]), ("decides", [false, false]), ("is_number", [false]), ("_law_next", [true, false]), ("_law_pick", [true, false]), ("_law_alike", [false, false]), ("_law_room", [false, false]), ("_law_asks", [true, false])]
abbrev F_is_number : Nat := 0
abbrev F_is_from : Nat := 1
abbrev F_is_tuple_of : Nat := 2
abbrev F_is_name : Nat := 3
abbrev F_is_power : Nat := 4
abbrev F_set_of : Nat := 5
abbrev F_up_to : Nat := 6
abbrev F_laid : Nat := 7
abbrev F_are_asks : Nat := 8
abbrev F_asked_names : Nat := 9
abbrev F_room_for : Nat := 10
abbrev F_rooms_given_twice : Nat := 11
abbrev F_too_small : Nat := 12
abbrev F_all_rooms : Nat := 13
abbrev F_rooms_by_alignment : Nat := 14
abbrev F_put_rooms : Nat := 15
abbrev F_whole_room : Nat := 16
abbrev F_grown_by : Nat := 17
abbrev F_asked_most : Nat := 18
abbrev F_decides : Nat := 19
abbrev F__law_draws : Nat := 20
abbrev F__law_next : Nat := 21
abbrev F__law_pick : Nat := 22
abbrev F__law_alike : Nat := 23
abbrev F__law_room : Nat := 24
abbrev F__law_asks : Nat := 25
abbrev F_law : Nat := 26
end LW

namespace LW
open PySem PySem.Spec PyProof.Rows L2 PP
def top (i : Nat) : Stmt := PySem.Challenge.pw_linkwright_k26_rooms_that_many_ask_for.main.body.getD i (.Pass ⟨0, 0, 0, 0⟩)
theorem w_is_number {n : Nat} {X : Cx} (C : Ctx tbl gls gn T bn n X) (hp : PassesOwn (model X.prog X.w) X.A X.env X.xe) (hN : X.N = N_is_number) (hs : X.env.scope = defScope (top 3)) (hfn : ∀ x, X.fn x = true) :
    PSsv X (phi tbl gls n) gls [] (defBody (top 3)) b_is_number := by
  have nd : X.N.Nodup := by rw [hN]; decide +kernel
  have n0 : X.N[0]? = some (Str.ofString "thing") := by rw [hN]; rfl
  have l0 : X.env.scope.names.lookup (Str.ofString "thing") = some .local := look_of hs (by kernel_rfl)
  have v0 : Vis X.env.scope "thing" := .inl l0
  have g_bool : Gl X "bool" := look_of hs (by kernel_rfl)
  have g_int : Gl X "int" := look_of hs (by kernel_rfl)
  have g_isinstance : Gl X "isinstance" := look_of hs (by kernel_rfl)
  exact (ss_cons (s_ret (e_and (e_isI g_isinstance (C.free "isinstance" (by decide)) g_int (C.free "int" (by decide)) rfl (e_var n0 v0)) (e_one (e_not (e_isI g_isinstance (C.free "isinstance" (by decide)) g_bool (C.free "bool" (by decide)) rfl (e_var n0 v0))))))
 ss_nil)
theorem w_is_from {n : Nat} {X : Cx} (C : Ctx tbl gls gn T bn n X) (hp : PassesOwn (model X.prog X.w) X.A X.env X.xe) (hN : X.N = N_is_from) (hs : X.env.scope = defScope (top 4)) (hfn : ∀ x, X.fn x = true) :
    PSsv X (phi tbl gls n) gls [] (defBody (top 4)) b_is_from := by
  have nd : X.N.Nodup := by rw [hN]; decide +kernel
  have n0 : X.N[0]? = some (Str.ofString "thing") := by rw [hN]; rfl
  have l0 : X.env.scope.names.lookup (Str.ofString "thing") = some .local := look_of hs (by kernel_rfl)
  have v0 : Vis X.env.scope "thing" := .inl l0
  have n1 : X.N[1]? = some (Str.ofString "least") := by rw [hN]; rfl
  have l1 : X.env.scope.names.lookup (Str.ofString "least") = some .local := look_of hs (by kernel_rfl)
  have v1 : Vis X.env.scope "least" := .inl l1
  have g_is_number : Gl X "is_number" := look_of hs (by kernel_rfl)
  exact (ss_cons (s_ret (e_and (e_call (C.call 0 _ _ rfl) C.room g_is_number (a_cons (e_var n0 v0) a_nil)) (e_one (e_cmp C.units (e_var n0 v0) (e_var n1 v1) (nomark _)))))
 ss_nil)
theorem w_is_tuple_of {n : Nat} {X : Cx} (C : Ctx tbl gls gn T bn n X) (hp : PassesOwn (model X.prog X.w) X.A X.env X.xe) (hN : X.N = N_is_tuple_of) (hs : X.env.scope = defScope (top 5)) (hfn : ∀ x, X.fn x = true) :
    PSsv X (phi tbl gls n) gls [] (defBody (top 5)) b_is_tuple_of := by
  have nd : X.N.Nodup := by rw [hN]; decide +kernel
  have n0 : X.N[0]? = some (Str.ofString "thing") := by rw [hN]; rfl
  have l0 : X.env.scope.names.lookup (Str.ofString "thing") = some .local := look_of hs (by kernel_rfl)
  have v0 : Vis X.env.scope "thing" := .inl l0
  have n1 : X.N[1]? = some (Str.ofString "many") := by rw [hN]; rfl
  have l1 : X.env.scope.names.lookup (Str.ofString "many") = some .local := look_of hs (by kernel_rfl)
  have v1 : Vis X.env.scope "many" := .inl l1
  have g_isinstance : Gl X "isinstance" := look_of hs (by kernel_rfl)
  have g_len : Gl X "len" := look_of hs (by kernel_rfl)
  have g_tuple : Gl X "tuple" := look_of hs (by kernel_rfl)
  exact (ss_cons (s_ret (e_and (e_isI g_isinstance (C.free "isinstance" (by decide)) g_tuple (C.free "tuple" (by decide)) rfl (e_var n0 v0)) (e_one (e_cmp C.units (e_callB crLen g_len (C.free "len" (by decide)) rfl (a_cons (e_var n0 v0) a_nil)) (e_var n1 v1) (nomark _)))))
 ss_nil)
theorem w_is_name {n : Nat} {X : Cx} (C : Ctx tbl gls gn T bn n X) (hp : PassesOwn (model X.prog X.w) X.A X.env X.xe) (hN : X.N = N_is_name) (hs : X.env.scope = defScope (top 6)) (hfn : ∀ x, X.fn x = true) :
    PSsv X (phi tbl gls n) gls [] (defBody (top 6)) b_is_name := by
  have nd : X.N.Nodup := by rw [hN]; decide +kernel
  have n0 : X.N[0]? = some (Str.ofString "thing") := by rw [hN]; rfl
  have l0 : X.env.scope.names.lookup (Str.ofString "thing") = some .local := look_of hs (by kernel_rfl)
  have v0 : Vis X.env.scope "thing" := .inl l0
  have n1 : X.N[1]? = some (Str.ofString "sign") := by rw [hN]; rfl
  have g_LETTERS : Gl X "LETTERS" := look_of hs (by kernel_rfl)
  have g_all : Gl X "all" := look_of hs (by kernel_rfl)
  have g_isinstance : Gl X "isinstance" := look_of hs (by kernel_rfl)
  have g_str : Gl X "str" := look_of hs (by kernel_rfl)
  exact (ss_cons (s_if (t_w (w_or (t_not (t_val (e_isI g_isinstance (C.free "isinstance" (by decide)) g_str (C.free "str" (by decide)) rfl (e_var n0 v0)))) (w_or (t_cmp C.units (e_var n0 v0) e_str (nomark _)) (w_or1 (t_cmp C.units (e_ix C.units (e_var n0 v0) e_int (fun _ _ => rfl)) (e_globS g_LETTERS (C.gstr 0 _ _ rfl rfl) rfl) (by with_unfolding_all rfl))))))
 (ss_cons (s_ret e_bl)
 ss_nil)
 ss_nil)
 (ss_cons (s_ret (e_callB (crAll C.calm) g_all (C.free "all" (by decide)) rfl (a_cons (e_comp C.calm nd (i_seq (e_var n0 v0)) (blk_of (own := [("sign", 1)]) hN hs (by kernel_rfl)) rfl (by decide) (fun _ _ _ _ _ => (g_nm nd n1 (locC (by kernel_rfl)) (hfC (by kernel_rfl)))) (fun _ _ _ _ _ => c_nil) (fun _ _ _ _ _ => (e_or (e_cmp C.units (e_var n1 (visC (by kernel_rfl))) (e_globS (glC (by kernel_rfl)) (C.gstr 0 _ _ rfl rfl) rfl) (by with_unfolding_all rfl)) (e_one (e_cmp C.units (e_var n1 (visC (by kernel_rfl))) (e_globS (glC (by kernel_rfl)) (C.gstr 1 _ _ rfl rfl) rfl) (by with_unfolding_all rfl)))))) a_nil)))
 ss_nil))
theorem w_is_power {n : Nat} {X : Cx} (C : Ctx tbl gls gn T bn n X) (hp : PassesOwn (model X.prog X.w) X.A X.env X.xe) (hN : X.N = N_is_power) (hs : X.env.scope = defScope (top 7)) (hfn : ∀ x, X.fn x = true) :
    PSsv X (phi tbl gls n) gls [] (defBody (top 7)) b_is_power := by
  have nd : X.N.Nodup := by rw [hN]; decide +kernel
  have n0 : X.N[0]? = some (Str.ofString "thing") := by rw [hN]; rfl
  have l0 : X.env.scope.names.lookup (Str.ofString "thing") = some .local := look_of hs (by kernel_rfl)
  have v0 : Vis X.env.scope "thing" := .inl l0
  have g_is_from : Gl X "is_from" := look_of hs (by kernel_rfl)
  exact (ss_cons (s_if (t_not (t_val (e_call (C.call 1 _ _ rfl) C.room g_is_from (a_cons (e_var n0 v0) (a_cons e_int a_nil)))))
 (ss_cons (s_ret e_bl)
 ss_nil)
 ss_nil)
 (ss_cons (s_while hp (t_cmp C.units (e_bin (e_var n0 v0) e_int) e_int (nomark _))
 (ss_cons (s_asg nd n0 (.inl l0) (e_bin (e_var n0 v0) e_int) rfl (.inr l0))
 ss_nil))
 (ss_cons (s_ret (e_cmp C.units (e_var n0 v0) e_int (nomark _)))
 ss_nil)))
theorem w_set_of {n : Nat} {X : Cx} (C : Ctx tbl gls gn T bn n X) (hp : PassesOwn (model X.prog X.w) X.A X.env X.xe) (hN : X.N = N_set_of) (hs : X.env.scope = defScope (top 8)) (hfn : ∀ x, X.fn x = true) :
    PSsv X (phi tbl gls n) gls [] (defBody (top 8)) b_set_of := by
  have nd : X.N.Nodup := by rw [hN]; decide +kernel
  have n0 : X.N[0]? = some (Str.ofString "things") := by rw [hN]; rfl
  have l0 : X.env.scope.names.lookup (Str.ofString "things") = some .local := look_of hs (by kernel_rfl)
  have v0 : Vis X.env.scope "things" := .inl l0
  have g_set : Gl X "set" := look_of hs (by kernel_rfl)
  have g_sorted : Gl X "sorted" := look_of hs (by kernel_rfl)
  have g_tuple : Gl X "tuple" := look_of hs (by kernel_rfl)
  exact (ss_cons (s_ret (e_callT tyTuple (fun _ _ z => z) g_tuple (C.free "tuple" (by decide)) rfl (a_cons (e_sortedSet g_sorted (C.free "sorted" (by decide)) g_set (C.free "set" (by decide)) (e_var n0 v0) C.calm C.units) a_nil)))
 ss_nil)
theorem w_up_to {n : Nat} {X : Cx} (C : Ctx tbl gls gn T bn n X) (hp : PassesOwn (model X.prog X.w) X.A X.env X.xe) (hN : X.N = N_up_to) (hs : X.env.scope = defScope (top 9)) (hfn : ∀ x, X.fn x = true) :
    PSsv X (phi tbl gls n) gls [] (defBody (top 9)) b_up_to := by
  have nd : X.N.Nodup := by rw [hN]; decide +kernel
  have n0 : X.N[0]? = some (Str.ofString "number") := by rw [hN]; rfl
  have l0 : X.env.scope.names.lookup (Str.ofString "number") = some .local := look_of hs (by kernel_rfl)
  have v0 : Vis X.env.scope "number" := .inl l0
  have n1 : X.N[1]? = some (Str.ofString "align") := by rw [hN]; rfl
  have l1 : X.env.scope.names.lookup (Str.ofString "align") = some .local := look_of hs (by kernel_rfl)
  have v1 : Vis X.env.scope "align" := .inl l1
  exact (ss_cons (s_ret (e_bin (e_var n0 v0) (e_bin (e_bin (e_var n1 v1) (e_bin (e_var n0 v0) (e_var n1 v1))) (e_var n1 v1))))
 ss_nil)
theorem w_laid {n : Nat} {X : Cx} (C : Ctx tbl gls gn T bn n X) (hp : PassesOwn (model X.prog X.w) X.A X.env X.xe) (hN : X.N = N_laid) (hs : X.env.scope = defScope (top 11)) (hfn : ∀ x, X.fn x = true) :
    PSsv X (phi tbl gls n) gls [] (defBody (top 11)) b_laid := by
  have nd : X.N.Nodup := by rw [hN]; decide +kernel
  have n0 : X.N[0]? = some (Str.ofString "blocks") := by rw [hN]; rfl
  have l0 : X.env.scope.names.lookup (Str.ofString "blocks") = some .local := look_of hs (by kernel_rfl)
  have v0 : Vis X.env.scope "blocks" := .inl l0
  have n1 : X.N[1]? = some (Str.ofString "begin") := by rw [hN]; rfl
  have l1 : X.env.scope.names.lookup (Str.ofString "begin") = some .local := look_of hs (by kernel_rfl)
  have v1 : Vis X.env.scope "begin" := .inl l1
  have n2 : X.N[2]? = some (Str.ofString "found") := by rw [hN]; rfl
  have l2 : X.env.scope.names.lookup (Str.ofString "found") = some .local := look_of hs (by kernel_rfl)
  have v2 : Vis X.env.scope "found" := .inl l2
  have n3 : X.N[3]? = some (Str.ofString "at") := by rw [hN]; rfl
  have l3 : X.env.scope.names.lookup (Str.ofString "at") = some .local := look_of hs (by kernel_rfl)
  have v3 : Vis X.env.scope "at" := .inl l3
  have n4 : X.N[4]? = some (Str.ofString "size") := by rw [hN]; rfl
  have l4 : X.env.scope.names.lookup (Str.ofString "size") = some .local := look_of hs (by kernel_rfl)
  have v4 : Vis X.env.scope "size" := .inl l4
  have n5 : X.N[5]? = some (Str.ofString "align") := by rw [hN]; rfl
  have l5 : X.env.scope.names.lookup (Str.ofString "align") = some .local := look_of hs (by kernel_rfl)
  have v5 : Vis X.env.scope "align" := .inl l5
  have g_tuple : Gl X "tuple" := look_of hs (by kernel_rfl)
  have g_up_to : Gl X "up_to" := look_of hs (by kernel_rfl)
  exact (ss_cons (s_par C.calm nd n2 n3 (by decide) l2 l3 (e_lst a_nil) (e_var n1 v1) (sw_of hs (by kernel_rfl)))
 (ss_cons (s_for hp C.calm (i_seq (e_var n0 v0)) (g_tp C.calm (gs_cons (g_nm nd n4 (.inl l4) (.inr l4)) (gs_cons (g_nm nd n5 (.inl l5) (.inr l5)) gs_nil)))
 (ss_cons (s_asg nd n3 (.inl l3) (e_call (C.call 6 _ _ rfl) C.room g_up_to (a_cons (e_var n3 v3) (a_cons (e_var n5 v5) a_nil))) rfl (.inr l3))
 (ss_cons (s_append n2 v2 (e_var n3 v3))
 (ss_cons (s_aug (.inl rfl) nd n3 (.inl l3) (e_var n4 v4) (.inr l3))
 ss_nil))))
 (ss_cons (s_ret (e_callT tyTuple (fun _ _ z => z) g_tuple (C.free "tuple" (by decide)) rfl (a_cons (e_var n2 v2) a_nil)))
 ss_nil)))
theorem w_are_asks {n : Nat} {X : Cx} (C : Ctx tbl gls gn T bn n X) (hp : PassesOwn (model X.prog X.w) X.A X.env X.xe) (hN : X.N = N_are_asks) (hs : X.env.scope = defScope (top 13)) (hfn : ∀ x, X.fn x = true) :
    PSsv X (phi tbl gls n) gls [] (defBody (top 13)) b_are_asks := by
  have nd : X.N.Nodup := by rw [hN]; decide +kernel
  have n0 : X.N[0]? = some (Str.ofString "thing") := by rw [hN]; rfl
  have l0 : X.env.scope.names.lookup (Str.ofString "thing") = some .local := look_of hs (by kernel_rfl)
  have v0 : Vis X.env.scope "thing" := .inl l0
  have n1 : X.N[1]? = some (Str.ofString "name") := by rw [hN]; rfl
  have l1 : X.env.scope.names.lookup (Str.ofString "name") = some .local := look_of hs (by kernel_rfl)
  have v1 : Vis X.env.scope "name" := .inl l1
  have n2 : X.N[2]? = some (Str.ofString "size") := by rw [hN]; rfl
  have l2 : X.env.scope.names.lookup (Str.ofString "size") = some .local := look_of hs (by kernel_rfl)
  have v2 : Vis X.env.scope "size" := .inl l2
  have n3 : X.N[3]? = some (Str.ofString "align") := by rw [hN]; rfl
  have l3 : X.env.scope.names.lookup (Str.ofString "align") = some .local := look_of hs (by kernel_rfl)
  have v3 : Vis X.env.scope "align" := .inl l3
  have n4 : X.N[4]? = some (Str.ofString "given") := by rw [hN]; rfl
  have l4 : X.env.scope.names.lookup (Str.ofString "given") = some .local := look_of hs (by kernel_rfl)
  have v4 : Vis X.env.scope "given" := .inl l4
  have n5 : X.N[5]? = some (Str.ofString "one") := by rw [hN]; rfl
  have g_all : Gl X "all" := look_of hs (by kernel_rfl)
  have g_bool : Gl X "bool" := look_of hs (by kernel_rfl)
  have g_is_from : Gl X "is_from" := look_of hs (by kernel_rfl)
  have g_is_name : Gl X "is_name" := look_of hs (by kernel_rfl)
  have g_is_power : Gl X "is_power" := look_of hs (by kernel_rfl)
  have g_isinstance : Gl X "isinstance" := look_of hs (by kernel_rfl)
  have g_tuple : Gl X "tuple" := look_of hs (by kernel_rfl)
  exact (ss_cons (s_if (t_w (w_or (t_not (t_val (e_isI g_isinstance (C.free "isinstance" (by decide)) g_tuple (C.free "tuple" (by decide)) rfl (e_var n0 v0)))) (w_or1 (t_not (t_val (e_callB (crAll C.calm) g_all (C.free "all" (by decide)) rfl (a_cons (e_comp C.calm nd (i_seq (e_var n0 v0)) (blk_of (own := [("one", 5)]) hN hs (by kernel_rfl)) rfl (by decide) (fun _ _ _ _ _ => (g_nm nd n5 (locC (by kernel_rfl)) (hfC (by kernel_rfl)))) (fun _ _ _ _ _ => c_nil) (fun _ _ _ _ _ => (e_call (C.call 2 _ _ rfl) C.room (glC (by kernel_rfl)) (a_cons (e_var n5 (visC (by kernel_rfl))) (a_cons e_int a_nil))))) a_nil)))))))
 (ss_cons (s_ret e_bl)
 ss_nil)
 ss_nil)
 (ss_cons (s_for hp C.calm (i_seq (e_var n0 v0)) (g_tp C.calm (gs_cons (g_nm nd n1 (.inl l1) (.inr l1)) (gs_cons (g_nm nd n2 (.inl l2) (.inr l2)) (gs_cons (g_nm nd n3 (.inl l3) (.inr l3)) (gs_cons (g_nm nd n4 (.inl l4) (.inr l4)) gs_nil)))))
 (ss_cons (s_if (t_w (w_or (t_not (t_val (e_call (C.call 3 _ _ rfl) C.room g_is_name (a_cons (e_var n1 v1) a_nil)))) (w_or (t_not (t_val (e_call (C.call 1 _ _ rfl) C.room g_is_from (a_cons (e_var n2 v2) (a_cons e_int a_nil))))) (w_or (t_not (t_val (e_call (C.call 4 _ _ rfl) C.room g_is_power (a_cons (e_var n3 v3) a_nil)))) (w_or1 (t_not (t_val (e_isI g_isinstance (C.free "isinstance" (by decide)) g_bool (C.free "bool" (by decide)) rfl (e_var n4 v4)))))))))
 (ss_cons (s_ret e_bl)
 ss_nil)
 ss_nil)
 ss_nil))
 (ss_cons (s_ret e_bl)
 ss_nil)))
theorem w_asked_names {n : Nat} {X : Cx} (C : Ctx tbl gls gn T bn n X) (hp : PassesOwn (model X.prog X.w) X.A X.env X.xe) (hN : X.N = N_asked_names) (hs : X.env.scope = defScope (top 14)) (hfn : ∀ x, X.fn x = true) :
    PSsv X (phi tbl gls n) gls [] (defBody (top 14)) b_asked_names := by
  have nd : X.N.Nodup := by rw [hN]; decide +kernel
  have n0 : X.N[0]? = some (Str.ofString "asks") := by rw [hN]; rfl
  have l0 : X.env.scope.names.lookup (Str.ofString "asks") = some .local := look_of hs (by kernel_rfl)
  have v0 : Vis X.env.scope "asks" := .inl l0
  have n1 : X.N[1]? = some (Str.ofString "one") := by rw [hN]; rfl
  have g_set_of : Gl X "set_of" := look_of hs (by kernel_rfl)
  exact (ss_cons (s_ret (e_call (C.call 5 _ _ rfl) C.room g_set_of (a_cons (e_comp C.calm nd (i_seq (e_var n0 v0)) (blk_of (own := [("one", 1)]) hN hs (by kernel_rfl)) rfl (by decide) (fun _ _ _ _ _ => (g_nm nd n1 (locC (by kernel_rfl)) (hfC (by kernel_rfl)))) (fun _ _ _ _ _ => c_nil) (fun _ _ _ _ _ => (e_ix C.units (e_var n1 (visC (by kernel_rfl))) e_int (fun _ _ => rfl)))) a_nil)))
 ss_nil)
theorem w_room_for {n : Nat} {X : Cx} (C : Ctx tbl gls gn T bn n X) (hp : PassesOwn (model X.prog X.w) X.A X.env X.xe) (hN : X.N = N_room_for) (hs : X.env.scope = defScope (top 15)) (hfn : ∀ x, X.fn x = true) :
    PSsv X (phi tbl gls n) gls [] (defBody (top 15)) b_room_for := by
  have nd : X.N.Nodup := by rw [hN]; decide +kernel
  have n0 : X.N[0]? = some (Str.ofString "asks") := by rw [hN]; rfl
  have l0 : X.env.scope.names.lookup (Str.ofString "asks") = some .cell := look_of hs (by kernel_rfl)
  have v0 : Vis X.env.scope "asks" := .inr (.inl l0)
  have n1 : X.N[1]? = some (Str.ofString "name") := by rw [hN]; rfl
  have l1 : X.env.scope.names.lookup (Str.ofString "name") = some .cell := look_of hs (by kernel_rfl)
  have v1 : Vis X.env.scope "name" := .inr (.inl l1)
  have n2 : X.N[2]? = some (Str.ofString "own") := by rw [hN]; rfl
  have l2 : X.env.scope.names.lookup (Str.ofString "own") = some .local := look_of hs (by kernel_rfl)
  have v2 : Vis X.env.scope "own" := .inl l2
  have n3 : X.N[3]? = some (Str.ofString "given") := by rw [hN]; rfl
  have l3 : X.env.scope.names.lookup (Str.ofString "given") = some .local := look_of hs (by kernel_rfl)
  have v3 : Vis X.env.scope "given" := .inl l3
  have n4 : X.N[4]? = some (Str.ofString "k") := by rw [hN]; rfl
  have g_len : Gl X "len" := look_of hs (by kernel_rfl)
  have g_max : Gl X "max" := look_of hs (by kernel_rfl)
  have g_range : Gl X "range" := look_of hs (by kernel_rfl)
  exact (ss_cons (s_asgC (ps_comp C.calm nd n2 l2 (sw_loc hs (by kernel_rfl) (by kernel_rfl) (by kernel_rfl) (by kernel_rfl)) (i_rng1 g_range (C.free "range" (by decide)) (e_callB crLen g_len (C.free "len" (by decide)) rfl (a_cons (e_var n0 v0) a_nil))) (blk_of (own := [("k", 4)]) hN hs (by kernel_rfl)) rfl (by decide) (fun _ _ _ _ _ => (g_nm nd n4 (locC (by kernel_rfl)) (hfC (by kernel_rfl)))) (fun _ _ _ _ _ => (c_one (t_cmp C.units (e_ix C.units (e_ix C.units (e_var n0 (visC (by kernel_rfl))) (e_var n4 (visC (by kernel_rfl))) (fun _ _ => rfl)) e_int (fun _ _ => rfl)) (e_var n1 (visC (by kernel_rfl))) (nomark _)))) (fun _ _ _ _ _ => (e_var n4 (visC (by kernel_rfl))))))
 (ss_cons (s_asgC (ps_comp C.calm nd n3 l3 (sw_loc hs (by kernel_rfl) (by kernel_rfl) (by kernel_rfl) (by kernel_rfl)) (i_seq (e_var n2 v2)) (blk_of (own := [("k", 4)]) hN hs (by kernel_rfl)) rfl (by decide) (fun _ _ _ _ _ => (g_nm nd n4 (locC (by kernel_rfl)) (hfC (by kernel_rfl)))) (fun _ _ _ _ _ => (c_one (t_val (e_ix C.units (e_ix C.units (e_var n0 (visC (by kernel_rfl))) (e_var n4 (visC (by kernel_rfl))) (fun _ _ => rfl)) e_int (fun _ _ => rfl))))) (fun _ _ _ _ _ => (e_var n4 (visC (by kernel_rfl))))))
 (ss_cons (s_if (t_cmp C.units (e_var n3 v3) (e_lst a_nil) (nomark _))
 (ss_cons (s_ret (e_bin (e_sl (e_ix C.units (e_var n0 v0) (e_ix C.units (e_var n3 v3) e_int (fun _ _ => rfl)) (fun _ _ => rfl)) (o_so e_int) (o_so e_int)) (e_tup (a_cons (e_ix C.units (e_var n3 v3) e_int (fun _ _ => rfl)) a_nil))))
 ss_nil)
 ss_nil)
 (ss_cons (s_ret (e_tup (a_cons (e_callB (crMax C.calm C.units) g_max (C.free "max" (by decide)) rfl (a_cons (e_comp C.calm nd (i_seq (e_var n2 v2)) (blk_of (own := [("k", 4)]) hN hs (by kernel_rfl)) rfl (by decide) (fun _ _ _ _ _ => (g_nm nd n4 (locC (by kernel_rfl)) (hfC (by kernel_rfl)))) (fun _ _ _ _ _ => c_nil) (fun _ _ _ _ _ => (e_ix C.units (e_ix C.units (e_var n0 (visC (by kernel_rfl))) (e_var n4 (visC (by kernel_rfl))) (fun _ _ => rfl)) e_int (fun _ _ => rfl)))) a_nil)) (a_cons (e_callB (crMax C.calm C.units) g_max (C.free "max" (by decide)) rfl (a_cons (e_comp C.calm nd (i_seq (e_var n2 v2)) (blk_of (own := [("k", 4)]) hN hs (by kernel_rfl)) rfl (by decide) (fun _ _ _ _ _ => (g_nm nd n4 (locC (by kernel_rfl)) (hfC (by kernel_rfl)))) (fun _ _ _ _ _ => c_nil) (fun _ _ _ _ _ => (e_ix C.units (e_ix C.units (e_var n0 (visC (by kernel_rfl))) (e_var n4 (visC (by kernel_rfl))) (fun _ _ => rfl)) e_int (fun _ _ => rfl)))) a_nil)) (a_cons e_non a_nil)))))
 ss_nil))))
theorem w_rooms_given_twice {n : Nat} {X : Cx} (C : Ctx tbl gls gn T bn n X) (hp : PassesOwn (model X.prog X.w) X.A X.env X.xe) (hN : X.N = N_rooms_given_twice) (hs : X.env.scope = defScope (top 16)) (hfn : ∀ x, X.fn x = true) :
    PSsv X (phi tbl gls n) gls [] (defBody (top 16)) b_rooms_given_twice := by
  have nd : X.N.Nodup := by rw [hN]; decide +kernel
  have n0 : X.N[0]? = some (Str.ofString "asks") := by rw [hN]; rfl
  have l0 : X.env.scope.names.lookup (Str.ofString "asks") = some .local := look_of hs (by kernel_rfl)
  have v0 : Vis X.env.scope "asks" := .inl l0
  have n1 : X.N[1]? = some (Str.ofString "found") := by rw [hN]; rfl
  have l1 : X.env.scope.names.lookup (Str.ofString "found") = some .local := look_of hs (by kernel_rfl)
  have v1 : Vis X.env.scope "found" := .inl l1
  have n2 : X.N[2]? = some (Str.ofString "name") := by rw [hN]; rfl
  have l2 : X.env.scope.names.lookup (Str.ofString "name") = some .cell := look_of hs (by kernel_rfl)
  have v2 : Vis X.env.scope "name" := .inr (.inl l2)
  have n3 : X.N[3]? = some (Str.ofString "one") := by rw [hN]; rfl
  have g_asked_names : Gl X "asked_names" := look_of hs (by kernel_rfl)
  have g_len : Gl X "len" := look_of hs (by kernel_rfl)
  have g_tuple : Gl X "tuple" := look_of hs (by kernel_rfl)
  exact (ss_cons (s_asg nd n1 (.inl l1) (e_lst a_nil) rfl (.inr l1))
 (ss_cons (s_for hp C.calm (i_seq (e_call (C.call 9 _ _ rfl) C.room g_asked_names (a_cons (e_var n0 v0) a_nil))) (g_nm nd n2 (.inr l2) (.inl (hfn _)))
 (ss_cons (s_if (t_cmp C.units (e_callB crLen g_len (C.free "len" (by decide)) rfl (a_cons (e_comp C.calm nd (i_seq (e_var n0 v0)) (blk_of (own := [("one", 3)]) hN hs (by kernel_rfl)) rfl (by decide) (fun _ _ _ _ _ => (g_nm nd n3 (locC (by kernel_rfl)) (hfC (by kernel_rfl)))) (fun _ _ _ _ _ => (c_one (t_w (w_and (t_cmp C.units (e_ix C.units (e_var n3 (visC (by kernel_rfl))) e_int (fun _ _ => rfl)) (e_var n2 (visC (by kernel_rfl))) (nomark _)) (w_and1 (t_val (e_ix C.units (e_var n3 (visC (by kernel_rfl))) e_int (fun _ _ => rfl)))))))) (fun _ _ _ _ _ => e_int)) a_nil)) e_int (nomark _))
 (ss_cons (s_append n1 v1 (e_var n2 v2))
 ss_nil)
 ss_nil)
 ss_nil))
 (ss_cons (s_ret (e_callT tyTuple (fun _ _ z => z) g_tuple (C.free "tuple" (by decide)) rfl (a_cons (e_var n1 v1) a_nil)))
 ss_nil)))
theorem w_too_small {n : Nat} {X : Cx} (C : Ctx tbl gls gn T bn n X) (hp : PassesOwn (model X.prog X.w) X.A X.env X.xe) (hN : X.N = N_too_small) (hs : X.env.scope = defScope (top 17)) (hfn : ∀ x, X.fn x = true) :
    PSsv X (phi tbl gls n) gls [] (defBody (top 17)) b_too_small := by
  have nd : X.N.Nodup := by rw [hN]; decide +kernel
  have n0 : X.N[0]? = some (Str.ofString "asks") := by rw [hN]; rfl
  have l0 : X.env.scope.names.lookup (Str.ofString "asks") = some .local := look_of hs (by kernel_rfl)
  have v0 : Vis X.env.scope "asks" := .inl l0
  have n1 : X.N[1]? = some (Str.ofString "found") := by rw [hN]; rfl
  have l1 : X.env.scope.names.lookup (Str.ofString "found") = some .local := look_of hs (by kernel_rfl)
  have v1 : Vis X.env.scope "found" := .inl l1
  have n2 : X.N[2]? = some (Str.ofString "k") := by rw [hN]; rfl
  have l2 : X.env.scope.names.lookup (Str.ofString "k") = some .local := look_of hs (by kernel_rfl)
  have v2 : Vis X.env.scope "k" := .inl l2
  have n3 : X.N[3]? = some (Str.ofString "size") := by rw [hN]; rfl
  have l3 : X.env.scope.names.lookup (Str.ofString "size") = some .local := look_of hs (by kernel_rfl)
  have v3 : Vis X.env.scope "size" := .inl l3
  have n4 : X.N[4]? = some (Str.ofString "align") := by rw [hN]; rfl
  have l4 : X.env.scope.names.lookup (Str.ofString "align") = some .local := look_of hs (by kernel_rfl)
  have v4 : Vis X.env.scope "align" := .inl l4
  have n5 : X.N[5]? = some (Str.ofString "place") := by rw [hN]; rfl
  have l5 : X.env.scope.names.lookup (Str.ofString "place") = some .local := look_of hs (by kernel_rfl)
  have v5 : Vis X.env.scope "place" := .inl l5
  have g_len : Gl X "len" := look_of hs (by kernel_rfl)
  have g_range : Gl X "range" := look_of hs (by kernel_rfl)
  have g_room_for : Gl X "room_for" := look_of hs (by kernel_rfl)
  have g_tuple : Gl X "tuple" := look_of hs (by kernel_rfl)
  exact (ss_cons (s_asg nd n1 (.inl l1) (e_lst a_nil) rfl (.inr l1))
 (ss_cons (s_for hp C.calm (i_rng1 g_range (C.free "range" (by decide)) (e_callB crLen g_len (C.free "len" (by decide)) rfl (a_cons (e_var n0 v0) a_nil))) (g_nm nd n2 (.inl l2) (.inr l2))
 (ss_cons (s_asgT (e_call (C.call 10 _ _ rfl) C.room g_room_for (a_cons (e_var n0 v0) (a_cons (e_ix C.units (e_ix C.units (e_var n0 v0) (e_var n2 v2) (fun _ _ => rfl)) e_int (fun _ _ => rfl)) a_nil))) (g_tp C.calm (gs_cons (g_nm nd n3 (.inl l3) (.inr l3)) (gs_cons (g_nm nd n4 (.inl l4) (.inr l4)) (gs_cons (g_nm nd n5 (.inl l5) (.inr l5)) gs_nil)))))
 (ss_cons (s_if (t_w (w_and (t_cmp C.units (e_var n5 v5) e_non (nomark _)) (w_and1 (t_w (w_or (t_cmp C.units (e_ix C.units (e_ix C.units (e_var n0 v0) (e_var n2 v2) (fun _ _ => rfl)) e_int (fun _ _ => rfl)) (e_var n3 v3) (nomark _)) (w_or1 (t_cmp C.units (e_ix C.units (e_ix C.units (e_var n0 v0) (e_var n2 v2) (fun _ _ => rfl)) e_int (fun _ _ => rfl)) (e_var n4 v4) (nomark _))))))))
 (ss_cons (s_append n1 v1 (e_var n2 v2))
 ss_nil)
 ss_nil)
 ss_nil)))
 (ss_cons (s_ret (e_callT tyTuple (fun _ _ z => z) g_tuple (C.free "tuple" (by decide)) rfl (a_cons (e_var n1 v1) a_nil)))
 ss_nil)))
theorem w_all_rooms {n : Nat} {X : Cx} (C : Ctx tbl gls gn T bn n X) (hp : PassesOwn (model X.prog X.w) X.A X.env X.xe) (hN : X.N = N_all_rooms) (hs : X.env.scope = defScope (top 18)) (hfn : ∀ x, X.fn x = true) :
    PSsv X (phi tbl gls n) gls [] (defBody (top 18)) b_all_rooms := by
  have nd : X.N.Nodup := by rw [hN]; decide +kernel
  have n0 : X.N[0]? = some (Str.ofString "asks") := by rw [hN]; rfl
  have l0 : X.env.scope.names.lookup (Str.ofString "asks") = some .cell := look_of hs (by kernel_rfl)
  have v0 : Vis X.env.scope "asks" := .inr (.inl l0)
  have n1 : X.N[1]? = some (Str.ofString "rows") := by rw [hN]; rfl
  have l1 : X.env.scope.names.lookup (Str.ofString "rows") = some .local := look_of hs (by kernel_rfl)
  have v1 : Vis X.env.scope "rows" := .inl l1
  have n2 : X.N[2]? = some (Str.ofString "name") := by rw [hN]; rfl
  have n3 : X.N[3]? = some (Str.ofString "row") := by rw [hN]; rfl
  have g_asked_names : Gl X "asked_names" := look_of hs (by kernel_rfl)
  have g_rooms_given_twice : Gl X "rooms_given_twice" := look_of hs (by kernel_rfl)
  have g_tuple : Gl X "tuple" := look_of hs (by kernel_rfl)
  exact (ss_cons (s_if (t_cmp C.units (e_call (C.call 11 _ _ rfl) C.room g_rooms_given_twice (a_cons (e_var n0 v0) a_nil)) (e_tup a_nil) (nomark _))
 (ss_cons (s_ret (e_tup (a_cons e_str (a_cons (e_call (C.call 11 _ _ rfl) C.room g_rooms_given_twice (a_cons (e_var n0 v0) a_nil)) a_nil))))
 ss_nil)
 ss_nil)
 (ss_cons (s_asgC (ps_comp C.calm nd n1 l1 (sw_loc hs (by kernel_rfl) (by kernel_rfl) (by kernel_rfl) (by kernel_rfl)) (i_seq (e_call (C.call 9 _ _ rfl) C.room g_asked_names (a_cons (e_var n0 v0) a_nil))) (blk_of (own := [("name", 2)]) hN hs (by kernel_rfl)) rfl (by decide) (fun _ _ _ _ _ => (g_nm nd n2 (locC (by kernel_rfl)) (hfC (by kernel_rfl)))) (fun _ _ _ _ _ => c_nil) (fun _ _ _ _ _ => (e_bin (e_tup (a_cons (e_var n2 (visC (by kernel_rfl))) a_nil)) (e_call (C.call 10 _ _ rfl) C.room (glC (by kernel_rfl)) (a_cons (e_var n0 (visC (by kernel_rfl))) (a_cons (e_var n2 (visC (by kernel_rfl))) a_nil)))))))
 (ss_cons (s_ret (e_tup (a_cons e_str (a_cons (e_callT tyTuple (fun _ _ z => z) g_tuple (C.free "tuple" (by decide)) rfl (a_cons (e_comp C.calm nd (i_seq (e_var n1 v1)) (blk_of (own := [("row", 3)]) hN hs (by kernel_rfl)) rfl (by decide) (fun _ _ _ _ _ => (g_nm nd n3 (locC (by kernel_rfl)) (hfC (by kernel_rfl)))) (fun _ _ _ _ _ => (c_one (t_cmp C.units (e_ix C.units (e_var n3 (visC (by kernel_rfl))) e_int (fun _ _ => rfl)) e_non (nomark _)))) (fun _ _ _ _ _ => (e_sl (e_var n3 (visC (by kernel_rfl))) o_no (o_so e_int)))) a_nil)) a_nil))))
 ss_nil)))
theorem w_rooms_by_alignment {n : Nat} {X : Cx} (C : Ctx tbl gls gn T bn n X) (hp : PassesOwn (model X.prog X.w) X.A X.env X.xe) (hN : X.N = N_rooms_by_alignment) (hs : X.env.scope = defScope (top 19)) (hfn : ∀ x, X.fn x = true) :
    PSsv X (phi tbl gls n) gls [] (defBody (top 19)) b_rooms_by_alignment := by
  have nd : X.N.Nodup := by rw [hN]; decide +kernel
  have n0 : X.N[0]? = some (Str.ofString "rooms") := by rw [hN]; rfl
  have l0 : X.env.scope.names.lookup (Str.ofString "rooms") = some .local := look_of hs (by kernel_rfl)
  have v0 : Vis X.env.scope "rooms" := .inl l0
  have n1 : X.N[1]? = some (Str.ofString "_") := by rw [hN]; rfl
  have n2 : X.N[2]? = some (Str.ofString "room") := by rw [hN]; rfl
  have g_sorted : Gl X "sorted" := look_of hs (by kernel_rfl)
  have g_tuple : Gl X "tuple" := look_of hs (by kernel_rfl)
  exact (ss_cons (s_ret (e_callT tyTuple (fun _ _ z => z) g_tuple (C.free "tuple" (by decide)) rfl (a_cons (e_comp C.calm nd (i_seq (e_callB (sortedP C.calm C.units) g_sorted (C.free "sorted" (by decide)) rfl (a_cons (e_comp C.calm nd (i_seq (e_var n0 v0)) (blk_of (own := [("room", 2)]) hN hs (by kernel_rfl)) rfl (by decide) (fun _ _ _ _ _ => (g_nm nd n2 (locC (by kernel_rfl)) (hfC (by kernel_rfl)))) (fun _ _ _ _ _ => c_nil) (fun _ _ _ _ _ => (e_tup (a_cons (e_neg (e_ix C.units (e_var n2 (visC (by kernel_rfl))) e_int (fun _ _ => rfl))) (a_cons (e_neg (e_ix C.units (e_var n2 (visC (by kernel_rfl))) e_int (fun _ _ => rfl))) (a_cons (e_ix C.units (e_var n2 (visC (by kernel_rfl))) e_int (fun _ _ => rfl)) (a_cons (e_var n2 (visC (by kernel_rfl))) a_nil))))))) a_nil))) (blk_of (own := [("_", 1), ("_", 1), ("_", 1), ("room", 2)]) hN hs (by kernel_rfl)) rfl (by decide) (fun _ _ _ _ _ => (g_tp C.calm (gs_cons (g_nm nd n1 (locC (by kernel_rfl)) (hfC (by kernel_rfl))) (gs_cons (g_nm nd n1 (locC (by kernel_rfl)) (hfC (by kernel_rfl))) (gs_cons (g_nm nd n1 (locC (by kernel_rfl)) (hfC (by kernel_rfl))) (gs_cons (g_nm nd n2 (locC (by kernel_rfl)) (hfC (by kernel_rfl))) gs_nil)))))) (fun _ _ _ _ _ => c_nil) (fun _ _ _ _ _ => (e_var n2 (visC (by kernel_rfl))))) a_nil)))
 ss_nil)
theorem w_put_rooms {n : Nat} {X : Cx} (C : Ctx tbl gls gn T bn n X) (hp : PassesOwn (model X.prog X.w) X.A X.env X.xe) (hN : X.N = N_put_rooms) (hs : X.env.scope = defScope (top 20)) (hfn : ∀ x, X.fn x = true) :
    PSsv X (phi tbl gls n) gls [] (defBody (top 20)) b_put_rooms := by
  have nd : X.N.Nodup := by rw [hN]; decide +kernel
  have n0 : X.N[0]? = some (Str.ofString "rooms") := by rw [hN]; rfl
  have l0 : X.env.scope.names.lookup (Str.ofString "rooms") = some .local := look_of hs (by kernel_rfl)
  have v0 : Vis X.env.scope "rooms" := .inl l0
  have n1 : X.N[1]? = some (Str.ofString "begin") := by rw [hN]; rfl
  have l1 : X.env.scope.names.lookup (Str.ofString "begin") = some .local := look_of hs (by kernel_rfl)
  have v1 : Vis X.env.scope "begin" := .inl l1
  have n2 : X.N[2]? = some (Str.ofString "places") := by rw [hN]; rfl
  have l2 : X.env.scope.names.lookup (Str.ofString "places") = some .local := look_of hs (by kernel_rfl)
  have v2 : Vis X.env.scope "places" := .inl l2
  have n3 : X.N[3]? = some (Str.ofString "room") := by rw [hN]; rfl
  have n4 : X.N[4]? = some (Str.ofString "at") := by rw [hN]; rfl
  have g_dict : Gl X "dict" := look_of hs (by kernel_rfl)
  have g_laid : Gl X "laid" := look_of hs (by kernel_rfl)
  have g_tuple : Gl X "tuple" := look_of hs (by kernel_rfl)
  have g_zip : Gl X "zip" := look_of hs (by kernel_rfl)
  exact (ss_cons (s_asg nd n2 (.inl l2) (e_call (C.call 7 _ _ rfl) C.room g_laid (a_cons (e_callT tyTuple (fun _ _ z => z) g_tuple (C.free "tuple" (by decide)) rfl (a_cons (e_comp C.calm nd (i_seq (e_var n0 v0)) (blk_of (own := [("room", 3)]) hN hs (by kernel_rfl)) rfl (by decide) (fun _ _ _ _ _ => (g_nm nd n3 (locC (by kernel_rfl)) (hfC (by kernel_rfl)))) (fun _ _ _ _ _ => c_nil) (fun _ _ _ _ _ => (e_sl (e_var n3 (visC (by kernel_rfl))) (o_so e_int) o_no))) a_nil)) (a_cons (e_var n1 v1) a_nil))) rfl (.inr l2))
 (ss_cons (s_ret (e_callT (crDict C.calm) (fun _ _ z => z) g_dict (C.free "dict" (by decide)) rfl (a_cons (e_comp C.calm nd (i_zip g_zip (C.free "zip" (by decide)) (e_var n0 v0) (e_var n2 v2)) (blk_of (own := [("room", 3), ("at", 4)]) hN hs (by kernel_rfl)) rfl (by decide) (fun _ _ _ _ _ => (g_tp C.calm (gs_cons (g_nm nd n3 (locC (by kernel_rfl)) (hfC (by kernel_rfl))) (gs_cons (g_nm nd n4 (locC (by kernel_rfl)) (hfC (by kernel_rfl))) gs_nil)))) (fun _ _ _ _ _ => c_nil) (fun _ _ _ _ _ => (e_tup (a_cons (e_ix C.units (e_var n3 (visC (by kernel_rfl))) e_int (fun _ _ => rfl)) (a_cons (e_var n4 (visC (by kernel_rfl))) a_nil))))) a_nil)))
 ss_nil))
theorem w_whole_room {n : Nat} {X : Cx} (C : Ctx tbl gls gn T bn n X) (hp : PassesOwn (model X.prog X.w) X.A X.env X.xe) (hN : X.N = N_whole_room) (hs : X.env.scope = defScope (top 21)) (hfn : ∀ x, X.fn x = true) :
    PSsv X (phi tbl gls n) gls [] (defBody (top 21)) b_whole_room := by
  have nd : X.N.Nodup := by rw [hN]; decide +kernel
  have n0 : X.N[0]? = some (Str.ofString "asks") := by rw [hN]; rfl
  have l0 : X.env.scope.names.lookup (Str.ofString "asks") = some .cell := look_of hs (by kernel_rfl)
  have v0 : Vis X.env.scope "asks" := .inr (.inl l0)
  have n1 : X.N[1]? = some (Str.ofString "name") := by rw [hN]; rfl
  have g_asked_names : Gl X "asked_names" := look_of hs (by kernel_rfl)
  have g_sum : Gl X "sum" := look_of hs (by kernel_rfl)
  exact (ss_cons (s_ret (e_callB (crSum C.calm) g_sum (C.free "sum" (by decide)) rfl (a_cons (e_comp C.calm nd (i_seq (e_call (C.call 9 _ _ rfl) C.room g_asked_names (a_cons (e_var n0 v0) a_nil))) (blk_of (own := [("name", 1)]) hN hs (by kernel_rfl)) rfl (by decide) (fun _ _ _ _ _ => (g_nm nd n1 (locC (by kernel_rfl)) (hfC (by kernel_rfl)))) (fun _ _ _ _ _ => c_nil) (fun _ _ _ _ _ => (e_ix C.units (e_call (C.call 10 _ _ rfl) C.room (glC (by kernel_rfl)) (a_cons (e_var n0 (visC (by kernel_rfl))) (a_cons (e_var n1 (visC (by kernel_rfl))) a_nil))) e_int (fun _ _ => rfl)))) a_nil)))
 ss_nil)
theorem w_grown_by {n : Nat} {X : Cx} (C : Ctx tbl gls gn T bn n X) (hp : PassesOwn (model X.prog X.w) X.A X.env X.xe) (hN : X.N = N_grown_by) (hs : X.env.scope = defScope (top 22)) (hfn : ∀ x, X.fn x = true) :
    PSsv X (phi tbl gls n) gls [] (defBody (top 22)) b_grown_by := by
  have nd : X.N.Nodup := by rw [hN]; decide +kernel
  have n0 : X.N[0]? = some (Str.ofString "asks") := by rw [hN]; rfl
  have l0 : X.env.scope.names.lookup (Str.ofString "asks") = some .local := look_of hs (by kernel_rfl)
  have v0 : Vis X.env.scope "asks" := .inl l0
  have n1 : X.N[1]? = some (Str.ofString "more") := by rw [hN]; rfl
  have l1 : X.env.scope.names.lookup (Str.ofString "more") = some .local := look_of hs (by kernel_rfl)
  have v1 : Vis X.env.scope "more" := .inl l1
  have n2 : X.N[2]? = some (Str.ofString "found") := by rw [hN]; rfl
  have l2 : X.env.scope.names.lookup (Str.ofString "found") = some .local := look_of hs (by kernel_rfl)
  have v2 : Vis X.env.scope "found" := .inl l2
  have n3 : X.N[3]? = some (Str.ofString "name") := by rw [hN]; rfl
  have l3 : X.env.scope.names.lookup (Str.ofString "name") = some .local := look_of hs (by kernel_rfl)
  have v3 : Vis X.env.scope "name" := .inl l3
  have n4 : X.N[4]? = some (Str.ofString "one") := by rw [hN]; rfl
  have l4 : X.env.scope.names.lookup (Str.ofString "one") = some .local := look_of hs (by kernel_rfl)
  have v4 : Vis X.env.scope "one" := .inl l4
  have n5 : X.N[5]? = some (Str.ofString "other") := by rw [hN]; rfl
  have l5 : X.env.scope.names.lookup (Str.ofString "other") = some .local := look_of hs (by kernel_rfl)
  have v5 : Vis X.env.scope "other" := .inl l5
  have g_asked_names : Gl X "asked_names" := look_of hs (by kernel_rfl)
  have g_room_for : Gl X "room_for" := look_of hs (by kernel_rfl)
  have g_tuple : Gl X "tuple" := look_of hs (by kernel_rfl)
  exact (ss_cons (s_asg nd n2 (.inl l2) (e_lst a_nil) rfl (.inr l2))
 (ss_cons (s_for hp C.calm (i_seq (e_call (C.call 9 _ _ rfl) C.room g_asked_names (a_cons (e_var n0 v0) a_nil))) (g_nm nd n3 (.inl l3) (.inr l3))
 (ss_cons (s_par C.calm nd n4 n5 (by decide) l4 l5 (e_call (C.call 10 _ _ rfl) C.room g_room_for (a_cons (e_var n0 v0) (a_cons (e_var n3 v3) a_nil))) (e_call (C.call 10 _ _ rfl) C.room g_room_for (a_cons (e_bin (e_var n0 v0) (e_var n1 v1)) (a_cons (e_var n3 v3) a_nil))) (sw_of hs (by kernel_rfl)))
 (ss_cons (s_if (t_w (w_or (t_cmp C.units (e_ix C.units (e_var n5 v5) e_int (fun _ _ => rfl)) (e_ix C.units (e_var n4 v4) e_int (fun _ _ => rfl)) (nomark _)) (w_or1 (t_cmp C.units (e_ix C.units (e_var n5 v5) e_int (fun _ _ => rfl)) (e_ix C.units (e_var n4 v4) e_int (fun _ _ => rfl)) (nomark _)))))
 (ss_cons (s_append n2 v2 (e_var n3 v3))
 ss_nil)
 ss_nil)
 ss_nil)))
 (ss_cons (s_ret (e_callT tyTuple (fun _ _ z => z) g_tuple (C.free "tuple" (by decide)) rfl (a_cons (e_var n2 v2) a_nil)))
 ss_nil)))
theorem w_asked_most {n : Nat} {X : Cx} (C : Ctx tbl gls gn T bn n X) (hp : PassesOwn (model X.prog X.w) X.A X.env X.xe) (hN : X.N = N_asked_most) (hs : X.env.scope = defScope (top 23)) (hfn : ∀ x, X.fn x = true) :
    PSsv X (phi tbl gls n) gls [] (defBody (top 23)) b_asked_most := by
  have nd : X.N.Nodup := by rw [hN]; decide +kernel
  have n0 : X.N[0]? = some (Str.ofString "asks") := by rw [hN]; rfl
  have l0 : X.env.scope.names.lookup (Str.ofString "asks") = some .cell := look_of hs (by kernel_rfl)
  have v0 : Vis X.env.scope "asks" := .inr (.inl l0)
  have n1 : X.N[1]? = some (Str.ofString "rows") := by rw [hN]; rfl
  have l1 : X.env.scope.names.lookup (Str.ofString "rows") = some .local := look_of hs (by kernel_rfl)
  have v1 : Vis X.env.scope "rows" := .inl l1
  have n2 : X.N[2]? = some (Str.ofString "name") := by rw [hN]; rfl
  have n3 : X.N[3]? = some (Str.ofString "one") := by rw [hN]; rfl
  have g_asked_names : Gl X "asked_names" := look_of hs (by kernel_rfl)
  have g_min : Gl X "min" := look_of hs (by kernel_rfl)
  exact (ss_cons (s_asgC (ps_comp C.calm nd n1 l1 (sw_loc hs (by kernel_rfl) (by kernel_rfl) (by kernel_rfl) (by kernel_rfl)) (i_seq (e_call (C.call 9 _ _ rfl) C.room g_asked_names (a_cons (e_var n0 v0) a_nil))) (blk_of (own := [("name", 2)]) hN hs (by kernel_rfl)) rfl (by decide) (fun _ _ _ _ _ => (g_nm nd n2 (locC (by kernel_rfl)) (hfC (by kernel_rfl)))) (fun _ _ _ _ _ => c_nil) (fun _ _ _ _ _ => (e_tup (a_cons (e_neg (e_callB crLen (glC (by kernel_rfl)) (C.free "len" (by decide)) rfl (a_cons (e_comp C.calm nd (i_seq (e_var n0 (visC (by kernel_rfl)))) (blkIn (own := [("one", 3)]) hN (by kernel_rfl)) rfl (by decide) (fun _ _ _ _ _ => (g_nm nd n3 (locC (by kernel_rfl)) (hfC (by kernel_rfl)))) (fun _ _ _ _ _ => (c_one (t_cmp C.units (e_ix C.units (e_var n3 (visC (by kernel_rfl))) e_int (fun _ _ => rfl)) (e_var n2 (visC (by kernel_rfl))) (nomark _)))) (fun _ _ _ _ _ => e_int)) a_nil))) (a_cons (e_var n2 (visC (by kernel_rfl))) a_nil))))))
 (ss_cons (s_ret (e_ite (t_cmp C.units (e_var n1 v1) (e_lst a_nil) (nomark _)) (e_tup (a_cons (e_neg (e_ix C.units (e_callB (crMin C.calm C.units) g_min (C.free "min" (by decide)) rfl (a_cons (e_var n1 v1) a_nil)) e_int (fun _ _ => rfl))) (a_cons (e_ix C.units (e_callB (crMin C.calm C.units) g_min (C.free "min" (by decide)) rfl (a_cons (e_var n1 v1) a_nil)) e_int (fun _ _ => rfl)) a_nil))) e_non))
 ss_nil))
theorem w_decides {n : Nat} {X : Cx} (C : Ctx tbl gls gn T bn n X) (hp : PassesOwn (model X.prog X.w) X.A X.env X.xe) (hN : X.N = N_decides) (hs : X.env.scope = defScope (top 24)) (hfn : ∀ x, X.fn x = true) :
    PSsv X (phi tbl gls n) gls [] (defBody (top 24)) b_decides := by
  have nd : X.N.Nodup := by rw [hN]; decide +kernel
  have n0 : X.N[0]? = some (Str.ofString "asks") := by rw [hN]; rfl
  have l0 : X.env.scope.names.lookup (Str.ofString "asks") = some .local := look_of hs (by kernel_rfl)
  have v0 : Vis X.env.scope "asks" := .inl l0
  have n1 : X.N[1]? = some (Str.ofString "name") := by rw [hN]; rfl
  have l1 : X.env.scope.names.lookup (Str.ofString "name") = some .local := look_of hs (by kernel_rfl)
  have v1 : Vis X.env.scope "name" := .inl l1
  have n2 : X.N[2]? = some (Str.ofString "found") := by rw [hN]; rfl
  have l2 : X.env.scope.names.lookup (Str.ofString "found") = some .local := look_of hs (by kernel_rfl)
  have v2 : Vis X.env.scope "found" := .inl l2
  have n3 : X.N[3]? = some (Str.ofString "k") := by rw [hN]; rfl
  have l3 : X.env.scope.names.lookup (Str.ofString "k") = some .local := look_of hs (by kernel_rfl)
  have v3 : Vis X.env.scope "k" := .inl l3
  have n4 : X.N[4]? = some (Str.ofString "rest") := by rw [hN]; rfl
  have l4 : X.env.scope.names.lookup (Str.ofString "rest") = some .local := look_of hs (by kernel_rfl)
  have v4 : Vis X.env.scope "rest" := .inl l4
  have g_asked_names : Gl X "asked_names" := look_of hs (by kernel_rfl)
  have g_len : Gl X "len" := look_of hs (by kernel_rfl)
  have g_range : Gl X "range" := look_of hs (by kernel_rfl)
  have g_room_for : Gl X "room_for" := look_of hs (by kernel_rfl)
  have g_tuple : Gl X "tuple" := look_of hs (by kernel_rfl)
  exact (ss_cons (s_asg nd n2 (.inl l2) (e_lst a_nil) rfl (.inr l2))
 (ss_cons (s_for hp C.calm (i_rng1 g_range (C.free "range" (by decide)) (e_callB crLen g_len (C.free "len" (by decide)) rfl (a_cons (e_var n0 v0) a_nil))) (g_nm nd n3 (.inl l3) (.inr l3))
 (ss_cons (s_if (t_cmp C.units (e_ix C.units (e_ix C.units (e_var n0 v0) (e_var n3 v3) (fun _ _ => rfl)) e_int (fun _ _ => rfl)) (e_var n1 v1) (nomark _))
 (ss_cons (s_asg nd n4 (.inl l4) (e_bin (e_sl (e_var n0 v0) o_no (o_so (e_var n3 v3))) (e_sl (e_var n0 v0) (o_so (e_bin (e_var n3 v3) e_int)) o_no)) rfl (.inr l4))
 (ss_cons (s_if (t_w (w_or (t_cmp C.units (e_var n1 v1) (e_call (C.call 9 _ _ rfl) C.room g_asked_names (a_cons (e_var n4 v4) a_nil)) (by with_unfolding_all rfl)) (w_or1 (t_cmp C.units (e_sl (e_call (C.call 10 _ _ rfl) C.room g_room_for (a_cons (e_var n4 v4) (a_cons (e_var n1 v1) a_nil))) o_no (o_so e_int)) (e_sl (e_call (C.call 10 _ _ rfl) C.room g_room_for (a_cons (e_var n0 v0) (a_cons (e_var n1 v1) a_nil))) o_no (o_so e_int)) (nomark _)))))
 (ss_cons (s_append n2 v2 (e_var n3 v3))
 ss_nil)
 ss_nil)
 ss_nil))
 ss_nil)
 ss_nil))
 (ss_cons (s_ret (e_callT tyTuple (fun _ _ z => z) g_tuple (C.free "tuple" (by decide)) rfl (a_cons (e_var n2 v2) a_nil)))
 ss_nil)))
theorem w__law_draws {n : Nat} {X : Cx} (C : Ctx tbl gls gn T bn n X) (hp : PassesOwn (model X.prog X.w) X.A X.env X.xe) (hN : X.N = N__law_draws) (hs : X.env.scope = defScope (top 26)) (hfn : ∀ x, X.fn x = true) :
    PSs X (defBody (top 26)) (t_draws X.K) := by
  have nd : X.N.Nodup := by rw [hN]; decide +kernel
  have n0 : X.N[0]? = some (Str.ofString "script") := by rw [hN]; rfl
  have l0 : X.env.scope.names.lookup (Str.ofString "script") = some .local := look_of hs (by kernel_rfl)
  have v0 : Vis X.env.scope "script" := .inl l0
  have n1 : X.N[1]? = some (Str.ofString "many") := by rw [hN]; rfl
  have l1 : X.env.scope.names.lookup (Str.ofString "many") = some .local := look_of hs (by kernel_rfl)
  have v1 : Vis X.env.scope "many" := .inl l1
  have n2 : X.N[2]? = some (Str.ofString "draws") := by rw [hN]; rfl
  have l2 : X.env.scope.names.lookup (Str.ofString "draws") = some .local := look_of hs (by kernel_rfl)
  have v2 : Vis X.env.scope "draws" := .inl l2
  have n3 : X.N[3]? = some (Str.ofString "mixed") := by rw [hN]; rfl
  have l3 : X.env.scope.names.lookup (Str.ofString "mixed") = some .local := look_of hs (by kernel_rfl)
  have v3 : Vis X.env.scope "mixed" := .inl l3
  have n4 : X.N[4]? = some (Str.ofString "k") := by rw [hN]; rfl
  have l4 : X.env.scope.names.lookup (Str.ofString "k") = some .local := look_of hs (by kernel_rfl)
  have v4 : Vis X.env.scope "k" := .inl l4
  have n5 : X.N[5]? = some (Str.ofString "cell") := by rw [hN]; rfl
  have l5 : X.env.scope.names.lookup (Str.ofString "cell") = some .local := look_of hs (by kernel_rfl)
  have v5 : Vis X.env.scope "cell" := .inl l5
  have n6 : X.N[6]? = some (Str.ofString "rest") := by rw [hN]; rfl
  have l6 : X.env.scope.names.lookup (Str.ofString "rest") = some .local := look_of hs (by kernel_rfl)
  have v6 : Vis X.env.scope "rest" := .inl l6
  have n7 : X.N[7]? = some (Str.ofString "turn") := by rw [hN]; rfl
  have l7 : X.env.scope.names.lookup (Str.ofString "turn") = some .local := look_of hs (by kernel_rfl)
  have v7 : Vis X.env.scope "turn" := .inl l7
  have g_abs : Gl X "abs" := look_of hs (by kernel_rfl)
  have g_int : Gl X "int" := look_of hs (by kernel_rfl)
  have g_len : Gl X "len" := look_of hs (by kernel_rfl)
  have g_range : Gl X "range" := look_of hs (by kernel_rfl)
  exact (pss_cons (ps_set nd n2 (.inl l2) (pe_lst pa_nil) rfl (.inr l2))
 (pss_cons (ps_set nd n3 (.inl l3) pe_int rfl (.inr l3))
 (pss_cons (ps_for hp C.calm (pi_range1 g_range (C.free "range" (by decide)) (pa_cons (pe_callB call_len g_len (C.free "len" (by decide)) rfl (pa_cons (pe_var n0 v0) pa_nil)) pa_nil)) (pg_name nd n4 (.inl l4) (.inr l4)) (pss_cons (ps_set nd n5 (.inl l5) (pe_callB call_abs g_abs (C.free "abs" (by decide)) rfl (pa_cons (pe_callTy call_int1 g_int (C.free "int" (by decide)) rfl (pa_cons (pe_ix ix_seq (pe_var n0 v0) (pe_var n4 v4) fun _ _ => rfl) pa_nil)) pa_nil)) rfl (.inr l5))
 (pss_cons (ps_set nd n3 (.inl l3) (pe_op op_mod (pe_callTy call_int1 g_int (C.free "int" (by decide)) rfl (pa_cons (pe_op op_add (pe_op op_add (pe_op op_mul (pe_var n3 v3) pe_int) (pe_op op_mod (pe_var n5 v5) pe_int)) (pe_var n4 v4)) pa_nil)) pe_int) rfl (.inr l3))
 (pss_cons (ps_set nd n6 (.inl l6) pe_int rfl (.inr l6))
 (pss_cons (ps_if (pt_cmpR op_ge (pe_var n5 v5) (pe_op op_pow pe_int pe_int) (nomark _)) (pss_cons (ps_set nd n6 (.inl l6) (pe_var n5 v5) rfl (.inr l6))
 pss_nil) (pss_cons (ps_expr (pe_bm (id := "list.append") PySem.F.plainAttrs_list PySem.F.slot_list_append PySem.F.type_list_append mt_append (pe_var n2 v2) (pa_cons (pe_op op_mod (pe_callTy call_int1 g_int (C.free "int" (by decide)) rfl (pa_cons (pe_var n5 v5) pa_nil)) pe_int) pa_nil)))
 (pss_cons (ps_expr (pe_bm (id := "list.append") PySem.F.plainAttrs_list PySem.F.slot_list_append PySem.F.type_list_append mt_append (pe_var n2 v2) (pa_cons (pe_op op_mod (pe_op op_mod (pe_callTy call_int1 g_int (C.free "int" (by decide)) rfl (pa_cons (pe_op op_add (pe_op op_mul (pe_var n3 v3) pe_int) pe_int) pa_nil)) pe_int) pe_int) pa_nil)))
 pss_nil)))
 (pss_cons (ps_for hp C.calm (pi_range1 g_range (C.free "range" (by decide)) (pa_cons pe_int pa_nil)) (pg_name nd n7 (.inl l7) (.inr l7)) (pss_cons (ps_if (pt_cmpR op_gt (pe_var n6 v6) pe_int (nomark _)) (pss_cons (ps_expr (pe_bm (id := "list.append") PySem.F.plainAttrs_list PySem.F.slot_list_append PySem.F.type_list_append mt_append (pe_var n2 v2) (pa_cons (pe_op op_mod (pe_callTy call_int1 g_int (C.free "int" (by decide)) rfl (pa_cons (pe_var n6 v6) pa_nil)) pe_int) pa_nil)))
 (pss_cons (ps_set nd n6 (.inl l6) (pe_op op_fdiv (pe_var n6 v6) pe_int) rfl (.inr l6))
 pss_nil)) pss_nil)
 pss_nil))
 pss_nil))))))
 (pss_cons (ps_for hp C.calm (pi_range1 g_range (C.free "range" (by decide)) (pa_cons (pe_var n1 v1) pa_nil)) (pg_name nd n4 (.inl l4) (.inr l4)) (pss_cons (ps_set nd n3 (.inl l3) (pe_op op_mod (pe_callTy call_int1 g_int (C.free "int" (by decide)) rfl (pa_cons (pe_op op_add (pe_op op_add (pe_op op_mul (pe_var n3 v3) pe_int) (pe_var n4 v4)) pe_int) pa_nil)) pe_int) rfl (.inr l3))
 (pss_cons (ps_expr (pe_bm (id := "list.append") PySem.F.plainAttrs_list PySem.F.slot_list_append PySem.F.type_list_append mt_append (pe_var n2 v2) (pa_cons (pe_op op_mod (pe_callTy call_int1 g_int (C.free "int" (by decide)) rfl (pa_cons (pe_var n3 v3) pa_nil)) pe_int) pa_nil)))
 pss_nil)))
 (pss_cons (ps_ret (pe_slice sl_list (pe_var n2 v2) po_none (po_some (pe_var n1 v1))))
 pss_nil)))))
theorem w__law_next {n : Nat} {X : Cx} (C : Ctx tbl gls gn T bn n X) (hp : PassesOwn (model X.prog X.w) X.A X.env X.xe) (hN : X.N = N__law_next) (hs : X.env.scope = defScope (top 27)) (hfn : ∀ x, X.fn x = true) :
    PSsv X (phi tbl gls n) gls [0] (defBody (top 27)) b__law_next := by
  have nd : X.N.Nodup := by rw [hN]; decide +kernel
  have n0 : X.N[0]? = some (Str.ofString "w") := by rw [hN]; rfl
  have l0 : X.env.scope.names.lookup (Str.ofString "w") = some .local := look_of hs (by kernel_rfl)
  have v0 : Vis X.env.scope "w" := .inl l0
  have n1 : X.N[1]? = some (Str.ofString "many") := by rw [hN]; rfl
  have l1 : X.env.scope.names.lookup (Str.ofString "many") = some .local := look_of hs (by kernel_rfl)
  have v1 : Vis X.env.scope "many" := .inl l1
  have g_int : Gl X "int" := look_of hs (by kernel_rfl)
  have g_len : Gl X "len" := look_of hs (by kernel_rfl)
  exact (ss_cons (s_augIx (.inl rfl) C.units n0 v0 e_str e_int)
 (ss_cons (s_if (t_cmp C.units (e_ix C.units (e_var n0 v0) e_str (fun _ _ => rfl)) (e_callB crLen g_len (C.free "len" (by decide)) rfl (a_cons (e_ix C.units (e_var n0 v0) e_str (fun _ _ => rfl)) a_nil)) (nomark _))
 (ss_cons (s_ret e_int)
 ss_nil)
 ss_nil)
 (ss_cons (s_ret (e_bin (e_callT crInt (fun _ _ z => z) g_int (C.free "int" (by decide)) rfl (a_cons (e_ix C.units (e_ix C.units (e_var n0 v0) e_str (fun _ _ => rfl)) (e_bin (e_ix C.units (e_var n0 v0) e_str (fun _ _ => rfl)) e_int) (fun _ _ => rfl)) a_nil)) (e_var n1 v1)))
 ss_nil)))
theorem w__law_pick {n : Nat} {X : Cx} (C : Ctx tbl gls gn T bn n X) (hp : PassesOwn (model X.prog X.w) X.A X.env X.xe) (hN : X.N = N__law_pick) (hs : X.env.scope = defScope (top 28)) (hfn : ∀ x, X.fn x = true) :
    PSsv X (phi tbl gls n) gls [0] (defBody (top 28)) b__law_pick := by
  have nd : X.N.Nodup := by rw [hN]; decide +kernel
  have n0 : X.N[0]? = some (Str.ofString "w") := by rw [hN]; rfl
  have l0 : X.env.scope.names.lookup (Str.ofString "w") = some .local := look_of hs (by kernel_rfl)
  have v0 : Vis X.env.scope "w" := .inl l0
  have n1 : X.N[1]? = some (Str.ofString "rows") := by rw [hN]; rfl
  have l1 : X.env.scope.names.lookup (Str.ofString "rows") = some .local := look_of hs (by kernel_rfl)
  have v1 : Vis X.env.scope "rows" := .inl l1
  have g__law_next : Gl X "_law_next" := look_of hs (by kernel_rfl)
  have g_len : Gl X "len" := look_of hs (by kernel_rfl)
  exact (ss_cons (s_ret (e_ix C.units (e_var n1 v1) (e_call (C.call 21 _ _ rfl) C.room g__law_next (a_io n0 v0 (a_cons (e_callB crLen g_len (C.free "len" (by decide)) rfl (a_cons (e_var n1 v1) a_nil)) a_nil))) (fun _ _ => rfl)))
 ss_nil)
theorem w__law_alike {n : Nat} {X : Cx} (C : Ctx tbl gls gn T bn n X) (hp : PassesOwn (model X.prog X.w) X.A X.env X.xe) (hN : X.N = N__law_alike) (hs : X.env.scope = defScope (top 29)) (hfn : ∀ x, X.fn x = true) :
    PSsv X (phi tbl gls n) gls [] (defBody (top 29)) b__law_alike := by
  have nd : X.N.Nodup := by rw [hN]; decide +kernel
  have n0 : X.N[0]? = some (Str.ofString "given") := by rw [hN]; rfl
  have l0 : X.env.scope.names.lookup (Str.ofString "given") = some .cell := look_of hs (by kernel_rfl)
  have v0 : Vis X.env.scope "given" := .inr (.inl l0)
  have n1 : X.N[1]? = some (Str.ofString "due") := by rw [hN]; rfl
  have l1 : X.env.scope.names.lookup (Str.ofString "due") = some .cell := look_of hs (by kernel_rfl)
  have v1 : Vis X.env.scope "due" := .inr (.inl l1)
  have n2 : X.N[2]? = some (Str.ofString "k") := by rw [hN]; rfl
  have g_bool : Gl X "bool" := look_of hs (by kernel_rfl)
  have g_int : Gl X "int" := look_of hs (by kernel_rfl)
  have g_isinstance : Gl X "isinstance" := look_of hs (by kernel_rfl)
  have g_len : Gl X "len" := look_of hs (by kernel_rfl)
  have g_range : Gl X "range" := look_of hs (by kernel_rfl)
  have g_str : Gl X "str" := look_of hs (by kernel_rfl)
  have g_tuple : Gl X "tuple" := look_of hs (by kernel_rfl)
  exact (ss_cons (s_if (t_val (e_isI g_isinstance (C.free "isinstance" (by decide)) g_tuple (C.free "tuple" (by decide)) rfl (e_var n1 v1)))
 (ss_cons (s_if (t_w (w_or (t_not (t_val (e_isI g_isinstance (C.free "isinstance" (by decide)) g_tuple (C.free "tuple" (by decide)) rfl (e_var n0 v0)))) (w_or1 (t_cmp C.units (e_callB crLen g_len (C.free "len" (by decide)) rfl (a_cons (e_var n0 v0) a_nil)) (e_callB crLen g_len (C.free "len" (by decide)) rfl (a_cons (e_var n1 v1) a_nil)) (nomark _)))))
 (ss_cons (s_ret e_bl)
 ss_nil)
 ss_nil)
 (ss_cons (s_ret (e_cmp C.units (e_comp C.calm nd (i_rng1 g_range (C.free "range" (by decide)) (e_callB crLen g_len (C.free "len" (by decide)) rfl (a_cons (e_var n1 v1) a_nil))) (blk_of (own := [("k", 2)]) hN hs (by kernel_rfl)) rfl (by decide) (fun _ _ _ _ _ => (g_nm nd n2 (locC (by kernel_rfl)) (hfC (by kernel_rfl)))) (fun _ _ _ _ _ => (c_one (t_not (t_val (e_call (C.call 23 _ _ rfl) C.room (glC (by kernel_rfl)) (a_cons (e_ix C.units (e_var n0 (visC (by kernel_rfl))) (e_var n2 (visC (by kernel_rfl))) (fun _ _ => rfl)) (a_cons (e_ix C.units (e_var n1 (visC (by kernel_rfl))) (e_var n2 (visC (by kernel_rfl))) (fun _ _ => rfl)) a_nil))))))) (fun _ _ _ _ _ => (e_var n2 (visC (by kernel_rfl))))) (e_lst a_nil) (nomark _)))
 ss_nil))
 ss_nil)
 (ss_cons (s_if (t_cmp C.units (e_var n1 v1) e_non (nomark _))
 (ss_cons (s_ret (e_cmp C.units (e_var n0 v0) e_non (nomark _)))
 ss_nil)
 ss_nil)
 (ss_cons (s_if (t_val (e_isI g_isinstance (C.free "isinstance" (by decide)) g_bool (C.free "bool" (by decide)) rfl (e_var n1 v1)))
 (ss_cons (s_ret (e_and (e_isI g_isinstance (C.free "isinstance" (by decide)) g_bool (C.free "bool" (by decide)) rfl (e_var n0 v0)) (e_one (e_cmp C.units (e_var n0 v0) (e_var n1 v1) (nomark _)))))
 ss_nil)
 ss_nil)
 (ss_cons (s_if (t_val (e_isI g_isinstance (C.free "isinstance" (by decide)) g_int (C.free "int" (by decide)) rfl (e_var n1 v1)))
 (ss_cons (s_ret (e_and (e_isI g_isinstance (C.free "isinstance" (by decide)) g_int (C.free "int" (by decide)) rfl (e_var n0 v0)) (e_and (e_not (e_isI g_isinstance (C.free "isinstance" (by decide)) g_bool (C.free "bool" (by decide)) rfl (e_var n0 v0))) (e_one (e_cmp C.units (e_var n0 v0) (e_var n1 v1) (nomark _))))))
 ss_nil)
 ss_nil)
 (ss_cons (s_ret (e_and (e_isI g_isinstance (C.free "isinstance" (by decide)) g_str (C.free "str" (by decide)) rfl (e_var n0 v0)) (e_one (e_cmp C.units (e_var n0 v0) (e_var n1 v1) (nomark _)))))
 ss_nil)))))
theorem w__law_room {n : Nat} {X : Cx} (C : Ctx tbl gls gn T bn n X) (hp : PassesOwn (model X.prog X.w) X.A X.env X.xe) (hN : X.N = N__law_room) (hs : X.env.scope = defScope (top 30)) (hfn : ∀ x, X.fn x = true) :
    PSsv X (phi tbl gls n) gls [] (defBody (top 30)) b__law_room := by
  have nd : X.N.Nodup := by rw [hN]; decide +kernel
  have n0 : X.N[0]? = some (Str.ofString "asks") := by rw [hN]; rfl
  have l0 : X.env.scope.names.lookup (Str.ofString "asks") = some .cell := look_of hs (by kernel_rfl)
  have v0 : Vis X.env.scope "asks" := .inr (.inl l0)
  have n1 : X.N[1]? = some (Str.ofString "name") := by rw [hN]; rfl
  have l1 : X.env.scope.names.lookup (Str.ofString "name") = some .cell := look_of hs (by kernel_rfl)
  have v1 : Vis X.env.scope "name" := .inr (.inl l1)
  have n2 : X.N[2]? = some (Str.ofString "own") := by rw [hN]; rfl
  have l2 : X.env.scope.names.lookup (Str.ofString "own") = some .local := look_of hs (by kernel_rfl)
  have v2 : Vis X.env.scope "own" := .inl l2
  have n3 : X.N[3]? = some (Str.ofString "given") := by rw [hN]; rfl
  have l3 : X.env.scope.names.lookup (Str.ofString "given") = some .local := look_of hs (by kernel_rfl)
  have v3 : Vis X.env.scope "given" := .inl l3
  have n4 : X.N[4]? = some (Str.ofString "k") := by rw [hN]; rfl
  have g_len : Gl X "len" := look_of hs (by kernel_rfl)
  have g_max : Gl X "max" := look_of hs (by kernel_rfl)
  have g_range : Gl X "range" := look_of hs (by kernel_rfl)
  exact (ss_cons (s_asgC (ps_comp C.calm nd n2 l2 (sw_loc hs (by kernel_rfl) (by kernel_rfl) (by kernel_rfl) (by kernel_rfl)) (i_rng1 g_range (C.free "range" (by decide)) (e_callB crLen g_len (C.free "len" (by decide)) rfl (a_cons (e_var n0 v0) a_nil))) (blk_of (own := [("k", 4)]) hN hs (by kernel_rfl)) rfl (by decide) (fun _ _ _ _ _ => (g_nm nd n4 (locC (by kernel_rfl)) (hfC (by kernel_rfl)))) (fun _ _ _ _ _ => (c_one (t_cmp C.units (e_ix C.units (e_ix C.units (e_var n0 (visC (by kernel_rfl))) (e_var n4 (visC (by kernel_rfl))) (fun _ _ => rfl)) e_int (fun _ _ => rfl)) (e_var n1 (visC (by kernel_rfl))) (nomark _)))) (fun _ _ _ _ _ => (e_var n4 (visC (by kernel_rfl))))))
 (ss_cons (s_asgC (ps_comp C.calm nd n3 l3 (sw_loc hs (by kernel_rfl) (by kernel_rfl) (by kernel_rfl) (by kernel_rfl)) (i_seq (e_var n2 v2)) (blk_of (own := [("k", 4)]) hN hs (by kernel_rfl)) rfl (by decide) (fun _ _ _ _ _ => (g_nm nd n4 (locC (by kernel_rfl)) (hfC (by kernel_rfl)))) (fun _ _ _ _ _ => (c_one (t_val (e_ix C.units (e_ix C.units (e_var n0 (visC (by kernel_rfl))) (e_var n4 (visC (by kernel_rfl))) (fun _ _ => rfl)) e_int (fun _ _ => rfl))))) (fun _ _ _ _ _ => (e_var n4 (visC (by kernel_rfl))))))
 (ss_cons (s_if (t_cmp C.units (e_var n3 v3) (e_lst a_nil) (nomark _))
 (ss_cons (s_ret (e_tup (a_cons (e_ix C.units (e_ix C.units (e_var n0 v0) (e_ix C.units (e_var n3 v3) e_int (fun _ _ => rfl)) (fun _ _ => rfl)) e_int (fun _ _ => rfl)) (a_cons (e_ix C.units (e_ix C.units (e_var n0 v0) (e_ix C.units (e_var n3 v3) e_int (fun _ _ => rfl)) (fun _ _ => rfl)) e_int (fun _ _ => rfl)) (a_cons (e_ix C.units (e_var n3 v3) e_int (fun _ _ => rfl)) a_nil)))))
 ss_nil)
 ss_nil)
 (ss_cons (s_ret (e_tup (a_cons (e_callB (crMax C.calm C.units) g_max (C.free "max" (by decide)) rfl (a_cons (e_comp C.calm nd (i_seq (e_var n2 v2)) (blk_of (own := [("k", 4)]) hN hs (by kernel_rfl)) rfl (by decide) (fun _ _ _ _ _ => (g_nm nd n4 (locC (by kernel_rfl)) (hfC (by kernel_rfl)))) (fun _ _ _ _ _ => c_nil) (fun _ _ _ _ _ => (e_ix C.units (e_ix C.units (e_var n0 (visC (by kernel_rfl))) (e_var n4 (visC (by kernel_rfl))) (fun _ _ => rfl)) e_int (fun _ _ => rfl)))) a_nil)) (a_cons (e_callB (crMax C.calm C.units) g_max (C.free "max" (by decide)) rfl (a_cons (e_comp C.calm nd (i_seq (e_var n2 v2)) (blk_of (own := [("k", 4)]) hN hs (by kernel_rfl)) rfl (by decide) (fun _ _ _ _ _ => (g_nm nd n4 (locC (by kernel_rfl)) (hfC (by kernel_rfl)))) (fun _ _ _ _ _ => c_nil) (fun _ _ _ _ _ => (e_ix C.units (e_ix C.units (e_var n0 (visC (by kernel_rfl))) (e_var n4 (visC (by kernel_rfl))) (fun _ _ => rfl)) e_int (fun _ _ => rfl)))) a_nil)) (a_cons e_non a_nil)))))
 ss_nil))))
theorem w__law_asks {n : Nat} {X : Cx} (C : Ctx tbl gls gn T bn n X) (hp : PassesOwn (model X.prog X.w) X.A X.env X.xe) (hN : X.N = N__law_asks) (hs : X.env.scope = defScope (top 31)) (hfn : ∀ x, X.fn x = true) :
    PSsv X (phi tbl gls n) gls [0] (defBody (top 31)) b__law_asks := by
  have nd : X.N.Nodup := by rw [hN]; decide +kernel
  have n0 : X.N[0]? = some (Str.ofString "w") := by rw [hN]; rfl
  have l0 : X.env.scope.names.lookup (Str.ofString "w") = some .cell := look_of hs (by kernel_rfl)
  have v0 : Vis X.env.scope "w" := .inr (.inl l0)
  have n1 : X.N[1]? = some (Str.ofString "many") := by rw [hN]; rfl
  have l1 : X.env.scope.names.lookup (Str.ofString "many") = some .local := look_of hs (by kernel_rfl)
  have v1 : Vis X.env.scope "many" := .inl l1
  have n2 : X.N[2]? = some (Str.ofString "k") := by rw [hN]; rfl
  have g_range : Gl X "range" := look_of hs (by kernel_rfl)
  have g_tuple : Gl X "tuple" := look_of hs (by kernel_rfl)
  exact (ss_cons (s_ret (e_callT tyTuple (fun _ _ z => z) g_tuple (C.free "tuple" (by decide)) rfl (a_cons (e_comp C.calm nd (i_rng1 g_range (C.free "range" (by decide)) (e_var n1 v1)) (blk_of (own := [("k", 2)]) hN hs (by kernel_rfl)) rfl (by decide) (fun _ _ _ _ _ => (g_nm nd n2 (locC (by kernel_rfl)) (hfC (by kernel_rfl)))) (fun _ _ _ _ _ => c_nil) (fun _ _ _ _ _ => (e_tup (a_cons (e_call (C.call 22 _ _ rfl) C.room (glC (by kernel_rfl)) (a_io n0 (visC (by kernel_rfl)) (a_cons (e_lst (a_cons e_str (a_cons e_str (a_cons e_str a_nil)))) a_nil))) (a_cons (e_bin e_int (e_call (C.call 21 _ _ rfl) C.room (glC (by kernel_rfl)) (a_io n0 (visC (by kernel_rfl)) (a_cons e_int a_nil)))) (a_cons (e_call (C.call 22 _ _ rfl) C.room (glC (by kernel_rfl)) (a_io n0 (visC (by kernel_rfl)) (a_cons (e_lst (a_cons e_int (a_cons e_int (a_cons e_int (a_cons e_int a_nil))))) a_nil))) (a_cons (e_cmp C.units (e_call (C.call 21 _ _ rfl) C.room (glC (by kernel_rfl)) (a_io n0 (visC (by kernel_rfl)) (a_cons e_int a_nil))) e_int (nomark _)) a_nil))))))) a_nil)))
 ss_nil)
theorem w_law {n : Nat} {X : Cx} (C : Ctx tbl gls gn T bn n X) (hp : PassesOwn (model X.prog X.w) X.A X.env X.xe) (hN : X.N = N_law) (hs : X.env.scope = defScope (top 32)) (hfn : ∀ x, X.fn x = true) :
    PSsv X (phi tbl gls n) gls [] (defBody (top 32)).tail b_law := by
  have nd : X.N.Nodup := by rw [hN]; decide +kernel
  have n0 : X.N[0]? = some (Str.ofString "script") := by rw [hN]; rfl
  have l0 : X.env.scope.names.lookup (Str.ofString "script") = some .local := look_of hs (by kernel_rfl)
  have v0 : Vis X.env.scope "script" := .inl l0
  have n1 : X.N[1]? = some (Str.ofString "w") := by rw [hN]; rfl
  have l1 : X.env.scope.names.lookup (Str.ofString "w") = some .local := look_of hs (by kernel_rfl)
  have v1 : Vis X.env.scope "w" := .inl l1
  have n2 : X.N[2]? = some (Str.ofString "turn") := by rw [hN]; rfl
  have l2 : X.env.scope.names.lookup (Str.ofString "turn") = some .local := look_of hs (by kernel_rfl)
  have v2 : Vis X.env.scope "turn" := .inl l2
  have n3 : X.N[3]? = some (Str.ofString "asks") := by rw [hN]; rfl
  have l3 : X.env.scope.names.lookup (Str.ofString "asks") = some .cell := look_of hs (by kernel_rfl)
  have v3 : Vis X.env.scope "asks" := .inr (.inl l3)
  have n4 : X.N[4]? = some (Str.ofString "more") := by rw [hN]; rfl
  have l4 : X.env.scope.names.lookup (Str.ofString "more") = some .cell := look_of hs (by kernel_rfl)
  have v4 : Vis X.env.scope "more" := .inr (.inl l4)
  have n5 : X.N[5]? = some (Str.ofString "names") := by rw [hN]; rfl
  have l5 : X.env.scope.names.lookup (Str.ofString "names") = some .local := look_of hs (by kernel_rfl)
  have v5 : Vis X.env.scope "names" := .inl l5
  have n6 : X.N[6]? = some (Str.ofString "twice") := by rw [hN]; rfl
  have l6 : X.env.scope.names.lookup (Str.ofString "twice") = some .local := look_of hs (by kernel_rfl)
  have v6 : Vis X.env.scope "twice" := .inl l6
  have n7 : X.N[7]? = some (Str.ofString "rooms") := by rw [hN]; rfl
  have l7 : X.env.scope.names.lookup (Str.ofString "rooms") = some .local := look_of hs (by kernel_rfl)
  have v7 : Vis X.env.scope "rooms" := .inl l7
  have n8 : X.N[8]? = some (Str.ofString "small") := by rw [hN]; rfl
  have l8 : X.env.scope.names.lookup (Str.ofString "small") = some .local := look_of hs (by kernel_rfl)
  have v8 : Vis X.env.scope "small" := .inl l8
  have n9 : X.N[9]? = some (Str.ofString "name") := by rw [hN]; rfl
  have l9 : X.env.scope.names.lookup (Str.ofString "name") = some .cell := look_of hs (by kernel_rfl)
  have v9 : Vis X.env.scope "name" := .inr (.inl l9)
  have n10 : X.N[10]? = some (Str.ofString "own") := by rw [hN]; rfl
  have l10 : X.env.scope.names.lookup (Str.ofString "own") = some .local := look_of hs (by kernel_rfl)
  have v10 : Vis X.env.scope "own" := .inl l10
  have n11 : X.N[11]? = some (Str.ofString "rests") := by rw [hN]; rfl
  have l11 : X.env.scope.names.lookup (Str.ofString "rests") = some .local := look_of hs (by kernel_rfl)
  have v11 : Vis X.env.scope "rests" := .inl l11
  have n12 : X.N[12]? = some (Str.ofString "turns") := by rw [hN]; rfl
  have l12 : X.env.scope.names.lookup (Str.ofString "turns") = some .local := look_of hs (by kernel_rfl)
  have v12 : Vis X.env.scope "turns" := .inl l12
  have n13 : X.N[13]? = some (Str.ofString "grown") := by rw [hN]; rfl
  have l13 : X.env.scope.names.lookup (Str.ofString "grown") = some .local := look_of hs (by kernel_rfl)
  have v13 : Vis X.env.scope "grown" := .inl l13
  have n14 : X.N[14]? = some (Str.ofString "most") := by rw [hN]; rfl
  have l14 : X.env.scope.names.lookup (Str.ofString "most") = some .local := look_of hs (by kernel_rfl)
  have v14 : Vis X.env.scope "most" := .inl l14
  have n15 : X.N[15]? = some (Str.ofString "order") := by rw [hN]; rfl
  have l15 : X.env.scope.names.lookup (Str.ofString "order") = some .local := look_of hs (by kernel_rfl)
  have v15 : Vis X.env.scope "order" := .inl l15
  have n16 : X.N[16]? = some (Str.ofString "begin") := by rw [hN]; rfl
  have l16 : X.env.scope.names.lookup (Str.ofString "begin") = some .local := look_of hs (by kernel_rfl)
  have v16 : Vis X.env.scope "begin" := .inl l16
  have n17 : X.N[17]? = some (Str.ofString "at") := by rw [hN]; rfl
  have l17 : X.env.scope.names.lookup (Str.ofString "at") = some .local := look_of hs (by kernel_rfl)
  have v17 : Vis X.env.scope "at" := .inl l17
  have n18 : X.N[18]? = some (Str.ofString "places") := by rw [hN]; rfl
  have l18 : X.env.scope.names.lookup (Str.ofString "places") = some .local := look_of hs (by kernel_rfl)
  have v18 : Vis X.env.scope "places" := .inl l18
  have n19 : X.N[19]? = some (Str.ofString "room") := by rw [hN]; rfl
  have l19 : X.env.scope.names.lookup (Str.ofString "room") = some .local := look_of hs (by kernel_rfl)
  have v19 : Vis X.env.scope "room" := .inl l19
  have n20 : X.N[20]? = some (Str.ofString "bad") := by rw [hN]; rfl
  have l20 : X.env.scope.names.lookup (Str.ofString "bad") = some .local := look_of hs (by kernel_rfl)
  have v20 : Vis X.env.scope "bad" := .inl l20
  have n21 : X.N[21]? = some (Str.ofString "k") := by rw [hN]; rfl
  have n22 : X.N[22]? = some (Str.ofString "key") := by rw [hN]; rfl
  have n23 : X.N[23]? = some (Str.ofString "rest") := by rw [hN]; rfl
  have n24 : X.N[24]? = some (Str.ofString "one") := by rw [hN]; rfl
  have g__law_alike : Gl X "_law_alike" := look_of hs (by kernel_rfl)
  have g__law_asks : Gl X "_law_asks" := look_of hs (by kernel_rfl)
  have g__law_next : Gl X "_law_next" := look_of hs (by kernel_rfl)
  have g__law_room : Gl X "_law_room" := look_of hs (by kernel_rfl)
  have g_all_rooms : Gl X "all_rooms" := look_of hs (by kernel_rfl)
  have g_are_asks : Gl X "are_asks" := look_of hs (by kernel_rfl)
  have g_asked_most : Gl X "asked_most" := look_of hs (by kernel_rfl)
  have g_asked_names : Gl X "asked_names" := look_of hs (by kernel_rfl)
  have g_decides : Gl X "decides" := look_of hs (by kernel_rfl)
  have g_dict : Gl X "dict" := look_of hs (by kernel_rfl)
  have g_grown_by : Gl X "grown_by" := look_of hs (by kernel_rfl)
  have g_len : Gl X "len" := look_of hs (by kernel_rfl)
  have g_list : Gl X "list" := look_of hs (by kernel_rfl)
  have g_min : Gl X "min" := look_of hs (by kernel_rfl)
  have g_put_rooms : Gl X "put_rooms" := look_of hs (by kernel_rfl)
  have g_range : Gl X "range" := look_of hs (by kernel_rfl)
  have g_room_for : Gl X "room_for" := look_of hs (by kernel_rfl)
  have g_rooms_by_alignment : Gl X "rooms_by_alignment" := look_of hs (by kernel_rfl)
  have g_rooms_given_twice : Gl X "rooms_given_twice" := look_of hs (by kernel_rfl)
  have g_sorted : Gl X "sorted" := look_of hs (by kernel_rfl)
  have g_sum : Gl X "sum" := look_of hs (by kernel_rfl)
  have g_too_small : Gl X "too_small" := look_of hs (by kernel_rfl)
  have g_tuple : Gl X "tuple" := look_of hs (by kernel_rfl)
  have g_whole_room : Gl X "whole_room" := look_of hs (by kernel_rfl)
  exact (ss_cons (s_for hp C.calm (i_rng1 g_range (C.free "range" (by decide)) e_int) (g_nm nd n2 (.inl l2) (.inr l2))
 (ss_cons (s_parT C.calm (d_cons (e_call (C.call 25 _ _ rfl) C.room g__law_asks (a_io n1 v1 (a_cons (e_call (C.call 21 _ _ rfl) C.room g__law_next (a_io n1 v1 (a_cons e_int a_nil))) a_nil))) (d_cons (e_call (C.call 25 _ _ rfl) C.room g__law_asks (a_io n1 v1 (a_cons (e_call (C.call 21 _ _ rfl) C.room g__law_next (a_io n1 v1 (a_cons e_int a_nil))) a_nil))) d_nil)) (n_cons nd n3 (.inr l3) (n_cons nd n4 (.inr l4) n_nil (.inl (hfn _))) (.inl (hfn _))) rfl rfl (by decide) rfl (sw_of hs (by kernel_rfl)))
 (ss_cons (s_asg nd n5 (.inl l5) (e_callB (sortedP C.calm C.units) g_sorted (C.free "sorted" (by decide)) rfl (a_cons (e_callT (crDict C.calm) (fun _ _ z => z) g_dict (C.free "dict" (by decide)) rfl (a_cons (e_comp C.calm nd (i_seq (e_var n3 v3)) (blk_of (own := [("own", 10)]) hN hs (by kernel_rfl)) rfl (by decide) (fun _ _ _ _ _ => (g_nm nd n10 (locC (by kernel_rfl)) (hfC (by kernel_rfl)))) (fun _ _ _ _ _ => c_nil) (fun _ _ _ _ _ => (e_tup (a_cons (e_ix C.units (e_var n10 (visC (by kernel_rfl))) e_int (fun _ _ => rfl)) (a_cons e_bl a_nil))))) a_nil)) a_nil)) rfl (.inr l5))
 (ss_cons (s_asg nd n6 (.inl l6) (e_callT tyTuple (fun _ _ z => z) g_tuple (C.free "tuple" (by decide)) rfl (a_cons (e_comp C.calm nd (i_seq (e_var n5 v5)) (blk_of (own := [("name", 9)]) hN hs (by kernel_rfl)) rfl (by decide) (fun _ _ _ _ _ => (g_nm nd n9 (locC (by kernel_rfl)) (hfC (by kernel_rfl)))) (fun _ _ _ _ _ => (c_one (t_cmp C.units (e_callB crLen (glC (by kernel_rfl)) (C.free "len" (by decide)) rfl (a_cons (e_comp C.calm nd (i_seq (e_var n3 (visC (by kernel_rfl)))) (blkIn (own := [("own", 10)]) hN (by kernel_rfl)) rfl (by decide) (fun _ _ _ _ _ => (g_nm nd n10 (locC (by kernel_rfl)) (hfC (by kernel_rfl)))) (fun _ _ _ _ _ => (c_one (t_w (w_and (t_cmp C.units (e_ix C.units (e_var n10 (visC (by kernel_rfl))) e_int (fun _ _ => rfl)) (e_var n9 (visC (by kernel_rfl))) (nomark _)) (w_and1 (t_val (e_ix C.units (e_var n10 (visC (by kernel_rfl))) e_int (fun _ _ => rfl)))))))) (fun _ _ _ _ _ => e_int)) a_nil)) e_int (nomark _)))) (fun _ _ _ _ _ => (e_var n9 (visC (by kernel_rfl))))) a_nil)) rfl (.inr l6))
 (ss_cons (s_asg nd n7 (.inl l7) (e_callT tyTuple (fun _ _ z => z) g_tuple (C.free "tuple" (by decide)) rfl (a_cons (e_comp C.calm nd (i_seq (e_var n5 v5)) (blk_of (own := [("name", 9)]) hN hs (by kernel_rfl)) rfl (by decide) (fun _ _ _ _ _ => (g_nm nd n9 (locC (by kernel_rfl)) (hfC (by kernel_rfl)))) (fun _ _ _ _ _ => (c_one (t_cmp C.units (e_ix C.units (e_call (C.call 24 _ _ rfl) C.room (glC (by kernel_rfl)) (a_cons (e_var n3 (visC (by kernel_rfl))) (a_cons (e_var n9 (visC (by kernel_rfl))) a_nil))) e_int (fun _ _ => rfl)) e_non (nomark _)))) (fun _ _ _ _ _ => (e_bin (e_tup (a_cons (e_var n9 (visC (by kernel_rfl))) a_nil)) (e_sl (e_call (C.call 24 _ _ rfl) C.room (glC (by kernel_rfl)) (a_cons (e_var n3 (visC (by kernel_rfl))) (a_cons (e_var n9 (visC (by kernel_rfl))) a_nil))) o_no (o_so e_int))))) a_nil)) rfl (.inr l7))
 (ss_cons (s_asg nd n8 (.inl l8) (e_callT tyTuple (fun _ _ z => z) g_tuple (C.free "tuple" (by decide)) rfl (a_cons (e_comp C.calm nd (i_rng1 g_range (C.free "range" (by decide)) (e_callB crLen g_len (C.free "len" (by decide)) rfl (a_cons (e_var n3 v3) a_nil))) (blk_of (own := [("k", 21)]) hN hs (by kernel_rfl)) rfl (by decide) (fun _ _ _ _ _ => (g_nm nd n21 (locC (by kernel_rfl)) (hfC (by kernel_rfl)))) (fun _ _ _ _ _ => (c_one (t_w (w_and (t_cmp C.units (e_ix C.units (e_call (C.call 24 _ _ rfl) C.room (glC (by kernel_rfl)) (a_cons (e_var n3 (visC (by kernel_rfl))) (a_cons (e_ix C.units (e_ix C.units (e_var n3 (visC (by kernel_rfl))) (e_var n21 (visC (by kernel_rfl))) (fun _ _ => rfl)) e_int (fun _ _ => rfl)) a_nil))) e_int (fun _ _ => rfl)) e_non (nomark _)) (w_and1 (t_w (w_or (t_cmp C.units (e_ix C.units (e_ix C.units (e_var n3 (visC (by kernel_rfl))) (e_var n21 (visC (by kernel_rfl))) (fun _ _ => rfl)) e_int (fun _ _ => rfl)) (e_ix C.units (e_call (C.call 24 _ _ rfl) C.room (glC (by kernel_rfl)) (a_cons (e_var n3 (visC (by kernel_rfl))) (a_cons (e_ix C.units (e_ix C.units (e_var n3 (visC (by kernel_rfl))) (e_var n21 (visC (by kernel_rfl))) (fun _ _ => rfl)) e_int (fun _ _ => rfl)) a_nil))) e_int (fun _ _ => rfl)) (nomark _)) (w_or1 (t_cmp C.units (e_ix C.units (e_ix C.units (e_var n3 (visC (by kernel_rfl))) (e_var n21 (visC (by kernel_rfl))) (fun _ _ => rfl)) e_int (fun _ _ => rfl)) (e_ix C.units (e_call (C.call 24 _ _ rfl) C.room (glC (by kernel_rfl)) (a_cons (e_var n3 (visC (by kernel_rfl))) (a_cons (e_ix C.units (e_ix C.units (e_var n3 (visC (by kernel_rfl))) (e_var n21 (visC (by kernel_rfl))) (fun _ _ => rfl)) e_int (fun _ _ => rfl)) a_nil))) e_int (fun _ _ => rfl)) (nomark _)))))))))) (fun _ _ _ _ _ => (e_var n21 (visC (by kernel_rfl))))) a_nil)) rfl (.inr l8))
 (ss_cons (s_if (t_not (t_val (e_call (C.call 23 _ _ rfl) C.room g__law_alike (a_cons (e_tup (a_cons (e_call (C.call 9 _ _ rfl) C.room g_asked_names (a_cons (e_var n3 v3) a_nil)) (a_cons (e_call (C.call 11 _ _ rfl) C.room g_rooms_given_twice (a_cons (e_var n3 v3) a_nil)) (a_cons (e_call (C.call 13 _ _ rfl) C.room g_all_rooms (a_cons (e_var n3 v3) a_nil)) (a_cons (e_call (C.call 12 _ _ rfl) C.room g_too_small (a_cons (e_var n3 v3) a_nil)) (a_cons (e_call (C.call 8 _ _ rfl) C.room g_are_asks (a_cons (e_var n3 v3) a_nil)) a_nil)))))) (a_cons (e_tup (a_cons (e_callT tyTuple (fun _ _ z => z) g_tuple (C.free "tuple" (by decide)) rfl (a_cons (e_var n5 v5) a_nil)) (a_cons (e_var n6 v6) (a_cons (e_ite (t_cmp C.units (e_var n6 v6) (e_tup a_nil) (nomark _)) (e_tup (a_cons e_str (a_cons (e_var n6 v6) a_nil))) (e_tup (a_cons e_str (a_cons (e_var n7 v7) a_nil)))) (a_cons (e_var n8 v8) (a_cons e_bl a_nil)))))) a_nil)))))
 (ss_cons (s_ret e_bl)
 ss_nil)
 ss_nil)
 (ss_cons (s_for hp C.calm (i_seq (e_var n5 v5)) (g_nm nd n9 (.inr l9) (.inl (hfn _)))
 (ss_cons (s_asgC (ps_comp C.calm nd n10 l10 (sw_loc hs (by kernel_rfl) (by kernel_rfl) (by kernel_rfl) (by kernel_rfl)) (i_rng1 g_range (C.free "range" (by decide)) (e_callB crLen g_len (C.free "len" (by decide)) rfl (a_cons (e_var n3 v3) a_nil))) (blk_of (own := [("k", 21)]) hN hs (by kernel_rfl)) rfl (by decide) (fun _ _ _ _ _ => (g_nm nd n21 (locC (by kernel_rfl)) (hfC (by kernel_rfl)))) (fun _ _ _ _ _ => (c_one (t_cmp C.units (e_ix C.units (e_ix C.units (e_var n3 (visC (by kernel_rfl))) (e_var n21 (visC (by kernel_rfl))) (fun _ _ => rfl)) e_int (fun _ _ => rfl)) (e_var n9 (visC (by kernel_rfl))) (nomark _)))) (fun _ _ _ _ _ => (e_var n21 (visC (by kernel_rfl))))))
 (ss_cons (s_asgC (ps_comp C.calm nd n11 l11 (sw_loc hs (by kernel_rfl) (by kernel_rfl) (by kernel_rfl) (by kernel_rfl)) (i_seq (e_var n10 v10)) (blk_of (own := [("k", 21)]) hN hs (by kernel_rfl)) rfl (by decide) (fun _ _ _ _ _ => (g_nm nd n21 (locC (by kernel_rfl)) (hfC (by kernel_rfl)))) (fun _ _ _ _ _ => c_nil) (fun _ _ _ _ _ => (e_tup (a_cons (e_var n21 (visC (by kernel_rfl))) (a_cons (e_bin (e_sl (e_var n3 (visC (by kernel_rfl))) o_no (o_so (e_var n21 (visC (by kernel_rfl))))) (e_sl (e_var n3 (visC (by kernel_rfl))) (o_so (e_bin (e_var n21 (visC (by kernel_rfl))) e_int)) o_no)) a_nil))))))
 (ss_cons (s_asg nd n12 (.inl l12) (e_callT tyTuple (fun _ _ z => z) g_tuple (C.free "tuple" (by decide)) rfl (a_cons (e_comp C.calm nd (i_seq (e_var n11 v11)) (blk_of (own := [("k", 21), ("rest", 23)]) hN hs (by kernel_rfl)) rfl (by decide) (fun _ _ _ _ _ => (g_tp C.calm (gs_cons (g_nm nd n21 (locC (by kernel_rfl)) (hfC (by kernel_rfl))) (gs_cons (g_nm nd n23 (locC (by kernel_rfl)) (hfC (by kernel_rfl))) gs_nil)))) (fun _ _ _ _ _ => (c_one (t_w (w_or (t_cmp C.units (e_comp C.calm nd (i_seq (e_var n23 (visC (by kernel_rfl)))) (blkIn (own := [("one", 24)]) hN (by kernel_rfl)) rfl (by decide) (fun _ _ _ _ _ => (g_nm nd n24 (locC (by kernel_rfl)) (hfC (by kernel_rfl)))) (fun _ _ _ _ _ => (c_one (t_cmp C.units (e_ix C.units (e_var n24 (visC (by kernel_rfl))) e_int (fun _ _ => rfl)) (e_var n9 (visC (by kernel_rfl))) (nomark _)))) (fun _ _ _ _ _ => e_int)) (e_lst a_nil) (nomark _)) (w_or1 (t_cmp C.units (e_sl (e_call (C.call 24 _ _ rfl) C.room (glC (by kernel_rfl)) (a_cons (e_var n23 (visC (by kernel_rfl))) (a_cons (e_var n9 (visC (by kernel_rfl))) a_nil))) o_no (o_so e_int)) (e_sl (e_call (C.call 24 _ _ rfl) C.room (glC (by kernel_rfl)) (a_cons (e_var n3 (visC (by kernel_rfl))) (a_cons (e_var n9 (visC (by kernel_rfl))) a_nil))) o_no (o_so e_int)) (nomark _))))))) (fun _ _ _ _ _ => (e_var n21 (visC (by kernel_rfl))))) a_nil)) rfl (.inr l12))
 (ss_cons (s_if (t_not (t_val (e_call (C.call 23 _ _ rfl) C.room g__law_alike (a_cons (e_tup (a_cons (e_call (C.call 10 _ _ rfl) C.room g_room_for (a_cons (e_var n3 v3) (a_cons (e_var n9 v9) a_nil))) (a_cons (e_call (C.call 19 _ _ rfl) C.room g_decides (a_cons (e_var n3 v3) (a_cons (e_var n9 v9) a_nil))) a_nil))) (a_cons (e_tup (a_cons (e_call (C.call 24 _ _ rfl) C.room g__law_room (a_cons (e_var n3 v3) (a_cons (e_var n9 v9) a_nil))) (a_cons (e_var n12 v12) a_nil))) a_nil)))))
 (ss_cons (s_ret e_bl)
 ss_nil)
 ss_nil)
 ss_nil)))))
 (ss_cons (s_asg nd n13 (.inl l13) (e_callT tyTuple (fun _ _ z => z) g_tuple (C.free "tuple" (by decide)) rfl (a_cons (e_comp C.calm nd (i_seq (e_var n5 v5)) (blk_of (own := [("name", 9)]) hN hs (by kernel_rfl)) rfl (by decide) (fun _ _ _ _ _ => (g_nm nd n9 (locC (by kernel_rfl)) (hfC (by kernel_rfl)))) (fun _ _ _ _ _ => (c_one (t_w (w_or (t_cmp C.units (e_ix C.units (e_call (C.call 24 _ _ rfl) C.room (glC (by kernel_rfl)) (a_cons (e_bin (e_var n3 (visC (by kernel_rfl))) (e_var n4 (visC (by kernel_rfl)))) (a_cons (e_var n9 (visC (by kernel_rfl))) a_nil))) e_int (fun _ _ => rfl)) (e_ix C.units (e_call (C.call 24 _ _ rfl) C.room (glC (by kernel_rfl)) (a_cons (e_var n3 (visC (by kernel_rfl))) (a_cons (e_var n9 (visC (by kernel_rfl))) a_nil))) e_int (fun _ _ => rfl)) (nomark _)) (w_or1 (t_cmp C.units (e_ix C.units (e_call (C.call 24 _ _ rfl) C.room (glC (by kernel_rfl)) (a_cons (e_bin (e_var n3 (visC (by kernel_rfl))) (e_var n4 (visC (by kernel_rfl)))) (a_cons (e_var n9 (visC (by kernel_rfl))) a_nil))) e_int (fun _ _ => rfl)) (e_ix C.units (e_call (C.call 24 _ _ rfl) C.room (glC (by kernel_rfl)) (a_cons (e_var n3 (visC (by kernel_rfl))) (a_cons (e_var n9 (visC (by kernel_rfl))) a_nil))) e_int (fun _ _ => rfl)) (nomark _))))))) (fun _ _ _ _ _ => (e_var n9 (visC (by kernel_rfl))))) a_nil)) rfl (.inr l13))
 (ss_cons (s_asg nd n14 (.inl l14) (e_ite (t_cmp C.units (e_var n5 v5) (e_lst a_nil) (nomark _)) (e_callB (crMin C.calm C.units) g_min (C.free "min" (by decide)) rfl (a_cons (e_comp C.calm nd (i_seq (e_var n5 v5)) (blk_of (own := [("name", 9)]) hN hs (by kernel_rfl)) rfl (by decide) (fun _ _ _ _ _ => (g_nm nd n9 (locC (by kernel_rfl)) (hfC (by kernel_rfl)))) (fun _ _ _ _ _ => c_nil) (fun _ _ _ _ _ => (e_tup (a_cons (e_bin e_int (e_callB crLen (glC (by kernel_rfl)) (C.free "len" (by decide)) rfl (a_cons (e_comp C.calm nd (i_seq (e_var n3 (visC (by kernel_rfl)))) (blkIn (own := [("own", 10)]) hN (by kernel_rfl)) rfl (by decide) (fun _ _ _ _ _ => (g_nm nd n10 (locC (by kernel_rfl)) (hfC (by kernel_rfl)))) (fun _ _ _ _ _ => (c_one (t_cmp C.units (e_ix C.units (e_var n10 (visC (by kernel_rfl))) e_int (fun _ _ => rfl)) (e_var n9 (visC (by kernel_rfl))) (nomark _)))) (fun _ _ _ _ _ => e_int)) a_nil))) (a_cons (e_var n9 (visC (by kernel_rfl))) a_nil))))) a_nil)) e_non) rfl (.inr l14))
 (ss_cons (s_if (t_not (t_val (e_call (C.call 23 _ _ rfl) C.room g__law_alike (a_cons (e_tup (a_cons (e_call (C.call 17 _ _ rfl) C.room g_grown_by (a_cons (e_var n3 v3) (a_cons (e_var n4 v4) a_nil))) (a_cons (e_call (C.call 18 _ _ rfl) C.room g_asked_most (a_cons (e_var n3 v3) a_nil)) (a_cons (e_call (C.call 16 _ _ rfl) C.room g_whole_room (a_cons (e_var n3 v3) a_nil)) a_nil)))) (a_cons (e_tup (a_cons (e_var n13 v13) (a_cons (e_ite (t_cmp C.units (e_var n14 v14) e_non (nomark _)) (e_tup (a_cons (e_bin e_int (e_ix C.units (e_var n14 v14) e_int (fun _ _ => rfl))) (a_cons (e_ix C.units (e_var n14 v14) e_int (fun _ _ => rfl)) a_nil))) e_non) (a_cons (e_callB (crSum C.calm) g_sum (C.free "sum" (by decide)) rfl (a_cons (e_comp C.calm nd (i_seq (e_var n5 v5)) (blk_of (own := [("name", 9)]) hN hs (by kernel_rfl)) rfl (by decide) (fun _ _ _ _ _ => (g_nm nd n9 (locC (by kernel_rfl)) (hfC (by kernel_rfl)))) (fun _ _ _ _ _ => c_nil) (fun _ _ _ _ _ => (e_ix C.units (e_call (C.call 24 _ _ rfl) C.room (glC (by kernel_rfl)) (a_cons (e_var n3 (visC (by kernel_rfl))) (a_cons (e_var n9 (visC (by kernel_rfl))) a_nil))) e_int (fun _ _ => rfl)))) a_nil)) a_nil)))) a_nil)))))
 (ss_cons (s_ret e_bl)
 ss_nil)
 ss_nil)
 (ss_cons (s_asg nd n15 (.inl l15) (e_callT tyTuple (fun _ _ z => z) g_tuple (C.free "tuple" (by decide)) rfl (a_cons (e_comp C.calm nd (i_seq (e_callB (sortedP C.calm C.units) g_sorted (C.free "sorted" (by decide)) rfl (a_cons (e_comp C.calm nd (i_seq (e_var n7 v7)) (blk_of (own := [("room", 19)]) hN hs (by kernel_rfl)) rfl (by decide) (fun _ _ _ _ _ => (g_nm nd n19 (locC (by kernel_rfl)) (hfC (by kernel_rfl)))) (fun _ _ _ _ _ => c_nil) (fun _ _ _ _ _ => (e_tup (a_cons (e_bin e_int (e_ix C.units (e_var n19 (visC (by kernel_rfl))) e_int (fun _ _ => rfl))) (a_cons (e_bin e_int (e_ix C.units (e_var n19 (visC (by kernel_rfl))) e_int (fun _ _ => rfl))) (a_cons (e_ix C.units (e_var n19 (visC (by kernel_rfl))) e_int (fun _ _ => rfl)) (a_cons (e_var n19 (visC (by kernel_rfl))) a_nil))))))) a_nil))) (blk_of (own := [("key", 22)]) hN hs (by kernel_rfl)) rfl (by decide) (fun _ _ _ _ _ => (g_nm nd n22 (locC (by kernel_rfl)) (hfC (by kernel_rfl)))) (fun _ _ _ _ _ => c_nil) (fun _ _ _ _ _ => (e_ix C.units (e_var n22 (visC (by kernel_rfl))) e_int (fun _ _ => rfl)))) a_nil)) rfl (.inr l15))
 (ss_cons (s_par3 C.calm nd n16 n17 n18 (by decide) (by decide) (by decide) l16 l17 l18 (e_call (C.call 21 _ _ rfl) C.room g__law_next (a_io n1 v1 (a_cons e_int a_nil))) e_int e_dic0 (sw_of hs (by kernel_rfl)))
 (ss_cons (s_asg nd n17 (.inl l17) (e_var n16 v16) rfl (.inr l17))
 (ss_cons (s_for hp C.calm (i_seq (e_var n15 v15)) (g_nm nd n19 (.inl l19) (.inr l19))
 (ss_cons (s_asg nd n17 (.inl l17) (e_bin (e_bin (e_bin (e_bin (e_var n17 v17) (e_ix C.units (e_var n19 v19) e_int (fun _ _ => rfl))) e_int) (e_ix C.units (e_var n19 v19) e_int (fun _ _ => rfl))) (e_ix C.units (e_var n19 v19) e_int (fun _ _ => rfl))) rfl (.inr l17))
 (ss_cons (s_asgDS C.calm C.units nd n18 v18 n17 (.inl l17) (e_ix C.units (e_var n19 v19) e_int (fun _ _ => rfl)) (e_var n17 v17) (e_bin (e_var n17 v17) (e_ix C.units (e_var n19 v19) e_int (fun _ _ => rfl))) (.inr l17) (hw := sw_of hs (by kernel_rfl)))
 ss_nil)))
 (ss_cons (s_if (t_w (w_or (t_not (t_val (e_call (C.call 23 _ _ rfl) C.room g__law_alike (a_cons (e_call (C.call 14 _ _ rfl) C.room g_rooms_by_alignment (a_cons (e_var n7 v7) a_nil)) (a_cons (e_var n15 v15) a_nil))))) (w_or1 (t_cmp C.units (e_call (C.call 15 _ _ rfl) C.room g_put_rooms (a_cons (e_var n15 v15) (a_cons (e_var n16 v16) a_nil))) (e_var n18 v18) (nomark _)))))
 (ss_cons (s_ret e_bl)
 ss_nil)
 ss_nil)
 (ss_cons (s_for hp C.calm (i_seq (e_tup (a_cons (e_callT (tyList C.calm) (fun _ _ z => z) g_list (C.free "list" (by decide)) rfl (a_cons (e_var n3 v3) a_nil)) (a_cons e_non (a_cons (e_bin (e_var n3 v3) (e_tup (a_cons (e_tup (a_cons e_str (a_cons e_int (a_cons e_int (a_cons e_bl a_nil))))) a_nil))) (a_cons (e_bin (e_var n3 v3) (e_tup (a_cons (e_tup (a_cons e_str (a_cons e_int (a_cons e_int (a_cons e_bl a_nil))))) a_nil))) (a_cons (e_bin (e_var n3 v3) (e_tup (a_cons (e_tup (a_cons e_str (a_cons e_int (a_cons e_int (a_cons e_int a_nil))))) a_nil))) (a_cons (e_bin (e_var n3 v3) (e_tup (a_cons (e_tup (a_cons e_str (a_cons e_int (a_cons e_int a_nil)))) a_nil))) (a_cons (e_bin (e_var n3 v3) (e_tup (a_cons (e_tup (a_cons e_str (a_cons e_int (a_cons e_int (a_cons e_bl a_nil))))) a_nil))) (a_cons (e_bin (e_var n3 v3) (e_tup (a_cons (e_tup (a_cons e_str (a_cons e_bl (a_cons e_int (a_cons e_bl a_nil))))) a_nil))) (a_cons (e_bin (e_var n3 v3) (e_tup (a_cons (e_tup (a_cons e_str (a_cons e_int (a_cons e_int (a_cons e_bl a_nil))))) a_nil))) a_nil))))))))))) (g_nm nd n20 (.inl l20) (.inr l20))
 (ss_cons (s_if (t_not (t_val (e_call (C.call 23 _ _ rfl) C.room g__law_alike (a_cons (e_call (C.call 8 _ _ rfl) C.room g_are_asks (a_cons (e_var n20 v20) a_nil)) (a_cons e_bl a_nil)))))
 (ss_cons (s_ret e_bl)
 ss_nil)
 ss_nil)
 ss_nil))
 ss_nil)))))))))))))))))
 (ss_cons (s_ret e_bl)
 ss_nil))
end LW

namespace LW
open PySem PySem.Spec PyProof.Rows L2 PP
def d_is_number : He.DefD := ⟨("is_number", none), "is_number", "is_number", defArgs (top 3), defBody (top 3), defScope (top 3), [], []⟩
def d_is_from : He.DefD := ⟨("is_from", none), "is_from", "is_from", defArgs (top 4), defBody (top 4), defScope (top 4), [], []⟩
def d_is_tuple_of : He.DefD := ⟨("is_tuple_of", none), "is_tuple_of", "is_tuple_of", defArgs (top 5), defBody (top 5), defScope (top 5), [], []⟩
def d_is_name : He.DefD := ⟨("is_name", none), "is_name", "is_name", defArgs (top 6), defBody (top 6), defScope (top 6), [], []⟩
def d_is_power : He.DefD := ⟨("is_power", none), "is_power", "is_power", defArgs (top 7), defBody (top 7), defScope (top 7), [], []⟩
def d_set_of : He.DefD := ⟨("set_of", none), "set_of", "set_of", defArgs (top 8), defBody (top 8), defScope (top 8), [], []⟩
def d_up_to : He.DefD := ⟨("up_to", none), "up_to", "up_to", defArgs (top 9), defBody (top 9), defScope (top 9), [], []⟩
def d_laid : He.DefD := ⟨("laid", none), "laid", "laid", defArgs (top 11), defBody (top 11), defScope (top 11), [], []⟩
def d_are_asks : He.DefD := ⟨("are_asks", none), "are_asks", "are_asks", defArgs (top 13), defBody (top 13), defScope (top 13), [], []⟩
def d_asked_names : He.DefD := ⟨("asked_names", none), "asked_names", "asked_names", defArgs (top 14), defBody (top 14), defScope (top 14), [], []⟩
def d_room_for : He.DefD := ⟨("room_for", none), "room_for", "room_for", defArgs (top 15), defBody (top 15), defScope (top 15), [], []⟩
def d_rooms_given_twice : He.DefD := ⟨("rooms_given_twice", none), "rooms_given_twice", "rooms_given_twice", defArgs (top 16), defBody (top 16), defScope (top 16), [], []⟩
def d_too_small : He.DefD := ⟨("too_small", none), "too_small", "too_small", defArgs (top 17), defBody (top 17), defScope (top 17), [], []⟩
def d_all_rooms : He.DefD := ⟨("all_rooms", none), "all_rooms", "all_rooms", defArgs (top 18), defBody (top 18), defScope (top 18), [], []⟩
def d_rooms_by_alignment : He.DefD := ⟨("rooms_by_alignment", none), "rooms_by_alignment", "rooms_by_alignment", defArgs (top 19), defBody (top 19), defScope (top 19), [], []⟩
def d_put_rooms : He.DefD := ⟨("put_rooms", none), "put_rooms", "put_rooms", defArgs (top 20), defBody (top 20), defScope (top 20), [], []⟩
def d_whole_room : He.DefD := ⟨("whole_room", none), "whole_room", "whole_room", defArgs (top 21), defBody (top 21), defScope (top 21), [], []⟩
def d_grown_by : He.DefD := ⟨("grown_by", none), "grown_by", "grown_by", defArgs (top 22), defBody (top 22), defScope (top 22), [], []⟩
def d_asked_most : He.DefD := ⟨("asked_most", none), "asked_most", "asked_most", defArgs (top 23), defBody (top 23), defScope (top 23), [], []⟩
def d_decides : He.DefD := ⟨("decides", none), "decides", "decides", defArgs (top 24), defBody (top 24), defScope (top 24), [], []⟩
def d__law_draws : He.DefD := ⟨("_law_draws", none), "_law_draws", "_law_draws", defArgs (top 26), defBody (top 26), defScope (top 26), [], []⟩
def d__law_next : He.DefD := ⟨("_law_next", none), "_law_next", "_law_next", defArgs (top 27), defBody (top 27), defScope (top 27), [], []⟩
def d__law_pick : He.DefD := ⟨("_law_pick", none), "_law_pick", "_law_pick", defArgs (top 28), defBody (top 28), defScope (top 28), [], []⟩
def d__law_alike : He.DefD := ⟨("_law_alike", none), "_law_alike", "_law_alike", defArgs (top 29), defBody (top 29), defScope (top 29), [], []⟩
def d__law_room : He.DefD := ⟨("_law_room", none), "_law_room", "_law_room", defArgs (top 30), defBody (top 30), defScope (top 30), [], []⟩
def d__law_asks : He.DefD := ⟨("_law_asks", none), "_law_asks", "_law_asks", defArgs (top 31), defBody (top 31), defScope (top 31), [], []⟩
def d_law : He.DefD := ⟨("law", none), "law", "law", defArgs (top 32), defBody (top 32), defScope (top 32), [], []⟩
def fn : List He.DefD := [d_is_number, d_is_from, d_is_tuple_of, d_is_name, d_is_power, d_set_of, d_up_to, d_laid, d_are_asks, d_asked_names, d_room_for, d_rooms_given_twice, d_too_small, d_all_rooms, d_rooms_by_alignment, d_put_rooms, d_whole_room, d_grown_by, d_asked_most, d_decides, d__law_draws, d__law_next, d__law_pick, d__law_alike, d__law_room, d__law_asks, d_law]
def fa : List He.Fa := [.glo "is_number", .glo "is_from", .glo "is_tuple_of", .glo "is_name", .glo "is_power", .glo "set_of", .glo "up_to", .glo "laid", .glo "are_asks", .glo "asked_names", .glo "room_for", .glo "rooms_given_twice", .glo "too_small", .glo "all_rooms", .glo "rooms_by_alignment", .glo "put_rooms", .glo "whole_room", .glo "grown_by", .glo "asked_most", .glo "decides", .glo "_law_draws", .glo "_law_next", .glo "_law_pick", .glo "_law_alike", .glo "_law_room", .glo "_law_asks", .glo "law", .free "abs", .free "all", .free "bool", .free "dict", .free "int", .free "isinstance", .free "len", .free "list", .free "max", .free "min", .free "range", .free "set", .free "sorted", .free "str", .free "sum", .free "tuple", .free "zip", .str "LETTERS" "abcdefghijklmnopqrstuvwxyz", .str "DIGITS" "0123456789"]
def tl : List (Str × List He.Dv) := []
abbrev R : PySem.W.OpenRow := PySem.W.OpenLaw.row PySem.Challenge.rw_linkwright_k26_rooms_that_many_ask_for
abbrev hk : PySem.W.Hook := hookP 4 tl fa fn
def ob (s : PySem.W.SharedT) : Bool × He.AlD := obsP 4 tl fa fn (HandSHeadRun.getT s)
theorem ob_eq (s : PySem.W.SharedT) : ob s = hk.obs s.abs := obsP_eq (HandSHeadRun.getT_eq s)
def loose1 : List PySem.Str := ["is_number", "is_from", "is_tuple_of", "is_name", "is_power", "set_of", "up_to", "laid", "are_asks", "asked_names", "room_for", "rooms_given_twice", "too_small", "all_rooms", "rooms_by_alignment", "put_rooms", "whole_room", "grown_by", "asked_most", "decides", "_law_draws", "_law_next", "_law_pick", "_law_alike", "_law_room", "_law_asks", "LETTERS", "DIGITS"]
theorem run (w : World) : HandSHeadRun.RunEq R (PySem.W.view R.prog [32]) hk ob 4000 loose1 w := by
  intro os
  kernel_rfl
structure Facts (K : PySem.W.Frag) (mg : Str → Option Value) : Prop where
  f_is_number : ∃ fa fd, FunD K "is_number" "is_number" (defArgs (top 3)) (defBody (top 3)) (defScope (top 3)) [] [] fa fd ∧ mg "is_number" = some (.ref fa)
  f_is_from : ∃ fa fd, FunD K "is_from" "is_from" (defArgs (top 4)) (defBody (top 4)) (defScope (top 4)) [] [] fa fd ∧ mg "is_from" = some (.ref fa)
  f_is_tuple_of : ∃ fa fd, FunD K "is_tuple_of" "is_tuple_of" (defArgs (top 5)) (defBody (top 5)) (defScope (top 5)) [] [] fa fd ∧ mg "is_tuple_of" = some (.ref fa)
  f_is_name : ∃ fa fd, FunD K "is_name" "is_name" (defArgs (top 6)) (defBody (top 6)) (defScope (top 6)) [] [] fa fd ∧ mg "is_name" = some (.ref fa)
  f_is_power : ∃ fa fd, FunD K "is_power" "is_power" (defArgs (top 7)) (defBody (top 7)) (defScope (top 7)) [] [] fa fd ∧ mg "is_power" = some (.ref fa)
  f_set_of : ∃ fa fd, FunD K "set_of" "set_of" (defArgs (top 8)) (defBody (top 8)) (defScope (top 8)) [] [] fa fd ∧ mg "set_of" = some (.ref fa)
  f_up_to : ∃ fa fd, FunD K "up_to" "up_to" (defArgs (top 9)) (defBody (top 9)) (defScope (top 9)) [] [] fa fd ∧ mg "up_to" = some (.ref fa)
  f_laid : ∃ fa fd, FunD K "laid" "laid" (defArgs (top 11)) (defBody (top 11)) (defScope (top 11)) [] [] fa fd ∧ mg "laid" = some (.ref fa)
  f_are_asks : ∃ fa fd, FunD K "are_asks" "are_asks" (defArgs (top 13)) (defBody (top 13)) (defScope (top 13)) [] [] fa fd ∧ mg "are_asks" = some (.ref fa)
  f_asked_names : ∃ fa fd, FunD K "asked_names" "asked_names" (defArgs (top 14)) (defBody (top 14)) (defScope (top 14)) [] [] fa fd ∧ mg "asked_names" = some (.ref fa)
  f_room_for : ∃ fa fd, FunD K "room_for" "room_for" (defArgs (top 15)) (defBody (top 15)) (defScope (top 15)) [] [] fa fd ∧ mg "room_for" = some (.ref fa)
  f_rooms_given_twice : ∃ fa fd, FunD K "rooms_given_twice" "rooms_given_twice" (defArgs (top 16)) (defBody (top 16)) (defScope (top 16)) [] [] fa fd ∧ mg "rooms_given_twice" = some (.ref fa)
  f_too_small : ∃ fa fd, FunD K "too_small" "too_small" (defArgs (top 17)) (defBody (top 17)) (defScope (top 17)) [] [] fa fd ∧ mg "too_small" = some (.ref fa)
  f_all_rooms : ∃ fa fd, FunD K "all_rooms" "all_rooms" (defArgs (top 18)) (defBody (top 18)) (defScope (top 18)) [] [] fa fd ∧ mg "all_rooms" = some (.ref fa)
  f_rooms_by_alignment : ∃ fa fd, FunD K "rooms_by_alignment" "rooms_by_alignment" (defArgs (top 19)) (defBody (top 19)) (defScope (top 19)) [] [] fa fd ∧ mg "rooms_by_alignment" = some (.ref fa)
  f_put_rooms : ∃ fa fd, FunD K "put_rooms" "put_rooms" (defArgs (top 20)) (defBody (top 20)) (defScope (top 20)) [] [] fa fd ∧ mg "put_rooms" = some (.ref fa)
  f_whole_room : ∃ fa fd, FunD K "whole_room" "whole_room" (defArgs (top 21)) (defBody (top 21)) (defScope (top 21)) [] [] fa fd ∧ mg "whole_room" = some (.ref fa)
  f_grown_by : ∃ fa fd, FunD K "grown_by" "grown_by" (defArgs (top 22)) (defBody (top 22)) (defScope (top 22)) [] [] fa fd ∧ mg "grown_by" = some (.ref fa)
  f_asked_most : ∃ fa fd, FunD K "asked_most" "asked_most" (defArgs (top 23)) (defBody (top 23)) (defScope (top 23)) [] [] fa fd ∧ mg "asked_most" = some (.ref fa)
  f_decides : ∃ fa fd, FunD K "decides" "decides" (defArgs (top 24)) (defBody (top 24)) (defScope (top 24)) [] [] fa fd ∧ mg "decides" = some (.ref fa)
  f__law_draws : ∃ fa fd, FunD K "_law_draws" "_law_draws" (defArgs (top 26)) (defBody (top 26)) (defScope (top 26)) [] [] fa fd ∧ mg "_law_draws" = some (.ref fa)
  f__law_next : ∃ fa fd, FunD K "_law_next" "_law_next" (defArgs (top 27)) (defBody (top 27)) (defScope (top 27)) [] [] fa fd ∧ mg "_law_next" = some (.ref fa)
  f__law_pick : ∃ fa fd, FunD K "_law_pick" "_law_pick" (defArgs (top 28)) (defBody (top 28)) (defScope (top 28)) [] [] fa fd ∧ mg "_law_pick" = some (.ref fa)
  f__law_alike : ∃ fa fd, FunD K "_law_alike" "_law_alike" (defArgs (top 29)) (defBody (top 29)) (defScope (top 29)) [] [] fa fd ∧ mg "_law_alike" = some (.ref fa)
  f__law_room : ∃ fa fd, FunD K "_law_room" "_law_room" (defArgs (top 30)) (defBody (top 30)) (defScope (top 30)) [] [] fa fd ∧ mg "_law_room" = some (.ref fa)
  f__law_asks : ∃ fa fd, FunD K "_law_asks" "_law_asks" (defArgs (top 31)) (defBody (top 31)) (defScope (top 31)) [] [] fa fd ∧ mg "_law_asks" = some (.ref fa)
  f_law : ∃ fa fd, FunD K "law" "law" (defArgs (top 32)) (defBody (top 32)) (defScope (top 32)) [] [] fa fd ∧ mg "law" = some (.ref fa)
  free : ∀ x, x ∈ bn → mg x = none
  gstr : ∀ (g : Nat) (x z : Str), gn[g]? = some x → gls[g]? = some (.str z) → ∃ t, mg x = some (.str z t)
  gtup : ∀ (g : Nat) (x : Str) (ds : List PyData), gn[g]? = some x → gls[g]? = some (.tuple ds) → ∃ a xs, mg x = some (.ref a) ∧ (∀ H, SqT K H a xs) ∧ ∀ H P, RpAll K H P xs ds
theorem facts {K : PySem.W.Frag} {h : Heap} {mg : Str → Option Value} (KX : K.In h) (G : h.Ns mainGlobals mg) (ct : (tl.all fun t => He.tupB K t.1 t.2) = true) (c : He.SaysD fa fn K) : Facts K mg where
  f_is_number := let ⟨fd, F⟩ := c.def_ 0 (d := d_is_number) rfl; ⟨_, fd, F, He.glo_ok KX G (c.fact 0 (f := .glo "is_number") rfl)⟩
  f_is_from := let ⟨fd, F⟩ := c.def_ 1 (d := d_is_from) rfl; ⟨_, fd, F, He.glo_ok KX G (c.fact 1 (f := .glo "is_from") rfl)⟩
  f_is_tuple_of := let ⟨fd, F⟩ := c.def_ 2 (d := d_is_tuple_of) rfl; ⟨_, fd, F, He.glo_ok KX G (c.fact 2 (f := .glo "is_tuple_of") rfl)⟩
  f_is_name := let ⟨fd, F⟩ := c.def_ 3 (d := d_is_name) rfl; ⟨_, fd, F, He.glo_ok KX G (c.fact 3 (f := .glo "is_name") rfl)⟩
  f_is_power := let ⟨fd, F⟩ := c.def_ 4 (d := d_is_power) rfl; ⟨_, fd, F, He.glo_ok KX G (c.fact 4 (f := .glo "is_power") rfl)⟩
  f_set_of := let ⟨fd, F⟩ := c.def_ 5 (d := d_set_of) rfl; ⟨_, fd, F, He.glo_ok KX G (c.fact 5 (f := .glo "set_of") rfl)⟩
  f_up_to := let ⟨fd, F⟩ := c.def_ 6 (d := d_up_to) rfl; ⟨_, fd, F, He.glo_ok KX G (c.fact 6 (f := .glo "up_to") rfl)⟩
  f_laid := let ⟨fd, F⟩ := c.def_ 7 (d := d_laid) rfl; ⟨_, fd, F, He.glo_ok KX G (c.fact 7 (f := .glo "laid") rfl)⟩
  f_are_asks := let ⟨fd, F⟩ := c.def_ 8 (d := d_are_asks) rfl; ⟨_, fd, F, He.glo_ok KX G (c.fact 8 (f := .glo "are_asks") rfl)⟩
  f_asked_names := let ⟨fd, F⟩ := c.def_ 9 (d := d_asked_names) rfl; ⟨_, fd, F, He.glo_ok KX G (c.fact 9 (f := .glo "asked_names") rfl)⟩
  f_room_for := let ⟨fd, F⟩ := c.def_ 10 (d := d_room_for) rfl; ⟨_, fd, F, He.glo_ok KX G (c.fact 10 (f := .glo "room_for") rfl)⟩
  f_rooms_given_twice := let ⟨fd, F⟩ := c.def_ 11 (d := d_rooms_given_twice) rfl; ⟨_, fd, F, He.glo_ok KX G (c.fact 11 (f := .glo "rooms_given_twice") rfl)⟩
  f_too_small := let ⟨fd, F⟩ := c.def_ 12 (d := d_too_small) rfl; ⟨_, fd, F, He.glo_ok KX G (c.fact 12 (f := .glo "too_small") rfl)⟩
  f_all_rooms := let ⟨fd, F⟩ := c.def_ 13 (d := d_all_rooms) rfl; ⟨_, fd, F, He.glo_ok KX G (c.fact 13 (f := .glo "all_rooms") rfl)⟩
  f_rooms_by_alignment := let ⟨fd, F⟩ := c.def_ 14 (d := d_rooms_by_alignment) rfl; ⟨_, fd, F, He.glo_ok KX G (c.fact 14 (f := .glo "rooms_by_alignment") rfl)⟩
  f_put_rooms := let ⟨fd, F⟩ := c.def_ 15 (d := d_put_rooms) rfl; ⟨_, fd, F, He.glo_ok KX G (c.fact 15 (f := .glo "put_rooms") rfl)⟩
  f_whole_room := let ⟨fd, F⟩ := c.def_ 16 (d := d_whole_room) rfl; ⟨_, fd, F, He.glo_ok KX G (c.fact 16 (f := .glo "whole_room") rfl)⟩
  f_grown_by := let ⟨fd, F⟩ := c.def_ 17 (d := d_grown_by) rfl; ⟨_, fd, F, He.glo_ok KX G (c.fact 17 (f := .glo "grown_by") rfl)⟩
  f_asked_most := let ⟨fd, F⟩ := c.def_ 18 (d := d_asked_most) rfl; ⟨_, fd, F, He.glo_ok KX G (c.fact 18 (f := .glo "asked_most") rfl)⟩
  f_decides := let ⟨fd, F⟩ := c.def_ 19 (d := d_decides) rfl; ⟨_, fd, F, He.glo_ok KX G (c.fact 19 (f := .glo "decides") rfl)⟩
  f__law_draws := let ⟨fd, F⟩ := c.def_ 20 (d := d__law_draws) rfl; ⟨_, fd, F, He.glo_ok KX G (c.fact 20 (f := .glo "_law_draws") rfl)⟩
  f__law_next := let ⟨fd, F⟩ := c.def_ 21 (d := d__law_next) rfl; ⟨_, fd, F, He.glo_ok KX G (c.fact 21 (f := .glo "_law_next") rfl)⟩
  f__law_pick := let ⟨fd, F⟩ := c.def_ 22 (d := d__law_pick) rfl; ⟨_, fd, F, He.glo_ok KX G (c.fact 22 (f := .glo "_law_pick") rfl)⟩
  f__law_alike := let ⟨fd, F⟩ := c.def_ 23 (d := d__law_alike) rfl; ⟨_, fd, F, He.glo_ok KX G (c.fact 23 (f := .glo "_law_alike") rfl)⟩
  f__law_room := let ⟨fd, F⟩ := c.def_ 24 (d := d__law_room) rfl; ⟨_, fd, F, He.glo_ok KX G (c.fact 24 (f := .glo "_law_room") rfl)⟩
  f__law_asks := let ⟨fd, F⟩ := c.def_ 25 (d := d__law_asks) rfl; ⟨_, fd, F, He.glo_ok KX G (c.fact 25 (f := .glo "_law_asks") rfl)⟩
  f_law := let ⟨fd, F⟩ := c.def_ 26 (d := d_law) rfl; ⟨_, fd, F, He.glo_ok KX G (c.fact 26 (f := .glo "law") rfl)⟩
  free := fun x hx => by
    simp only [bn, List.mem_cons, List.not_mem_nil, or_false] at hx
    rcases hx with rfl | rfl | rfl | rfl | rfl | rfl | rfl | rfl | rfl | rfl | rfl | rfl | rfl | rfl | rfl | rfl | rfl
    · exact He.free_ok KX G (c.fact 27 (f := .free "abs") rfl)
    · exact He.free_ok KX G (c.fact 28 (f := .free "all") rfl)
    · exact He.free_ok KX G (c.fact 29 (f := .free "bool") rfl)
    · exact He.free_ok KX G (c.fact 30 (f := .free "dict") rfl)
    · exact He.free_ok KX G (c.fact 31 (f := .free "int") rfl)
    · exact He.free_ok KX G (c.fact 32 (f := .free "isinstance") rfl)
    · exact He.free_ok KX G (c.fact 33 (f := .free "len") rfl)
    · exact He.free_ok KX G (c.fact 34 (f := .free "list") rfl)
    · exact He.free_ok KX G (c.fact 35 (f := .free "max") rfl)
    · exact He.free_ok KX G (c.fact 36 (f := .free "min") rfl)
    · exact He.free_ok KX G (c.fact 37 (f := .free "range") rfl)
    · exact He.free_ok KX G (c.fact 38 (f := .free "set") rfl)
    · exact He.free_ok KX G (c.fact 39 (f := .free "sorted") rfl)
    · exact He.free_ok KX G (c.fact 40 (f := .free "str") rfl)
    · exact He.free_ok KX G (c.fact 41 (f := .free "sum") rfl)
    · exact He.free_ok KX G (c.fact 42 (f := .free "tuple") rfl)
    · exact He.free_ok KX G (c.fact 43 (f := .free "zip") rfl)
  gstr := fun g x z e1 e2 => by
    match g, e1, e2 with
    | 0, e1, e2 => cases e1; cases e2; exact He.str_ok KX G (c.fact 44 (f := .str "LETTERS" "abcdefghijklmnopqrstuvwxyz") rfl)
    | 1, e1, e2 => cases e1; cases e2; exact He.str_ok KX G (c.fact 45 (f := .str "DIGITS" "0123456789") rfl)
    | _ + 2, e1, e2 => simp [gls] at e2
  gtup := fun g x ds e1 e2 => by
    match g, e1, e2 with
    | 0, e1, e2 => cases e2
    | 1, e1, e2 => cases e2
    | _ + 2, e1, e2 => simp [gls] at e2
section
variable {P : Program} {w : World} {K : PySem.W.Frag} {mg : Str → Option Value} {base : Heap}
theorem sc_is_number : FnScope N_is_number ["thing"] (defScope (top 3)) := ⟨rfl, rfl, rfl, by decide +kernel, rfl, by decide +kernel, by decide +kernel⟩
theorem sc_is_from : FnScope N_is_from ["thing", "least"] (defScope (top 4)) := ⟨rfl, rfl, rfl, by decide +kernel, rfl, by decide +kernel, by decide +kernel⟩
theorem sc_is_tuple_of : FnScope N_is_tuple_of ["thing", "many"] (defScope (top 5)) := ⟨rfl, rfl, rfl, by decide +kernel, rfl, by decide +kernel, by decide +kernel⟩
theorem sc_is_name : FnScope N_is_name ["thing"] (defScope (top 6)) := ⟨rfl, rfl, rfl, by decide +kernel, rfl, by decide +kernel, by decide +kernel⟩
theorem sc_is_power : FnScope N_is_power ["thing"] (defScope (top 7)) := ⟨rfl, rfl, rfl, by decide +kernel, rfl, by decide +kernel, by decide +kernel⟩
theorem sc_set_of : FnScope N_set_of ["things"] (defScope (top 8)) := ⟨rfl, rfl, rfl, by decide +kernel, rfl, by decide +kernel, by decide +kernel⟩
theorem sc_up_to : FnScope N_up_to ["number", "align"] (defScope (top 9)) := ⟨rfl, rfl, rfl, by decide +kernel, rfl, by decide +kernel, by decide +kernel⟩
theorem sc_laid : FnScope N_laid ["blocks", "begin"] (defScope (top 11)) := ⟨rfl, rfl, rfl, by decide +kernel, rfl, by decide +kernel, by decide +kernel⟩
theorem sc_are_asks : FnScope N_are_asks ["thing"] (defScope (top 13)) := ⟨rfl, rfl, rfl, by decide +kernel, rfl, by decide +kernel, by decide +kernel⟩
theorem sc_asked_names : FnScope N_asked_names ["asks"] (defScope (top 14)) := ⟨rfl, rfl, rfl, by decide +kernel, rfl, by decide +kernel, by decide +kernel⟩
theorem sc_room_for : FnScope N_room_for ["asks", "name"] (defScope (top 15)) := ⟨rfl, rfl, rfl, by decide +kernel, rfl, by decide +kernel, by decide +kernel⟩
theorem sc_rooms_given_twice : FnScope N_rooms_given_twice ["asks"] (defScope (top 16)) := ⟨rfl, rfl, rfl, by decide +kernel, rfl, by decide +kernel, by decide +kernel⟩
theorem sc_too_small : FnScope N_too_small ["asks"] (defScope (top 17)) := ⟨rfl, rfl, rfl, by decide +kernel, rfl, by decide +kernel, by decide +kernel⟩
theorem sc_all_rooms : FnScope N_all_rooms ["asks"] (defScope (top 18)) := ⟨rfl, rfl, rfl, by decide +kernel, rfl, by decide +kernel, by decide +kernel⟩
theorem sc_rooms_by_alignment : FnScope N_rooms_by_alignment ["rooms"] (defScope (top 19)) := ⟨rfl, rfl, rfl, by decide +kernel, rfl, by decide +kernel, by decide +kernel⟩
theorem sc_put_rooms : FnScope N_put_rooms ["rooms", "begin"] (defScope (top 20)) := ⟨rfl, rfl, rfl, by decide +kernel, rfl, by decide +kernel, by decide +kernel⟩
theorem sc_whole_room : FnScope N_whole_room ["asks"] (defScope (top 21)) := ⟨rfl, rfl, rfl, by decide +kernel, rfl, by decide +kernel, by decide +kernel⟩
theorem sc_grown_by : FnScope N_grown_by ["asks", "more"] (defScope (top 22)) := ⟨rfl, rfl, rfl, by decide +kernel, rfl, by decide +kernel, by decide +kernel⟩
theorem sc_asked_most : FnScope N_asked_most ["asks"] (defScope (top 23)) := ⟨rfl, rfl, rfl, by decide +kernel, rfl, by decide +kernel, by decide +kernel⟩
theorem sc_decides : FnScope N_decides ["asks", "name"] (defScope (top 24)) := ⟨rfl, rfl, rfl, by decide +kernel, rfl, by decide +kernel, by decide +kernel⟩
theorem sc__law_draws : FnScope N__law_draws ["script", "many"] (defScope (top 26)) := ⟨rfl, rfl, rfl, by decide +kernel, rfl, by decide +kernel, by decide +kernel⟩
theorem sc__law_next : FnScope N__law_next ["w", "many"] (defScope (top 27)) := ⟨rfl, rfl, rfl, by decide +kernel, rfl, by decide +kernel, by decide +kernel⟩
theorem sc__law_pick : FnScope N__law_pick ["w", "rows"] (defScope (top 28)) := ⟨rfl, rfl, rfl, by decide +kernel, rfl, by decide +kernel, by decide +kernel⟩
theorem sc__law_alike : FnScope N__law_alike ["given", "due"] (defScope (top 29)) := ⟨rfl, rfl, rfl, by decide +kernel, rfl, by decide +kernel, by decide +kernel⟩
theorem sc__law_room : FnScope N__law_room ["asks", "name"] (defScope (top 30)) := ⟨rfl, rfl, rfl, by decide +kernel, rfl, by decide +kernel, by decide +kernel⟩
theorem sc__law_asks : FnScope N__law_asks ["w", "many"] (defScope (top 31)) := ⟨rfl, rfl, rfl, by decide +kernel, rfl, by decide +kernel, by decide +kernel⟩
theorem sc_law : FnScope N_law ["script"] (defScope (top 32)) := ⟨rfl, rfl, rfl, by decide +kernel, rfl, by decide +kernel, by decide +kernel⟩
theorem lev (F : Facts K mg) : ∀ (n f : Nat) (x : Str) (bs : List Bool), T[f]? = some (x, bs) → Cal P w K mg base n x (spF K tbl gls n f bs) := by
  intro n
  induction n with
  | zero =>
    intro f x bs h
    match f, h with
    | 0, h => cases h; obtain ⟨fa, fd, FD, hm⟩ := F.f_is_number; exact cal_0 (ps := ["thing"]) FD.kp hm (FD.bindsN fun _ _ _ _ _ _ us hl => match us, hl with | [_], _ => rfl)
    | 1, h => cases h; obtain ⟨fa, fd, FD, hm⟩ := F.f_is_from; exact cal_0 (ps := ["thing", "least"]) FD.kp hm (FD.bindsN fun _ _ _ _ _ _ us hl => match us, hl with | [_, _], _ => rfl)
    | 2, h => cases h; obtain ⟨fa, fd, FD, hm⟩ := F.f_is_tuple_of; exact cal_0 (ps := ["thing", "many"]) FD.kp hm (FD.bindsN fun _ _ _ _ _ _ us hl => match us, hl with | [_, _], _ => rfl)
    | 3, h => cases h; obtain ⟨fa, fd, FD, hm⟩ := F.f_is_name; exact cal_0 (ps := ["thing"]) FD.kp hm (FD.bindsN fun _ _ _ _ _ _ us hl => match us, hl with | [_], _ => rfl)
    | 4, h => cases h; obtain ⟨fa, fd, FD, hm⟩ := F.f_is_power; exact cal_0 (ps := ["thing"]) FD.kp hm (FD.bindsN fun _ _ _ _ _ _ us hl => match us, hl with | [_], _ => rfl)
    | 5, h => cases h; obtain ⟨fa, fd, FD, hm⟩ := F.f_set_of; exact cal_0 (ps := ["things"]) FD.kp hm (FD.bindsN fun _ _ _ _ _ _ us hl => match us, hl with | [_], _ => rfl)
    | 6, h => cases h; obtain ⟨fa, fd, FD, hm⟩ := F.f_up_to; exact cal_0 (ps := ["number", "align"]) FD.kp hm (FD.bindsN fun _ _ _ _ _ _ us hl => match us, hl with | [_, _], _ => rfl)
    | 7, h => cases h; obtain ⟨fa, fd, FD, hm⟩ := F.f_laid; exact cal_0 (ps := ["blocks", "begin"]) FD.kp hm (FD.bindsN fun _ _ _ _ _ _ us hl => match us, hl with | [_, _], _ => rfl)
    | 8, h => cases h; obtain ⟨fa, fd, FD, hm⟩ := F.f_are_asks; exact cal_0 (ps := ["thing"]) FD.kp hm (FD.bindsN fun _ _ _ _ _ _ us hl => match us, hl with | [_], _ => rfl)
    | 9, h => cases h; obtain ⟨fa, fd, FD, hm⟩ := F.f_asked_names; exact cal_0 (ps := ["asks"]) FD.kp hm (FD.bindsN fun _ _ _ _ _ _ us hl => match us, hl with | [_], _ => rfl)
    | 10, h => cases h; obtain ⟨fa, fd, FD, hm⟩ := F.f_room_for; exact cal_0 (ps := ["asks", "name"]) FD.kp hm (FD.bindsN fun _ _ _ _ _ _ us hl => match us, hl with | [_, _], _ => rfl)
    | 11, h => cases h; obtain ⟨fa, fd, FD, hm⟩ := F.f_rooms_given_twice; exact cal_0 (ps := ["asks"]) FD.kp hm (FD.bindsN fun _ _ _ _ _ _ us hl => match us, hl with | [_], _ => rfl)
    | 12, h => cases h; obtain ⟨fa, fd, FD, hm⟩ := F.f_too_small; exact cal_0 (ps := ["asks"]) FD.kp hm (FD.bindsN fun _ _ _ _ _ _ us hl => match us, hl with | [_], _ => rfl)
    | 13, h => cases h; obtain ⟨fa, fd, FD, hm⟩ := F.f_all_rooms; exact cal_0 (ps := ["asks"]) FD.kp hm (FD.bindsN fun _ _ _ _ _ _ us hl => match us, hl with | [_], _ => rfl)
    | 14, h => cases h; obtain ⟨fa, fd, FD, hm⟩ := F.f_rooms_by_alignment; exact cal_0 (ps := ["rooms"]) FD.kp hm (FD.bindsN fun _ _ _ _ _ _ us hl => match us, hl with | [_], _ => rfl)
    | 15, h => cases h; obtain ⟨fa, fd, FD, hm⟩ := F.f_put_rooms; exact cal_0 (ps := ["rooms", "begin"]) FD.kp hm (FD.bindsN fun _ _ _ _ _ _ us hl => match us, hl with | [_, _], _ => rfl)
    | 16, h => cases h; obtain ⟨fa, fd, FD, hm⟩ := F.f_whole_room; exact cal_0 (ps := ["asks"]) FD.kp hm (FD.bindsN fun _ _ _ _ _ _ us hl => match us, hl with | [_], _ => rfl)
    | 17, h => cases h; obtain ⟨fa, fd, FD, hm⟩ := F.f_grown_by; exact cal_0 (ps := ["asks", "more"]) FD.kp hm (FD.bindsN fun _ _ _ _ _ _ us hl => match us, hl with | [_, _], _ => rfl)
    | 18, h => cases h; obtain ⟨fa, fd, FD, hm⟩ := F.f_asked_most; exact cal_0 (ps := ["asks"]) FD.kp hm (FD.bindsN fun _ _ _ _ _ _ us hl => match us, hl with | [_], _ => rfl)
    | 19, h => cases h; obtain ⟨fa, fd, FD, hm⟩ := F.f_decides; exact cal_0 (ps := ["asks", "name"]) FD.kp hm (FD.bindsN fun _ _ _ _ _ _ us hl => match us, hl with | [_, _], _ => rfl)
    | 20, h => cases h; obtain ⟨fa, fd, FD, hm⟩ := F.f_is_number; exact cal_0 (ps := ["thing"]) FD.kp hm (FD.bindsN fun _ _ _ _ _ _ us hl => match us, hl with | [_], _ => rfl)
    | 21, h => cases h; obtain ⟨fa, fd, FD, hm⟩ := F.f__law_next; exact cal_0 (ps := ["w", "many"]) FD.kp hm (FD.bindsN fun _ _ _ _ _ _ us hl => match us, hl with | [_, _], _ => rfl)
    | 22, h => cases h; obtain ⟨fa, fd, FD, hm⟩ := F.f__law_pick; exact cal_0 (ps := ["w", "rows"]) FD.kp hm (FD.bindsN fun _ _ _ _ _ _ us hl => match us, hl with | [_, _], _ => rfl)
    | 23, h => cases h; obtain ⟨fa, fd, FD, hm⟩ := F.f__law_alike; exact cal_0 (ps := ["given", "due"]) FD.kp hm (FD.bindsN fun _ _ _ _ _ _ us hl => match us, hl with | [_, _], _ => rfl)
    | 24, h => cases h; obtain ⟨fa, fd, FD, hm⟩ := F.f__law_room; exact cal_0 (ps := ["asks", "name"]) FD.kp hm (FD.bindsN fun _ _ _ _ _ _ us hl => match us, hl with | [_, _], _ => rfl)
    | 25, h => cases h; obtain ⟨fa, fd, FD, hm⟩ := F.f__law_asks; exact cal_0 (ps := ["w", "many"]) FD.kp hm (FD.bindsN fun _ _ _ _ _ _ us hl => match us, hl with | [_, _], _ => rfl)
    | _ + 26, h => simp [T] at h
  | succ n ih =>
    have ctx : ∀ {N : List Str} {qual : Str} {scope : Scope} {f : Addr} {cdv : Value} {A : Around} {outer : List Env} {s : Shared} {H : Hp} {E : XK}, Room n (A.deeper (envOfC qual scope s.heap.objs.size f cdv)) → Ctx tbl gls gn T bn n ((cxOf L2.CX0 P w K mg base N qual scope f cdv A outer s H E).nox) := fun hr => ⟨rfl, hr, F.free, ih, F.gstr, F.gtup⟩
    intro f x bs h
    match f, h with
    | 0, h => cases h; obtain ⟨fa, fd, FD, hm⟩ := F.f_is_number; exact cal_ok (ps := ["thing"]) (N := N_is_number) FD hm (FD.bindsN fun _ _ _ _ _ _ us hl => match us, hl with | [_], _ => rfl) sc_is_number rfl rfl rfl rfl rfl (fun qual cdv A outer s H E hr => w_is_number (ctx hr) PassesOwn.never rfl rfl (fun _ => rfl))
    | 1, h => cases h; obtain ⟨fa, fd, FD, hm⟩ := F.f_is_from; exact cal_ok (ps := ["thing", "least"]) (N := N_is_from) FD hm (FD.bindsN fun _ _ _ _ _ _ us hl => match us, hl with | [_, _], _ => rfl) sc_is_from rfl rfl rfl rfl rfl (fun qual cdv A outer s H E hr => w_is_from (ctx hr) PassesOwn.never rfl rfl (fun _ => rfl))
    | 2, h => cases h; obtain ⟨fa, fd, FD, hm⟩ := F.f_is_tuple_of; exact cal_ok (ps := ["thing", "many"]) (N := N_is_tuple_of) FD hm (FD.bindsN fun _ _ _ _ _ _ us hl => match us, hl with | [_, _], _ => rfl) sc_is_tuple_of rfl rfl rfl rfl rfl (fun qual cdv A outer s H E hr => w_is_tuple_of (ctx hr) PassesOwn.never rfl rfl (fun _ => rfl))
    | 3, h => cases h; obtain ⟨fa, fd, FD, hm⟩ := F.f_is_name; exact cal_ok (ps := ["thing"]) (N := N_is_name) FD hm (FD.bindsN fun _ _ _ _ _ _ us hl => match us, hl with | [_], _ => rfl) sc_is_name rfl rfl rfl rfl rfl (fun qual cdv A outer s H E hr => w_is_name (ctx hr) PassesOwn.never rfl rfl (fun _ => rfl))
    | 4, h => cases h; obtain ⟨fa, fd, FD, hm⟩ := F.f_is_power; exact cal_ok (ps := ["thing"]) (N := N_is_power) FD hm (FD.bindsN fun _ _ _ _ _ _ us hl => match us, hl with | [_], _ => rfl) sc_is_power rfl rfl rfl rfl rfl (fun qual cdv A outer s H E hr => w_is_power (ctx hr) PassesOwn.never rfl rfl (fun _ => rfl))
    | 5, h => cases h; obtain ⟨fa, fd, FD, hm⟩ := F.f_set_of; exact cal_ok (ps := ["things"]) (N := N_set_of) FD hm (FD.bindsN fun _ _ _ _ _ _ us hl => match us, hl with | [_], _ => rfl) sc_set_of rfl rfl rfl rfl rfl (fun qual cdv A outer s H E hr => w_set_of (ctx hr) PassesOwn.never rfl rfl (fun _ => rfl))
    | 6, h => cases h; obtain ⟨fa, fd, FD, hm⟩ := F.f_up_to; exact cal_ok (ps := ["number", "align"]) (N := N_up_to) FD hm (FD.bindsN fun _ _ _ _ _ _ us hl => match us, hl with | [_, _], _ => rfl) sc_up_to rfl rfl rfl rfl rfl (fun qual cdv A outer s H E hr => w_up_to (ctx hr) PassesOwn.never rfl rfl (fun _ => rfl))
    | 7, h => cases h; obtain ⟨fa, fd, FD, hm⟩ := F.f_laid; exact cal_ok (ps := ["blocks", "begin"]) (N := N_laid) FD hm (FD.bindsN fun _ _ _ _ _ _ us hl => match us, hl with | [_, _], _ => rfl) sc_laid rfl rfl rfl rfl rfl (fun qual cdv A outer s H E hr => w_laid (ctx hr) PassesOwn.never rfl rfl (fun _ => rfl))
    | 8, h => cases h; obtain ⟨fa, fd, FD, hm⟩ := F.f_are_asks; exact cal_ok (ps := ["thing"]) (N := N_are_asks) FD hm (FD.bindsN fun _ _ _ _ _ _ us hl => match us, hl with | [_], _ => rfl) sc_are_asks rfl rfl rfl rfl rfl (fun qual cdv A outer s H E hr => w_are_asks (ctx hr) PassesOwn.never rfl rfl (fun _ => rfl))
    | 9, h => cases h; obtain ⟨fa, fd, FD, hm⟩ := F.f_asked_names; exact cal_ok (ps := ["asks"]) (N := N_asked_names) FD hm (FD.bindsN fun _ _ _ _ _ _ us hl => match us, hl with | [_], _ => rfl) sc_asked_names rfl rfl rfl rfl rfl (fun qual cdv A outer s H E hr => w_asked_names (ctx hr) PassesOwn.never rfl rfl (fun _ => rfl))
    | 10, h => cases h; obtain ⟨fa, fd, FD, hm⟩ := F.f_room_for; exact cal_ok (ps := ["asks", "name"]) (N := N_room_for) FD hm (FD.bindsN fun _ _ _ _ _ _ us hl => match us, hl with | [_, _], _ => rfl) sc_room_for rfl rfl rfl rfl rfl (fun qual cdv A outer s H E hr => w_room_for (ctx hr) PassesOwn.never rfl rfl (fun _ => rfl))
    | 11, h => cases h; obtain ⟨fa, fd, FD, hm⟩ := F.f_rooms_given_twice; exact cal_ok (ps := ["asks"]) (N := N_rooms_given_twice) FD hm (FD.bindsN fun _ _ _ _ _ _ us hl => match us, hl with | [_], _ => rfl) sc_rooms_given_twice rfl rfl rfl rfl rfl (fun qual cdv A outer s H E hr => w_rooms_given_twice (ctx hr) PassesOwn.never rfl rfl (fun _ => rfl))
    | 12, h => cases h; obtain ⟨fa, fd, FD, hm⟩ := F.f_too_small; exact cal_ok (ps := ["asks"]) (N := N_too_small) FD hm (FD.bindsN fun _ _ _ _ _ _ us hl => match us, hl with | [_], _ => rfl) sc_too_small rfl rfl rfl rfl rfl (fun qual cdv A outer s H E hr => w_too_small (ctx hr) PassesOwn.never rfl rfl (fun _ => rfl))
    | 13, h => cases h; obtain ⟨fa, fd, FD, hm⟩ := F.f_all_rooms; exact cal_ok (ps := ["asks"]) (N := N_all_rooms) FD hm (FD.bindsN fun _ _ _ _ _ _ us hl => match us, hl with | [_], _ => rfl) sc_all_rooms rfl rfl rfl rfl rfl (fun qual cdv A outer s H E hr => w_all_rooms (ctx hr) PassesOwn.never rfl rfl (fun _ => rfl))
    | 14, h => cases h; obtain ⟨fa, fd, FD, hm⟩ := F.f_rooms_by_alignment; exact cal_ok (ps := ["rooms"]) (N := N_rooms_by_alignment) FD hm (FD.bindsN fun _ _ _ _ _ _ us hl => match us, hl with | [_], _ => rfl) sc_rooms_by_alignment rfl rfl rfl rfl rfl (fun qual cdv A outer s H E hr => w_rooms_by_alignment (ctx hr) PassesOwn.never rfl rfl (fun _ => rfl))
    | 15, h => cases h; obtain ⟨fa, fd, FD, hm⟩ := F.f_put_rooms; exact cal_ok (ps := ["rooms", "begin"]) (N := N_put_rooms) FD hm (FD.bindsN fun _ _ _ _ _ _ us hl => match us, hl with | [_, _], _ => rfl) sc_put_rooms rfl rfl rfl rfl rfl (fun qual cdv A outer s H E hr => w_put_rooms (ctx hr) PassesOwn.never rfl rfl (fun _ => rfl))
    | 16, h => cases h; obtain ⟨fa, fd, FD, hm⟩ := F.f_whole_room; exact cal_ok (ps := ["asks"]) (N := N_whole_room) FD hm (FD.bindsN fun _ _ _ _ _ _ us hl => match us, hl with | [_], _ => rfl) sc_whole_room rfl rfl rfl rfl rfl (fun qual cdv A outer s H E hr => w_whole_room (ctx hr) PassesOwn.never rfl rfl (fun _ => rfl))
    | 17, h => cases h; obtain ⟨fa, fd, FD, hm⟩ := F.f_grown_by; exact cal_ok (ps := ["asks", "more"]) (N := N_grown_by) FD hm (FD.bindsN fun _ _ _ _ _ _ us hl => match us, hl with | [_, _], _ => rfl) sc_grown_by rfl rfl rfl rfl rfl (fun qual cdv A outer s H E hr => w_grown_by (ctx hr) PassesOwn.never rfl rfl (fun _ => rfl))
    | 18, h => cases h; obtain ⟨fa, fd, FD, hm⟩ := F.f_asked_most; exact cal_ok (ps := ["asks"]) (N := N_asked_most) FD hm (FD.bindsN fun _ _ _ _ _ _ us hl => match us, hl with | [_], _ => rfl) sc_asked_most rfl rfl rfl rfl rfl (fun qual cdv A outer s H E hr => w_asked_most (ctx hr) PassesOwn.never rfl rfl (fun _ => rfl))
    | 19, h => cases h; obtain ⟨fa, fd, FD, hm⟩ := F.f_decides; exact cal_ok (ps := ["asks", "name"]) (N := N_decides) FD hm (FD.bindsN fun _ _ _ _ _ _ us hl => match us, hl with | [_, _], _ => rfl) sc_decides rfl rfl rfl rfl rfl (fun qual cdv A outer s H E hr => w_decides (ctx hr) PassesOwn.never rfl rfl (fun _ => rfl))
    | 20, h => cases h; obtain ⟨fa, fd, FD, hm⟩ := F.f_is_number; exact cal_ok (ps := ["thing"]) (N := N_is_number) FD hm (FD.bindsN fun _ _ _ _ _ _ us hl => match us, hl with | [_], _ => rfl) sc_is_number rfl rfl rfl rfl rfl (fun qual cdv A outer s H E hr => w_is_number (ctx hr) PassesOwn.never rfl rfl (fun _ => rfl))
    | 21, h => cases h; obtain ⟨fa, fd, FD, hm⟩ := F.f__law_next; exact cal_ok (ps := ["w", "many"]) (N := N__law_next) FD hm (FD.bindsN fun _ _ _ _ _ _ us hl => match us, hl with | [_, _], _ => rfl) sc__law_next rfl rfl rfl rfl rfl (fun qual cdv A outer s H E hr => w__law_next (ctx hr) PassesOwn.never rfl rfl (fun _ => rfl))
    | 22, h => cases h; obtain ⟨fa, fd, FD, hm⟩ := F.f__law_pick; exact cal_ok (ps := ["w", "rows"]) (N := N__law_pick) FD hm (FD.bindsN fun _ _ _ _ _ _ us hl => match us, hl with | [_, _], _ => rfl) sc__law_pick rfl rfl rfl rfl rfl (fun qual cdv A outer s H E hr => w__law_pick (ctx hr) PassesOwn.never rfl rfl (fun _ => rfl))
    | 23, h => cases h; obtain ⟨fa, fd, FD, hm⟩ := F.f__law_alike; exact cal_ok (ps := ["given", "due"]) (N := N__law_alike) FD hm (FD.bindsN fun _ _ _ _ _ _ us hl => match us, hl with | [_, _], _ => rfl) sc__law_alike rfl rfl rfl rfl rfl (fun qual cdv A outer s H E hr => w__law_alike (ctx hr) PassesOwn.never rfl rfl (fun _ => rfl))
    | 24, h => cases h; obtain ⟨fa, fd, FD, hm⟩ := F.f__law_room; exact cal_ok (ps := ["asks", "name"]) (N := N__law_room) FD hm (FD.bindsN fun _ _ _ _ _ _ us hl => match us, hl with | [_, _], _ => rfl) sc__law_room rfl rfl rfl rfl rfl (fun qual cdv A outer s H E hr => w__law_room (ctx hr) PassesOwn.never rfl rfl (fun _ => rfl))
    | 25, h => cases h; obtain ⟨fa, fd, FD, hm⟩ := F.f__law_asks; exact cal_ok (ps := ["w", "many"]) (N := N__law_asks) FD hm (FD.bindsN fun _ _ _ _ _ _ us hl => match us, hl with | [_, _], _ => rfl) sc__law_asks rfl rfl rfl rfl rfl (fun qual cdv A outer s H E hr => w__law_asks (ctx hr) PassesOwn.never rfl rfl (fun _ => rfl))
    | _ + 26, h => simp [T] at h
theorem dr_ok (F : Facts K mg) (n : Nat) : Cal P w K mg base (n + 1) "_law_draws" (spDr K) := by
  obtain ⟨fa, fd, FD, hm⟩ := F.f__law_draws
  refine ⟨fa, fd, ["script", "many"], FD.ok sc__law_draws (fun vs H Q E h => ?_) (fun cdv A outer s H vs Q E hr h => ⟨_, PSs.nox (w__law_draws (n := n) ⟨rfl, hr, F.free, lev F n, F.gstr, F.gtup⟩ PassesOwn.never rfl rfl (fun _ => rfl)), draws_run rfl h⟩), hm, FD.kp, FD.bindsN fun _ _ _ _ _ _ us hl => match us, hl with | [_, _], _ => rfl⟩
  obtain ⟨a, ns, many, rfl, _⟩ := h
  rfl
def cs : List (Str × Int) := [("at", 0)]
/-- what is left to prove -/
def Plain (n : Nat) : Prop := ∀ ms : List Int, ms.length = 400 → (∀ z, z ∈ ms → 0 ≤ z ∧ z < 997) → ∃ w ρ', dictOf (wD ms "draws" cs) = some w ∧ runs (phi tbl gls n) gls [] b_law (ρ0 23 w) = some (.rt (.bool true) ρ')
theorem law_ok (F : Facts K mg) {n : Nat} (plain : Plain (n + 1)) {fa : Addr} {fd : FuncData} (FD : FunD K "law" "law" (defArgs (top 32)) (defBody (top 32)) (defScope (top 32)) [] [] fa fd) : FnOk P w K mg base L2.CX0 (n + 2) fa fd ["script"] (spLaw K) := by
  refine FD.ok sc_law (fun vs H Q E h => ?_) (fun cdv A outer s H vs Q E hr h => ?_)
  · obtain ⟨a, ns, rfl, _⟩ := h
    rfl
  · have C : Ctx tbl gls gn T bn (n + 1) ((cxOf L2.CX0 P w K mg base N_law "law" (defScope (top 32)) fa cdv A outer s H E).nox) := ⟨rfl, hr, F.free, lev F (n + 1), F.gstr, F.gtup⟩
    have h2 := w_law C PassesOwn.never rfl rfl (fun _ => rfl)
    have nd : N_law.Nodup := by decide +kernel
    have l1 : (defScope (top 32)).names.lookup (Str.ofString "w") = some .local := look_of rfl (by kernel_rfl)
    have h1 : PS ((cxOf L2.CX0 P w K mg base N_law "law" (defScope (top 32)) fa cdv A outer s H E).nox) ((defBody (top 32)).head!) (tAsg (tDisp (tW K 400 "draws" cs)) (gName 1)) :=
      ps_set (x := "w") nd rfl (.inl l1) (pe_disp (pps_cons pe_str (pe_cal (dr_ok F n) hr (look_of rfl (by kernel_rfl)) (pa_cons (pe_var (i := 0) rfl (vis_of rfl (by kernel_rfl))) (pa_cons pe_int pa_nil))) (pps_cons pe_str pe_int pps_nil)) rfl rfl (by simp) (by decide)) rfl (.inr l1)
    obtain ⟨t, ht, hq⟩ := law_body (m := 23) (by decide) (by decide) rfl h1 h2 plain
    exact ⟨t, PSs.nox ht, hq vs H Q E h⟩
end
theorem ends {P : Program} {w : World} {K : PySem.W.Frag} {h : Heap} {mg : Str → Option Value} {f : Addr} (plain : Plain 199) (KX : K.In h) (G : h.Ns mainGlobals mg) (hfa : mg ("law" : Str) = some (.ref f)) (ct : (tl.all fun t => He.tupB K t.1 t.2) = true) (c : He.SaysD fa fn K) :
    ∃ fd : FuncData, (∀ (s : Shared) (v : Value), BindsTo s fd ⟨[v], []⟩ [("script", v)]) ∧ ∀ base : Heap, K.In base → base.Ns mainGlobals mg → FnOk P w K mg base L2.CX0 200 f fd ["script"] (spLaw K) := by
  have F := facts KX G ct c
  obtain ⟨fd, FD⟩ := c.def_ 26 (d := d_law) rfl
  have e := hfa.symm.trans (He.glo_ok KX G (c.fact 26 (f := .glo "law") rfl))
  cases e
  have b := FunD.bindsA (ps := ["script"]) FD fun _ _ _ _ _ _ us hl => match us, hl with | [_], _ => rfl
  exact ⟨fd, fun s v => b s [v] rfl, fun base _ _ => law_ok (n := 198) F plain FD⟩
end LW

namespace LW
open PySem PySem.Spec PyProof.Rows L2 PP
/-! asks -/
abbrev Ask := Str × Int × Int × Bool
def encA (a : Ask) : PyData := .tuple [.str a.1, .int a.2.1, .int a.2.2.1, .bool a.2.2.2]
def encAs (as : List Ask) : PyData := .tuple (as.map encA)
def encN (xs : List Str) : PyData := .tuple (xs.map .str)
def encI (xs : List Int) : PyData := .tuple (xs.map .int)
def isAl (p : Int) : Prop := p = 1 ∨ p = 2 ∨ p = 4 ∨ p = 8
def nm3 : List Str := [Str.ofString "a", Str.ofString "b", Str.ofString "c"]
def okAs (as : List Ask) : Prop := as.length ≤ 20 ∧ ∀ a, a ∈ as → a.1 ∈ nm3 ∧ (1 ≤ a.2.1 ∧ a.2.1 ≤ 20) ∧ isAl a.2.2.1
@[simp] theorem imm_A (a : Ask) : immD (encA a) = true := by simp [encA]
@[simp] theorem immAll_A (as : List Ask) : immAll (as.map encA) = true := by induction as <;> simp [*]
@[simp] theorem imm_As (as : List Ask) : immD (encAs as) = true := by simp [encAs]
@[simp] theorem imm_N (xs : List Str) : immD (encN xs) = true := by simp [encN]
@[simp] theorem imm_I (xs : List Int) : immD (encI xs) = true := by simp [encI]
@[simp] theorem items_As (as : List Ask) : itemsD (encAs as) = some (as.map encA) := id rfl
@[simp] theorem items_N (xs : List Str) : itemsD (encN xs) = some (xs.map .str) := id rfl
theorem len_As (as : List Ask) : v_len [encAs as] = some (.int as.length, .sh) := by simp [encAs]
theorem tup_N (xs : List Str) : PyData.tuple (xs.map .str) = encN xs := rfl
theorem tup_I (xs : List Int) : PyData.tuple (xs.map .int) = encI xs := rfl
theorem tup_As (as : List Ask) : PyData.tuple (as.map encA) = encAs as := rfl
@[simp] theorem A_0 (a : Ask) : ixV (encA a) (.int 0) = some (.str a.1) := by simp [encA]
@[simp] theorem A_1 (a : Ask) : ixV (encA a) (.int 1) = some (.int a.2.1) := by simp [encA]
@[simp] theorem A_2 (a : Ask) : ixV (encA a) (.int 2) = some (.int a.2.2.1) := by simp [encA]
@[simp] theorem A_3 (a : Ask) : ixV (encA a) (.int 3) = some (.bool a.2.2.2) := by simp [encA]
theorem ix_As {as : List Ask} {k : Nat} {a : Ask} (h : as[k]? = some a) : ixV (encAs as) (.int (k : Nat)) = some (encA a) := by
  rw [encAs, ixV_t]
  exact atI_nat (by simp [h])
theorem isAl_pos {p : Int} (h : isAl p) : 0 < p := by rcases h with rfl | rfl | rfl | rfl <;> decide
def upto (a p : Int) : Int := a + (p - a % p) % p
theorem upto_eq {a p : Int} (h : isAl p) : (a + p - 1) / p * p = upto a p := by
  unfold upto
  rcases h with rfl | rfl | rfl | rfl <;> omega
theorem phi_up_to (n : Nat) (a p : Int) (hp : isAl p) : phi tbl gls (n+1) F_up_to [.int a, .int p] = some (.int (upto a p), []) := by
  have := isAl_pos hp
  rw [phi_eq (D := D_up_to) (ρ := [.fz (.int a), .fz (.int p)]) rfl rfl rfl]
  show (runs _ _ _ b_up_to _).bind _ = _
  unfold b_up_to
  simp [als, alsO, alsI, alss, mods, modsO, modsI, modss, D_up_to, this, upto]
theorem phi_is_number (n : Nat) (d : PyData) : phi tbl gls (n+1) F_is_number [d] = some (.bool (match d with | .int _ => true | _ => false), []) := by
  rw [phi_eq (D := D_is_number) (ρ := [.fz d]) rfl rfl rfl]
  show (runs _ _ _ b_is_number _).bind _ = _
  unfold b_is_number
  cases d <;> simp [als, alsO, alsI, alss, mods, modsO, modsI, modss, isT, D_is_number]
theorem phi_is_from (n : Nat) (d : PyData) (l : Int) : phi tbl gls (n+2) F_is_from [d, .int l] = some (.bool (match d with | .int i => decide (l ≤ i) | _ => false), []) := by
  have h := phi_is_number n d
  rw [phi_eq (D := D_is_from) (ρ := [.fz (d), .fz (.int l)]) rfl rfl rfl]
  show (runs _ _ _ b_is_from _).bind _ = _
  unfold b_is_from
  cases d <;> simp [als, alsO, alsI, alss, mods, modsO, modsI, modss, h, D_is_from] at h ⊢ <;> simp [h]
def isT4 : PyData → Bool
  | .tuple [_, _, _, _] => true
  | _ => false
theorem phi_is_tuple_of (n : Nat) (d : PyData) : phi tbl gls (n+1) F_is_tuple_of [d, .int 4] = some (.bool (isT4 d), []) := by
  rw [phi_eq (D := D_is_tuple_of) (ρ := [.fz (d), .fz (.int 4)]) rfl rfl rfl]
  show (runs _ _ _ b_is_tuple_of _).bind _ = _
  unfold b_is_tuple_of
  cases d with
  | tuple xs =>
    match xs with
    | [] => simp [als, alsO, alsI, alss, mods, modsO, modsI, modss, isT, D_is_tuple_of, isT4]
    | [_] => simp [als, alsO, alsI, alss, mods, modsO, modsI, modss, isT, D_is_tuple_of, isT4]
    | [_, _] => simp [als, alsO, alsI, alss, mods, modsO, modsI, modss, isT, D_is_tuple_of, isT4]
    | [_, _, _] => simp [als, alsO, alsI, alss, mods, modsO, modsI, modss, isT, D_is_tuple_of, isT4]
    | [_, _, _, _] => simp [als, alsO, alsI, alss, mods, modsO, modsI, modss, isT, D_is_tuple_of, isT4]
    | _ :: _ :: _ :: _ :: _ :: xs =>
      have : ¬ (((xs.length + 1 + 1 + 1 + 1 + 1 : Nat) : Int) = 4) := by omega
      simp [als, alsO, alsI, alss, mods, modsO, modsI, modss, isT, D_is_tuple_of, isT4, this]
      omega
  | _ => simp [als, alsO, alsI, alss, mods, modsO, modsI, modss, isT, D_is_tuple_of, isT4]
def isP8 (i : Int) : Bool := decide (i = 1) || decide (i = 2) || decide (i = 4) || decide (i = 8)
theorem phi_is_power_no (n : Nat) (d : PyData) (h : ∀ i, d ≠ .int i) : phi tbl gls (n+3) F_is_power [d] = some (.bool false, []) := by
  have h1 := phi_is_from n d 1
  rw [phi_eq (D := D_is_power) (ρ := [.fz (d)]) rfl rfl rfl]
  show (runs _ _ _ b_is_power _).bind _ = _
  unfold b_is_power
  cases d with
  | int i => exact absurd rfl (h i)
  | _ => simp [als, alsO, alsI, alss, mods, modsO, modsI, modss, D_is_power] at h1 ⊢; simp [h1]
theorem phi_is_power_0 (n : Nat) : phi tbl gls (n+3) F_is_power [.int 0] = some (.bool false, []) := by
  have h1 : phi tbl gls (n+2) 1 [.int 0, .int 1] = some (.bool false, []) := phi_is_from n (.int 0) 1
  rw [phi_eq (D := D_is_power) (ρ := [.fz (.int 0)]) rfl rfl rfl]
  show (runs _ _ _ b_is_power _).bind _ = _
  unfold b_is_power
  simp [als, alsO, alsI, alss, mods, modsO, modsI, modss, D_is_power, h1]
theorem phi_is_power_w (n : Nat) (i : Int) (k : Nat) (h0 : 1 ≤ i) (ht : ∀ j, j < k → decide ((iter (fun x : Int => x / 2) j i) % 2 = 0) = true) (hf : decide ((iter (fun x : Int => x / 2) k i) % 2 = 0) = false) (hk : k < 100) : phi tbl gls (n+3) F_is_power [.int i] = some (.bool (decide (iter (fun x : Int => x / 2) k i = 1)), []) := by
  have h1 : phi tbl gls (n+2) 1 [.int i, .int 1] = some (.bool true, []) := by
    have := phi_is_from n (.int i) 1
    simp only [decide_eq_true h0] at this
    exact this
  have e := whileE_iterI (Φ := phi tbl gls (n+2)) (gl := gls) (ios := []) (c := c_is_power_0) (b := b_is_power_1) (dead := []) (fun x : Int => [.fz (.int x)]) (fun x => x / 2) (fun x => decide (x % 2 = 0)) (fun _ _ => True) (fun s m _ => ⟨[.fz (.int s)], by simp [c_is_power_0, als, alsO, alsI, alss, mods, modsO, modsI, modss], fun _ => rfl, fun _ _ _ => ⟨trivial, [.fz (.int (s / 2))], by simp [b_is_power_1, als, alsO, alsI, alss, mods, modsO, modsI, modss], rfl⟩⟩) k 1000000 i [.fz (.int i)] rfl trivial ht hf (by omega)
  rw [phi_eq (D := D_is_power) (ρ := [.fz (.int i)]) rfl rfl rfl]
  show (runs _ _ _ b_is_power _).bind _ = _
  unfold b_is_power
  rw [runs_step (ρ1 := [.fz (.int i)]) (by simp [als, alsO, alsI, alss, mods, modsO, modsI, modss, h1])]
  rw [runs_step (by rw [run_whil]; exact e)]
  simp [als, alsO, alsI, alss, mods, modsO, modsI, modss, D_is_power]
theorem phi_is_power (n : Nat) (i : Int) (h : isAl i) : phi tbl gls (n+3) F_is_power [.int i] = some (.bool true, []) := by
  rcases h with rfl | rfl | rfl | rfl
  · exact phi_is_power_w n 1 0 (by decide) (by intro j hj; omega) (by decide) (by decide)
  · exact phi_is_power_w n 2 1 (by decide) (by decide) (by decide) (by decide)
  · exact phi_is_power_w n 4 2 (by decide) (by decide) (by decide) (by decide)
  · exact phi_is_power_w n 8 3 (by decide) (by decide) (by decide) (by decide)
theorem phi_is_power_3 (n : Nat) : phi tbl gls (n+3) F_is_power [.int 3] = some (.bool false, []) := phi_is_power_w n 3 0 (by decide) (by intro j hj; omega) (by decide) (by decide)
end LW

namespace LW
open PySem PySem.Spec PyProof.Rows L2 PP
def encO (o : Option Int) : PyData := match o with | none => .none | some i => .int i
@[simp] theorem encO_n : encO none = .none := id rfl
@[simp] theorem encO_s (i : Int) : encO (some i) = .int i := id rfl
@[simp] theorem imm_O (o : Option Int) : immD (encO o) = true := by cases o <;> simp
/-! names -/
def names (as : List Ask) : List Str := setS (as.map (·.1))
theorem names_mem {as : List Ask} {q : Str} : q ∈ names as ↔ ∃ a, a ∈ as ∧ a.1 = q := by
  unfold names; rw [setS_mem, List.mem_map]
theorem names_len (as : List Ask) : (names as).length ≤ as.length := by
  have := setS_len (as.map (·.1))
  unfold names
  simpa using this
theorem phi_set_of (n : Nat) (xs : List Str) (h : xs.length ≤ 100) : phi tbl gls (n+1) F_set_of [.list (xs.map .str)] = some (encN (setS xs), []) := by
  have hv := v_sortedSet_strs xs (by omega)
  rw [phi_eq (D := D_set_of) (ρ := [.fz (.list (xs.map .str))]) rfl rfl rfl]
  show (runs _ _ _ b_set_of _).bind _ = _
  unfold b_set_of
  simp [als, alsO, alsI, alss, mods, modsO, modsI, modss, D_set_of, hv, tup_N]
theorem phi_asked_names (n : Nat) (as : List Ask) (h : as.length ≤ 50) : phi tbl gls (n+2) F_asked_names [encAs as] = some (encN (names as), []) := by
  have hz : (10000 : Nat) < sizeLine := by decide
  have hs := phi_set_of n (as.map (·.1)) (by simp; omega)
  have hc := compE_f (Φ := phi tbl gls (n+1)) (gl := gls) (vs := [1]) (g := .nm 1) (e := e_asked_names_0) (ρ := [.fz (encAs as), .no]) encA (fun a => .str a.1) as [] (by simp; omega) (fun a _ => ⟨[.fz (encAs as), .fz (encA a)], .sh, by simp, by simp [e_asked_names_0], by simp⟩)
  rw [List.nil_append] at hc
  have he : as.map (fun a => PyData.str a.1) = (as.map (·.1)).map .str := by rw [List.map_map]; rfl
  rw [he] at hc
  rw [phi_eq (D := D_asked_names) (ρ := [.fz (encAs as), .no]) rfl rfl rfl]
  show (runs _ _ _ b_asked_names _).bind _ = _
  unfold b_asked_names
  simp [als, alsO, alsI, alss, mods, modsO, modsI, modss, D_asked_names, hc, hs, names, -List.map_map]
/-! rooms -/
def ownZ (as : List Ask) (nm : Str) : List (Ask × Nat) := as.zipIdx.filter fun z => decide (z.1.1 = nm)
def givZ (as : List Ask) (nm : Str) : List (Ask × Nat) := (ownZ as nm).filter fun z => z.1.2.2.2
def mxL : List Int → Int
  | [] => 0
  | x :: xs => maxI x xs
abbrev Rr := Int × Int × Option Int
def roomR (as : List Ask) (nm : Str) : Rr := match givZ as nm with
  | z :: _ => (z.1.2.1, z.1.2.2.1, some (z.2 : Int))
  | [] => (mxL ((ownZ as nm).map (·.1.2.1)), mxL ((ownZ as nm).map (·.1.2.2.1)), none)
def encR (r : Rr) : PyData := .tuple [.int r.1, .int r.2.1, encO r.2.2]
@[simp] theorem imm_R (r : Rr) : immD (encR r) = true := by simp [encR]
theorem mx_map {α : Type} (f : α → Int) (xs : List α) (hl : xs.length ≤ 50) (hne : xs ≠ []) : mmV false [.list (xs.map fun x => PyData.int (f x))] = some (.int (mxL (xs.map f)), .sh) := by
  have hz : (10000 : Nat) < sizeLine := by decide
  have he : xs.map (fun x => PyData.int (f x)) = (xs.map f).map .int := by rw [List.map_map]; rfl
  rw [he]
  cases xs with
  | nil => exact absurd rfl hne
  | cons x xs => exact max_ints (by simp at hl ⊢; omega)
theorem own_ne {as : List Ask} {nm : Str} : ownZ as nm ≠ [] ↔ nm ∈ names as := by
  rw [names_mem]
  constructor
  · intro h
    obtain ⟨z, hz⟩ := List.exists_mem_of_ne_nil _ h
    have := List.mem_filter.mp hz
    exact ⟨z.1, List.mem_of_getElem? (zipIdx_get this.1), by simpa using this.2⟩
  · rintro ⟨a, ha, rfl⟩ h
    obtain ⟨k, hk⟩ := List.mem_iff_getElem?.mp ha
    have : (a, k) ∈ ownZ as a.1 := List.mem_filter.mpr ⟨by rw [List.mem_zipIdx_iff_getElem?]; exact hk, by simp⟩
    rw [h] at this; cases this
theorem imm_ks (zs : List (Ask × Nat)) : immAll (zs.map fun z => PyData.int (z.2 : Nat)) = true := by induction zs <;> simp [*]
theorem phi_room_for (n : Nat) (as : List Ask) (nm : Str) (hl : as.length ≤ 50) (hne : ownZ as nm ≠ []) : phi tbl gls (n+1) F_room_for [encAs as, .str nm] = some (encR (roomR as nm), []) := by
  have hz : (10000 : Nat) < sizeLine := by decide
  have s1 : (1 : Nat) ≤ sizeLine := by decide
  have s2 : (2 : Nat) ≤ sizeLine := by decide
  have s3 : (3 : Nat) ≤ sizeLine := by decide
  have hol : (ownZ as nm).length ≤ 50 := Nat.le_trans (List.length_filter_le ..) (by simpa using hl)
  have hgl2 : (givZ as nm).length ≤ 50 := Nat.le_trans (List.length_filter_le ..) hol
  have hmem : ∀ z, z ∈ ownZ as nm → as[z.2]? = some z.1 := fun z hz => zipIdx_get (List.mem_filter.mp hz).1
  have hmg : ∀ z, z ∈ givZ as nm → as[z.2]? = some z.1 := fun z hz => hmem z (List.mem_filter.mp hz).1
  have hc1 := compE_pf (Φ := phi tbl gls n) (gl := gls) (vs := [4]) (g := .nm 4) (c := c_room_for_3) (e := .var 4) (ρ := [.fz (encAs as), .fz (.str nm), .no, .no, .no]) (fun z : Ask × Nat => .int (0 + (z.2 : Nat))) (fun z => decide (z.1.1 = nm)) (fun z => .int (z.2 : Nat)) as.zipIdx [] (by simp; omega) (fun z hz => by
    have h1 := ix_As (zipIdx_get hz)
    exact ⟨[.fz (encAs as), .fz (.str nm), .no, .no, .fz (.int (z.2 : Nat))], .sh, by simp, by simp [c_room_for_3, h1], fun _ => by simp, by simp⟩)
  rw [← iidx_zip, List.nil_append] at hc1
  change compE _ _ _ _ _ _ _ _ _ = some ((ownZ as nm).map (fun z => PyData.int (z.2 : Nat)), _) at hc1
  have hc2 := compE_pf (Φ := phi tbl gls n) (gl := gls) (vs := [4]) (g := .nm 4) (c := c_room_for_2) (e := .var 4) (ρ := [.fz (encAs as), .fz (.str nm), .ow (.list ((ownZ as nm).map fun z => PyData.int (z.2 : Nat))), .no, .no]) (fun z : Ask × Nat => .int (z.2 : Nat)) (fun z => z.1.2.2.2) (fun z => .int (z.2 : Nat)) (ownZ as nm) [] (by simp; omega) (fun z hz => by
    have h1 := ix_As (hmem z hz)
    exact ⟨[.fz (encAs as), .fz (.str nm), .ow (.list ((ownZ as nm).map fun z => PyData.int (z.2 : Nat))), .no, .fz (.int (z.2 : Nat))], .sh, by simp, by simp [c_room_for_2, h1], fun _ => by simp, by simp⟩)
  rw [List.nil_append] at hc2
  change compE _ _ _ _ _ _ _ _ _ = some ((givZ as nm).map (fun z => PyData.int (z.2 : Nat)), _) at hc2
  have hle := rngD_n (n := as.length) (by omega)
  have i1 : immAll ((ownZ as nm).map fun z => PyData.int (z.2 : Nat)) = true := imm_ks _
  have i2 : immAll ((givZ as nm).map fun z => PyData.int (z.2 : Nat)) = true := imm_ks _
  rw [phi_eq (D := D_room_for) (ρ := [.fz (encAs as), .fz (.str nm), .no, .no, .no]) rfl rfl rfl]
  show (runs _ _ _ b_room_for _).bind _ = _
  unfold b_room_for
  rw [runs_step (ρ1 := [.fz (encAs as), .fz (.str nm), .ow (.list ((ownZ as nm).map fun z => PyData.int (z.2 : Nat))), .no, .no]) (by simp [als, alsO, alsI, alss, mods, modsO, modsI, modss, len_As, hle, hc1, i1, D_room_for])]
  rw [runs_step (ρ1 := [.fz (encAs as), .fz (.str nm), .ow (.list ((ownZ as nm).map fun z => PyData.int (z.2 : Nat))), .ow (.list ((givZ as nm).map fun z => PyData.int (z.2 : Nat))), .no]) (by simp [als, alsO, alsI, alss, mods, modsO, modsI, modss, hc2, i2, D_room_for])]
  have hrr : roomR as nm = match givZ as nm with | z :: _ => (z.1.2.1, z.1.2.2.1, some (z.2 : Int)) | [] => (mxL ((ownZ as nm).map (·.1.2.1)), mxL ((ownZ as nm).map (·.1.2.2.1)), none) := rfl
  cases hg : givZ as nm with
  | cons z zs =>
    rw [hg] at hrr
    have h1 := ix_As (hmg z (by rw [hg]; exact List.mem_cons_self ..))
    have hne2 : cmpV .NotEq (.list (PyData.int (z.2 : Nat) :: zs.map fun z => PyData.int (z.2 : Nat))) (.list []) = some true := rfl
    have hsl : slV (encA z.1) (some 1) (some 3) = some (.tuple [.int z.1.2.1, .int z.1.2.2.1], .sh) := rfl
    have hadd : binV .Add (.tuple [.int z.1.2.1, .int z.1.2.2.1]) (.tuple [.int (z.2 : Nat)]) = some (.tuple [.int z.1.2.1, .int z.1.2.2.1, .int (z.2 : Nat)], .sh) := by
      show (if 2 + 1 ≤ sizeLine then some (PyData.tuple _, Fl.sh) else none) = _
      rw [if_pos s3]; rfl
    rw [hrr]
    simp [als, alsO, alsI, alss, mods, modsO, modsI, modss, hne2, h1, hsl, hadd, s1, s2, s3, D_room_for, encR]
  | nil =>
    rw [hg] at hrr
    have hc3 := compE_f (Φ := phi tbl gls n) (gl := gls) (vs := [4]) (g := .nm 4) (e := e_room_for_1) (ρ := [.fz (encAs as), .fz (.str nm), .ow (.list ((ownZ as nm).map fun z => PyData.int (z.2 : Nat))), .ow (.list []), .no]) (fun z : Ask × Nat => .int (z.2 : Nat)) (fun z => .int z.1.2.1) (ownZ as nm) [] (by simp; omega) (fun z hz => by
      have h1 := ix_As (hmem z hz)
      exact ⟨[.fz (encAs as), .fz (.str nm), .ow (.list ((ownZ as nm).map fun z => PyData.int (z.2 : Nat))), .ow (.list []), .fz (.int (z.2 : Nat))], .sh, by simp, by simp [e_room_for_1, h1], by simp⟩)
    have hc4 := compE_f (Φ := phi tbl gls n) (gl := gls) (vs := [4]) (g := .nm 4) (e := e_room_for_0) (ρ := [.fz (encAs as), .fz (.str nm), .ow (.list ((ownZ as nm).map fun z => PyData.int (z.2 : Nat))), .ow (.list []), .no]) (fun z : Ask × Nat => .int (z.2 : Nat)) (fun z => .int z.1.2.2.1) (ownZ as nm) [] (by simp; omega) (fun z hz => by
      have h1 := ix_As (hmem z hz)
      exact ⟨[.fz (encAs as), .fz (.str nm), .ow (.list ((ownZ as nm).map fun z => PyData.int (z.2 : Nat))), .ow (.list []), .fz (.int (z.2 : Nat))], .sh, by simp, by simp [e_room_for_0, h1], by simp⟩)
    have m1 := mx_map (fun z : Ask × Nat => z.1.2.1) (ownZ as nm) hol hne
    have m2 := mx_map (fun z : Ask × Nat => z.1.2.2.1) (ownZ as nm) hol hne
    have hne2 : cmpV .NotEq (.list []) (.list []) = some false := rfl
    rw [List.nil_append] at hc3 hc4
    rw [hrr]
    simp [als, alsO, alsI, alss, mods, modsO, modsI, modss, hne2, hc3, hc4, m1, m2, s1, s2, s3, D_room_for, encR]
theorem phi__law_room (n : Nat) (as : List Ask) (nm : Str) (hl : as.length ≤ 50) (hne : ownZ as nm ≠ []) : phi tbl gls (n+1) F__law_room [encAs as, .str nm] = some (encR (roomR as nm), []) := by
  have hz : (10000 : Nat) < sizeLine := by decide
  have s1 : (1 : Nat) ≤ sizeLine := by decide
  have s2 : (2 : Nat) ≤ sizeLine := by decide
  have s3 : (3 : Nat) ≤ sizeLine := by decide
  have hol : (ownZ as nm).length ≤ 50 := Nat.le_trans (List.length_filter_le ..) (by simpa using hl)
  have hgl2 : (givZ as nm).length ≤ 50 := Nat.le_trans (List.length_filter_le ..) hol
  have hmem : ∀ z, z ∈ ownZ as nm → as[z.2]? = some z.1 := fun z hz => zipIdx_get (List.mem_filter.mp hz).1
  have hmg : ∀ z, z ∈ givZ as nm → as[z.2]? = some z.1 := fun z hz => hmem z (List.mem_filter.mp hz).1
  have hc1 := compE_pf (Φ := phi tbl gls n) (gl := gls) (vs := [4]) (g := .nm 4) (c := c__law_room_3) (e := .var 4) (ρ := [.fz (encAs as), .fz (.str nm), .no, .no, .no]) (fun z : Ask × Nat => .int (0 + (z.2 : Nat))) (fun z => decide (z.1.1 = nm)) (fun z => .int (z.2 : Nat)) as.zipIdx [] (by simp; omega) (fun z hz => by
    have h1 := ix_As (zipIdx_get hz)
    exact ⟨[.fz (encAs as), .fz (.str nm), .no, .no, .fz (.int (z.2 : Nat))], .sh, by simp, by simp [c__law_room_3, h1], fun _ => by simp, by simp⟩)
  rw [← iidx_zip, List.nil_append] at hc1
  change compE _ _ _ _ _ _ _ _ _ = some ((ownZ as nm).map (fun z => PyData.int (z.2 : Nat)), _) at hc1
  have hc2 := compE_pf (Φ := phi tbl gls n) (gl := gls) (vs := [4]) (g := .nm 4) (c := c__law_room_2) (e := .var 4) (ρ := [.fz (encAs as), .fz (.str nm), .ow (.list ((ownZ as nm).map fun z => PyData.int (z.2 : Nat))), .no, .no]) (fun z : Ask × Nat => .int (z.2 : Nat)) (fun z => z.1.2.2.2) (fun z => .int (z.2 : Nat)) (ownZ as nm) [] (by simp; omega) (fun z hz => by
    have h1 := ix_As (hmem z hz)
    exact ⟨[.fz (encAs as), .fz (.str nm), .ow (.list ((ownZ as nm).map fun z => PyData.int (z.2 : Nat))), .no, .fz (.int (z.2 : Nat))], .sh, by simp, by simp [c__law_room_2, h1], fun _ => by simp, by simp⟩)
  rw [List.nil_append] at hc2
  change compE _ _ _ _ _ _ _ _ _ = some ((givZ as nm).map (fun z => PyData.int (z.2 : Nat)), _) at hc2
  have hle := rngD_n (n := as.length) (by omega)
  have i1 : immAll ((ownZ as nm).map fun z => PyData.int (z.2 : Nat)) = true := imm_ks _
  have i2 : immAll ((givZ as nm).map fun z => PyData.int (z.2 : Nat)) = true := imm_ks _
  rw [phi_eq (D := D__law_room) (ρ := [.fz (encAs as), .fz (.str nm), .no, .no, .no]) rfl rfl rfl]
  show (runs _ _ _ b__law_room _).bind _ = _
  unfold b__law_room
  rw [runs_step (ρ1 := [.fz (encAs as), .fz (.str nm), .ow (.list ((ownZ as nm).map fun z => PyData.int (z.2 : Nat))), .no, .no]) (by simp [als, alsO, alsI, alss, mods, modsO, modsI, modss, len_As, hle, hc1, i1, D__law_room])]
  rw [runs_step (ρ1 := [.fz (encAs as), .fz (.str nm), .ow (.list ((ownZ as nm).map fun z => PyData.int (z.2 : Nat))), .ow (.list ((givZ as nm).map fun z => PyData.int (z.2 : Nat))), .no]) (by simp [als, alsO, alsI, alss, mods, modsO, modsI, modss, hc2, i2, D__law_room])]
  have hrr : roomR as nm = match givZ as nm with | z :: _ => (z.1.2.1, z.1.2.2.1, some (z.2 : Int)) | [] => (mxL ((ownZ as nm).map (·.1.2.1)), mxL ((ownZ as nm).map (·.1.2.2.1)), none) := rfl
  cases hg : givZ as nm with
  | cons z zs =>
    rw [hg] at hrr
    have h1 := ix_As (hmg z (by rw [hg]; exact List.mem_cons_self ..))
    have hne2 : cmpV .NotEq (.list (PyData.int (z.2 : Nat) :: zs.map fun z => PyData.int (z.2 : Nat))) (.list []) = some true := rfl
    have hsl : slV (encA z.1) (some 1) (some 3) = some (.tuple [.int z.1.2.1, .int z.1.2.2.1], .sh) := rfl
    have hadd : binV .Add (.tuple [.int z.1.2.1, .int z.1.2.2.1]) (.tuple [.int (z.2 : Nat)]) = some (.tuple [.int z.1.2.1, .int z.1.2.2.1, .int (z.2 : Nat)], .sh) := by
      show (if 2 + 1 ≤ sizeLine then some (PyData.tuple _, Fl.sh) else none) = _
      rw [if_pos s3]; rfl
    rw [hrr]
    simp [als, alsO, alsI, alss, mods, modsO, modsI, modss, hne2, h1, hsl, hadd, s1, s2, s3, D__law_room, encR]
  | nil =>
    rw [hg] at hrr
    have hc3 := compE_f (Φ := phi tbl gls n) (gl := gls) (vs := [4]) (g := .nm 4) (e := e__law_room_1) (ρ := [.fz (encAs as), .fz (.str nm), .ow (.list ((ownZ as nm).map fun z => PyData.int (z.2 : Nat))), .ow (.list []), .no]) (fun z : Ask × Nat => .int (z.2 : Nat)) (fun z => .int z.1.2.1) (ownZ as nm) [] (by simp; omega) (fun z hz => by
      have h1 := ix_As (hmem z hz)
      exact ⟨[.fz (encAs as), .fz (.str nm), .ow (.list ((ownZ as nm).map fun z => PyData.int (z.2 : Nat))), .ow (.list []), .fz (.int (z.2 : Nat))], .sh, by simp, by simp [e__law_room_1, h1], by simp⟩)
    have hc4 := compE_f (Φ := phi tbl gls n) (gl := gls) (vs := [4]) (g := .nm 4) (e := e__law_room_0) (ρ := [.fz (encAs as), .fz (.str nm), .ow (.list ((ownZ as nm).map fun z => PyData.int (z.2 : Nat))), .ow (.list []), .no]) (fun z : Ask × Nat => .int (z.2 : Nat)) (fun z => .int z.1.2.2.1) (ownZ as nm) [] (by simp; omega) (fun z hz => by
      have h1 := ix_As (hmem z hz)
      exact ⟨[.fz (encAs as), .fz (.str nm), .ow (.list ((ownZ as nm).map fun z => PyData.int (z.2 : Nat))), .ow (.list []), .fz (.int (z.2 : Nat))], .sh, by simp, by simp [e__law_room_0, h1], by simp⟩)
    have m1 := mx_map (fun z : Ask × Nat => z.1.2.1) (ownZ as nm) hol hne
    have m2 := mx_map (fun z : Ask × Nat => z.1.2.2.1) (ownZ as nm) hol hne
    have hne2 : cmpV .NotEq (.list []) (.list []) = some false := rfl
    rw [List.nil_append] at hc3 hc4
    rw [hrr]
    simp [als, alsO, alsI, alss, mods, modsO, modsI, modss, hne2, hc3, hc4, m1, m2, s1, s2, s3, D__law_room, encR]
end LW

namespace LW
open PySem PySem.Spec PyProof.Rows L2 PP
/-! given twice, too small -/
def cntB (as : List Ask) (nm : Str) : Nat := (as.filter fun a => decide (a.1 = nm) && a.2.2.2).length
def twB (as : List Ask) (nm : Str) : Bool := decide (1 < cntB as nm)
def twL (as : List Ask) : List Str := (names as).filter (twB as)
theorem ones_len {α : Type} (xs : List α) : v_len [.list (xs.map fun _ => PyData.int 1)] = some (.int (xs.length : Nat), .sh) := by simp
theorem phi_rooms_given_twice (n : Nat) (as : List Ask) (hl : as.length ≤ 50) : phi tbl gls (n+3) F_rooms_given_twice [encAs as] = some (encN (twL as), []) := by
  have hz : (10000 : Nat) < sizeLine := by decide
  have s0 : (0 : Nat) ≤ sizeLine := by decide
  have hn : phi tbl gls (n+2) 9 [encAs as] = _ := phi_asked_names n as hl
  have hnl := names_len as
  have e := forE_foldN (Φ := phi tbl gls (n+2)) (gl := gls) (ios := []) (g := .nm 2) (b := b_rooms_given_twice_1) (dead := [2]) (fun s : List Str => [.fz (encAs as), .ow (.list (s.map .str)), .no, .no]) PyData.str (fun s x => if twB as x = true then s ++ [x] else s) (fun s m => s.length + m ≤ 100) (names as) [] [.fz (encAs as), .ow (.list []), .no, .no] rfl (by simp; omega) (fun s x m hx hi => by
    have hsl : (s.map PyData.str).length < sizeLine := by rw [List.length_map]; omega
    have hc := compE_pf (Φ := phi tbl gls (n+2)) (gl := gls) (vs := [3]) (g := .nm 3) (c := c_rooms_given_twice_0) (e := .int 1) (ρ := [.fz (encAs as), .ow (.list (s.map .str)), .fz (.str x), .no]) encA (fun a => decide (a.1 = x) && a.2.2.2) (fun _ => .int 1) as [] (by simp; omega) (fun a _ => ⟨[.fz (encAs as), .ow (.list (s.map .str)), .fz (.str x), .fz (encA a)], .sh, by simp, by by_cases h : a.1 = x <;> simp [c_rooms_given_twice_0, h], fun _ => by simp, by simp⟩)
    rw [List.nil_append] at hc
    have ho := ones_len (as.filter fun a => decide (a.1 = x) && a.2.2.2)
    change v_len _ = some (.int (cntB as x : Nat), .sh) at ho
    by_cases h : 1 < cntB as x
    · have h2 : (1 : Int) < (cntB as x : Nat) := by omega
      exact ⟨by simp [b_rooms_given_twice_1, als, alsO, alsI, alss, mods, modsO, modsI, modss, hc, ho, h2, twB, h, hsl, -List.length_map], by simp [twB, h]; omega⟩
    · have h2 : ¬ (1 : Int) < (cntB as x : Nat) := by omega
      exact ⟨by simp [b_rooms_given_twice_1, als, alsO, alsI, alss, mods, modsO, modsI, modss, hc, ho, h2, twB, h, -List.length_map], by simp [twB, h]; omega⟩)
  have hf := fold_filter (twB as) (fun x : Str => x) (names as) []
  rw [hf, List.nil_append, List.map_id'] at e
  rw [phi_eq (D := D_rooms_given_twice) (ρ := [.fz (encAs as), .no, .no, .no]) rfl rfl rfl]
  show (runs _ _ _ b_rooms_given_twice _).bind _ = _
  unfold b_rooms_given_twice
  rw [runs_step (by simp [als, alsO, alsI, alss, mods, modsO, modsI, modss, s0, D_rooms_given_twice]; try rfl)]
  rw [runs_step (by
    rw [run_for, evIt_eq]
    simp [als, alsO, alsI, alss, mods, modsO, modsI, modss, hn, D_rooms_given_twice]
    exact e)]
  simp [als, alsO, alsI, alss, mods, modsO, modsI, modss, D_rooms_given_twice, tup_N, twL]
def smB (as : List Ask) (z : Ask × Nat) : Bool := (roomR as z.1.1).2.2.isSome && (decide ((roomR as z.1.1).1 < z.1.2.1) || decide ((roomR as z.1.1).2.1 < z.1.2.2.1))
def smL (as : List Ask) : List Int := (as.zipIdx.filter (smB as)).map fun z => (z.2 : Int)
theorem own_mem {as : List Ask} {a : Ask} (h : a ∈ as) : ownZ as a.1 ≠ [] := own_ne.mpr (names_mem.mpr ⟨a, h, rfl⟩)
theorem phi_too_small (n : Nat) (as : List Ask) (hl : as.length ≤ 50) : phi tbl gls (n+2) F_too_small [encAs as] = some (encI (smL as), []) := by
  have hz : (10000 : Nat) < sizeLine := by decide
  have s0 : (0 : Nat) ≤ sizeLine := by decide
  have e := forE_idx (Φ := phi tbl gls (n+1)) (gl := gls) (ios := []) (g := .nm 2) (b := b_too_small_0) (dead := [2, 3, 4, 5]) (fun s : List Int => [.fz (encAs as), .ow (.list (s.map .int)), .no, .no, .no, .no]) (fun s a k => if smB as (a, k) = true then s ++ [(k : Int)] else s) (fun s m => s.length + m ≤ 100) as [] [.fz (encAs as), .ow (.list []), .no, .no, .no, .no] rfl (by simp; omega) (fun s a k m ha hi => by
    have hsl : s.length < sizeLine := by omega
    have h1 := ix_As ha
    have h2 : phi tbl gls (n+1) 10 [encAs as, .str a.1] = _ := phi_room_for n as a.1 hl (own_mem (List.mem_of_getElem? ha))
    have hsm : smB as (a, k) = ((roomR as a.1).2.2.isSome && (decide ((roomR as a.1).1 < a.2.1) || decide ((roomR as a.1).2.1 < a.2.2.1))) := rfl
    rw [hsm]
    generalize roomR as a.1 = r at h2 ⊢
    obtain ⟨sz, al, o⟩ := r
    cases o with
    | none => exact ⟨by simp [b_too_small_0, als, alsO, alsI, alss, mods, modsO, modsI, modss, h1, h2, encR], by simp; omega⟩
    | some p =>
      by_cases c1 : sz < a.2.1
      · exact ⟨by simp [b_too_small_0, als, alsO, alsI, alss, mods, modsO, modsI, modss, h1, h2, encR, c1, hsl], by simp [c1]; omega⟩
      · by_cases c2 : al < a.2.2.1
        · exact ⟨by simp [b_too_small_0, als, alsO, alsI, alss, mods, modsO, modsI, modss, h1, h2, encR, c1, c2, hsl], by simp [c2]; omega⟩
        · exact ⟨by simp [b_too_small_0, als, alsO, alsI, alss, mods, modsO, modsI, modss, h1, h2, encR, c1, c2], by simp [c1, c2]; omega⟩)
  have hf := fold_filter (smB as) (fun z : Ask × Nat => (z.2 : Int)) as.zipIdx []
  rw [hf, List.nil_append] at e
  have hr := rngD_n (n := as.length) (by omega)
  rw [phi_eq (D := D_too_small) (ρ := [.fz (encAs as), .no, .no, .no, .no, .no]) rfl rfl rfl]
  show (runs _ _ _ b_too_small _).bind _ = _
  unfold b_too_small
  rw [runs_step (by simp [als, alsO, alsI, alss, mods, modsO, modsI, modss, s0, D_too_small]; try rfl)]
  rw [runs_step (by
    rw [run_for, evIt_eq]
    simp [als, alsO, alsI, alss, mods, modsO, modsI, modss, len_As, hr, D_too_small]
    exact e)]
  simp [als, alsO, alsI, alss, mods, modsO, modsI, modss, D_too_small, tup_I, smL, -List.map_map]
/-! all rooms -/
abbrev Rm := Str × Int × Int
def encRm (r : Rm) : PyData := .tuple [.str r.1, .int r.2.1, .int r.2.2]
def encRs (rs : List Rm) : PyData := .tuple (rs.map encRm)
def freeB (as : List Ask) (nm : Str) : Bool := (roomR as nm).2.2.isNone
def rmOf (as : List Ask) (nm : Str) : Rm := (nm, (roomR as nm).1, (roomR as nm).2.1)
def rmsL (as : List Ask) : List Rm := ((names as).filter (freeB as)).map (rmOf as)
def allV (as : List Ask) : PyData := if twL as = [] then .tuple [.str (Str.ofString "yes"), encRs (rmsL as)] else .tuple [.str (Str.ofString "no"), encN (twL as)]
@[simp] theorem imm_Rm (a : Rm) : immD (encRm a) = true := by simp [encRm]
@[simp] theorem immAll_Rm (as : List Rm) : immAll (as.map encRm) = true := by induction as <;> simp [*]
@[simp] theorem imm_Rs (as : List Rm) : immD (encRs as) = true := by simp [encRs]
@[simp] theorem items_Rs (as : List Rm) : itemsD (encRs as) = some (as.map encRm) := id rfl
theorem tup_Rs (xs : List Rm) : PyData.tuple (xs.map encRm) = encRs xs := rfl
theorem ne_N (xs : List Str) : cmpV .NotEq (encN xs) (.tuple []) = some (!xs.isEmpty) := by
  rw [encN, cmpV_neT (by rw [okD_tuple]; exact okN_strs 39 xs) (by simp)]
  cases xs <;> rfl
theorem phi_all_rooms (n : Nat) (as : List Ask) (hl : as.length ≤ 50) : phi tbl gls (n+4) F_all_rooms [encAs as] = some (allV as, []) := by
  have hz : (10000 : Nat) < sizeLine := by decide
  have s0 : (0 : Nat) ≤ sizeLine := by decide
  have s1 : (1 : Nat) ≤ sizeLine := by decide
  have s2 : (2 : Nat) ≤ sizeLine := by decide
  have s4 : (4 : Nat) ≤ sizeLine := by decide
  have hnl := names_len as
  have ht : phi tbl gls (n+3) 11 [encAs as] = _ := phi_rooms_given_twice n as hl
  have hn : phi tbl gls (n+3) 9 [encAs as] = _ := phi_asked_names (n+1) as hl
  have hne := ne_N (twL as)
  have hc1 := compE_f (Φ := phi tbl gls (n+3)) (gl := gls) (vs := [2]) (g := .nm 2) (e := e_all_rooms_2) (ρ := [.fz (encAs as), .no, .no, .no]) PyData.str (fun nm => .tuple [.str nm, .int (roomR as nm).1, .int (roomR as nm).2.1, encO (roomR as nm).2.2]) (names as) [] (by simp; omega) (fun nm hnm => by
    have h2 : phi tbl gls (n+3) 10 [encAs as, .str nm] = _ := phi_room_for (n+2) as nm hl (own_ne.mpr hnm)
    exact ⟨[.fz (encAs as), .no, .fz (.str nm), .no], .sh, by simp, by simp [e_all_rooms_2, h2, encR, s1, s4], by simp⟩)
  rw [List.nil_append] at hc1
  generalize hL : (names as).map (fun nm => PyData.tuple [.str nm, .int (roomR as nm).1, .int (roomR as nm).2.1, encO (roomR as nm).2.2]) = L at hc1
  have hiL : immAll L = true := by
    rw [← hL]
    have : ∀ xs : List Str, immAll (xs.map fun nm => PyData.tuple [.str nm, .int (roomR as nm).1, .int (roomR as nm).2.1, encO (roomR as nm).2.2]) = true := fun xs => by induction xs <;> simp [*]
    exact this _
  have hc2 := compE_pf (Φ := phi tbl gls (n+3)) (gl := gls) (vs := [3]) (g := .nm 3) (c := c_all_rooms_0) (e := e_all_rooms_1) (ρ := [.fz (encAs as), .ow (.list L), .no, .no]) (fun nm : Str => .tuple [.str nm, .int (roomR as nm).1, .int (roomR as nm).2.1, encO (roomR as nm).2.2]) (freeB as) (fun nm => encRm (rmOf as nm)) (names as) [] (by simp; omega) (fun nm hnm => by
    have hsl : ∀ a b c d : PyData, slV (.tuple [a, b, c, d]) none (some 3) = some (.tuple [a, b, c], .sh) := fun _ _ _ _ => rfl
    refine ⟨[.fz (encAs as), .ow (.list L), .no, .fz (.tuple [.str nm, .int (roomR as nm).1, .int (roomR as nm).2.1, encO (roomR as nm).2.2])], .sh, by simp, ?_, fun _ => by simp [e_all_rooms_1, hsl, encRm, rmOf], by simp⟩
    unfold freeB
    cases (roomR as nm).2.2 <;> simp [c_all_rooms_0])
  have he : ((names as).filter (freeB as)).map (fun nm => encRm (rmOf as nm)) = (rmsL as).map encRm := by unfold rmsL; rw [List.map_map]; rfl
  rw [List.nil_append, hL, he] at hc2
  rw [phi_eq (D := D_all_rooms) (ρ := [.fz (encAs as), .no, .no, .no]) rfl rfl rfl]
  show (runs _ _ _ b_all_rooms _).bind _ = _
  unfold b_all_rooms
  by_cases h : twL as = []
  · rw [h] at hne ht
    simp only [List.isEmpty_nil, Bool.not_true] at hne
    simp [als, alsO, alsI, alss, mods, modsO, modsI, modss, D_all_rooms, ht, hne, hn, hc1, hiL, hc2, allV, h, tup_Rs, s0, s2]
  · have : (twL as).isEmpty = false := by cases hx : twL as <;> simp_all
    rw [this] at hne
    simp [als, alsO, alsI, alss, mods, modsO, modsI, modss, D_all_rooms, ht, hne, allV, h, s0, s2]
end LW

namespace LW
open PySem PySem.Spec PyProof.Rows L2 PP
/-! sums, growth, most -/
def wholeI (as : List Ask) : Int := ((names as).map fun nm => (roomR as nm).1).sum
theorem phi_whole_room (n : Nat) (as : List Ask) (hl : as.length ≤ 50) : phi tbl gls (n+3) F_whole_room [encAs as] = some (.int (wholeI as), []) := by
  have hz : (10000 : Nat) < sizeLine := by decide
  have hnl := names_len as
  have hn : phi tbl gls (n+2) 9 [encAs as] = _ := phi_asked_names n as hl
  have hc := compE_f (Φ := phi tbl gls (n+2)) (gl := gls) (vs := [1]) (g := .nm 1) (e := e_whole_room_0) (ρ := [.fz (encAs as), .no]) PyData.str (fun nm => .int (roomR as nm).1) (names as) [] (by simp; omega) (fun nm hnm => by
    have h2 : phi tbl gls (n+2) 10 [encAs as, .str nm] = _ := phi_room_for (n+1) as nm hl (own_ne.mpr hnm)
    exact ⟨[.fz (encAs as), .fz (.str nm)], .sh, by simp, by simp [e_whole_room_0, h2, encR], by simp⟩)
  have he : (names as).map (fun nm => PyData.int (roomR as nm).1) = ((names as).map fun nm => (roomR as nm).1).map .int := by rw [List.map_map]; rfl
  rw [List.nil_append, he] at hc
  have hv := v_sum_m ((names as).map fun nm => (roomR as nm).1)
  rw [phi_eq (D := D_whole_room) (ρ := [.fz (encAs as), .no]) rfl rfl rfl]
  show (runs _ _ _ b_whole_room _).bind _ = _
  unfold b_whole_room
  simp [als, alsO, alsI, alss, mods, modsO, modsI, modss, D_whole_room, hn, hc, hv, wholeI, -List.map_map]
def growB (as ms : List Ask) (nm : Str) : Bool := decide ((roomR as nm).1 < (roomR (as ++ ms) nm).1) || decide ((roomR as nm).2.1 < (roomR (as ++ ms) nm).2.1)
def growL (as ms : List Ask) : List Str := (names as).filter (growB as ms)
theorem add_As (as ms : List Ask) (h : as.length + ms.length ≤ 5000) : binV .Add (encAs as) (encAs ms) = some (encAs (as ++ ms), .sh) := by
  have hz : (10000 : Nat) < sizeLine := by decide
  rw [encAs, encAs, binV_addT, if_pos (by simp; omega), encAs, List.map_append]
theorem names_app {as ms : List Ask} {nm : Str} (h : nm ∈ names as) : nm ∈ names (as ++ ms) := by
  rw [names_mem] at h ⊢
  obtain ⟨a, ha, e⟩ := h
  exact ⟨a, List.mem_append_left _ ha, e⟩
theorem phi_grown_by (n : Nat) (as ms : List Ask) (hl : as.length + ms.length ≤ 50) : phi tbl gls (n+3) F_grown_by [encAs as, encAs ms] = some (encN (growL as ms), []) := by
  have hz : (10000 : Nat) < sizeLine := by decide
  have s0 : (0 : Nat) ≤ sizeLine := by decide
  have hn : phi tbl gls (n+2) 9 [encAs as] = _ := phi_asked_names n as (by omega)
  have hnl := names_len as
  have hadd := add_As as ms (by omega)
  have e := forE_foldN (Φ := phi tbl gls (n+2)) (gl := gls) (ios := []) (g := .nm 3) (b := b_grown_by_0) (dead := [3, 4, 5]) (fun s : List Str => [.fz (encAs as), .fz (encAs ms), .ow (.list (s.map .str)), .no, .no, .no]) PyData.str (fun s x => if growB as ms x = true then s ++ [x] else s) (fun s m => s.length + m ≤ 100) (names as) [] [.fz (encAs as), .fz (encAs ms), .ow (.list []), .no, .no, .no] rfl (by simp; omega) (fun s x m hx hi => by
    have hsl : s.length < sizeLine := by omega
    have h1 : phi tbl gls (n+2) 10 [encAs as, .str x] = _ := phi_room_for (n+1) as x (by omega) (own_ne.mpr hx)
    have h2 : phi tbl gls (n+2) 10 [encAs (as ++ ms), .str x] = _ := phi_room_for (n+1) (as ++ ms) x (by simp; omega) (own_ne.mpr (names_app hx))
    have hg : growB as ms x = (decide ((roomR as x).1 < (roomR (as ++ ms) x).1) || decide ((roomR as x).2.1 < (roomR (as ++ ms) x).2.1)) := rfl
    rw [hg]
    generalize roomR as x = r at h1 ⊢
    generalize roomR (as ++ ms) x = r2 at h2 ⊢
    by_cases c1 : r.1 < r2.1
    · exact ⟨by simp [b_grown_by_0, als, alsO, alsI, alss, mods, modsO, modsI, modss, hadd, h1, h2, encR, c1, hsl], by simp [c1]; omega⟩
    · by_cases c2 : r.2.1 < r2.2.1
      · exact ⟨by simp [b_grown_by_0, als, alsO, alsI, alss, mods, modsO, modsI, modss, hadd, h1, h2, encR, c1, c2, hsl], by simp [c2]; omega⟩
      · exact ⟨by simp [b_grown_by_0, als, alsO, alsI, alss, mods, modsO, modsI, modss, hadd, h1, h2, encR, c1, c2], by simp [c1, c2]; omega⟩)
  have hf := fold_filter (growB as ms) (fun x : Str => x) (names as) []
  rw [hf, List.nil_append, List.map_id'] at e
  rw [phi_eq (D := D_grown_by) (ρ := [.fz (encAs as), .fz (encAs ms), .no, .no, .no, .no]) rfl rfl rfl]
  show (runs _ _ _ b_grown_by _).bind _ = _
  unfold b_grown_by
  rw [runs_step (by simp [als, alsO, alsI, alss, mods, modsO, modsI, modss, s0, D_grown_by]; try rfl)]
  rw [runs_step (by
    rw [run_for, evIt_eq]
    simp [als, alsO, alsI, alss, mods, modsO, modsI, modss, hn, D_grown_by]
    exact e)]
  simp [als, alsO, alsI, alss, mods, modsO, modsI, modss, D_grown_by, tup_N, growL]
/-! most -/
def cntN (as : List Ask) (nm : Str) : Nat := (as.filter fun a => decide (a.1 = nm)).length
def mostD (as : List Ask) (nm : Str) : PyData := .tuple [.int (-(cntN as nm : Nat)), .str nm]
theorem min_most (as : List Ask) (hl : as.length ≤ 50) (h : names as ≠ []) : ∃ nm, nm ∈ names as ∧ mmV true [.list ((names as).map (mostD as))] = some (mostD as nm, .sh) := by
  have hz : (10000 : Nat) < sizeLine := by decide
  have hnl := names_len as
  have hso : sortOk ((names as).map (mostD as)) = true := sortOk_T (Alk.map _ _ fun a b => by simp [mostD, PySem.W.alike, PySem.W.alikeAll]) (by
      rw [List.all_eq_true]
      intro x hx
      obtain ⟨q, hq, rfl⟩ := List.mem_map.mp hx
      simp [mostD]) (by
      rw [List.all_eq_true]
      intro x hx
      obtain ⟨q, hq, rfl⟩ := List.mem_map.mp hx
      rfl) (by simp; omega)
  cases hx : names as with
  | nil => exact absurd hx h
  | cons x xs =>
    rw [hx, List.map_cons] at hso
    have hm := minD_mem (mostD as x) (xs.map (mostD as))
    rw [← List.map_cons] at hm
    obtain ⟨nm, h1, h2⟩ := List.mem_map.mp hm
    refine ⟨nm, h1, ?_⟩
    rw [List.map_cons]
    show (if sortOk _ then some (_, _) else none) = _
    rw [if_pos hso, h2]
    rfl
def mostV (as : List Ask) (o : Option Str) : PyData := match o with
  | none => .none
  | some nm => .tuple [.int (cntN as nm : Nat), .str nm]
def okMost (as : List Ask) (o : Option Str) : Prop := (names as = [] ∧ o = none) ∨ ∃ nm, o = some nm ∧ names as ≠ [] ∧ mmV true [.list ((names as).map (mostD as))] = some (mostD as nm, .sh)
theorem most_ex (as : List Ask) (hl : as.length ≤ 50) : ∃ o, okMost as o := by
  by_cases h : names as = []
  · exact ⟨none, .inl ⟨h, rfl⟩⟩
  · obtain ⟨nm, _, e⟩ := min_most as hl h
    exact ⟨some nm, .inr ⟨nm, rfl, h, e⟩⟩
theorem phi_asked_most (n : Nat) (as : List Ask) (hl : as.length ≤ 50) (o : Option Str) (ho : okMost as o) : phi tbl gls (n+3) F_asked_most [encAs as] = some (mostV as o, []) := by
  have hz : (10000 : Nat) < sizeLine := by decide
  have s2 : (2 : Nat) ≤ sizeLine := by decide
  have hn : phi tbl gls (n+2) 9 [encAs as] = _ := phi_asked_names n as (by omega)
  have hnl := names_len as
  have hc := compE_f (Φ := phi tbl gls (n+2)) (gl := gls) (vs := [2]) (g := .nm 2) (e := e_asked_most_1) (ρ := [.fz (encAs as), .no, .no, .no]) PyData.str (mostD as) (names as) [] (by simp; omega) (fun nm hnm => by
    have hc := compE_pf (Φ := phi tbl gls (n+2)) (gl := gls) (vs := [3]) (g := .nm 3) (c := c_asked_most_0) (e := .int 1) (ρ := [.fz (encAs as), .no, .fz (.str nm), .no]) encA (fun a => decide (a.1 = nm)) (fun _ => .int 1) as [] (by simp; omega) (fun a _ => ⟨[.fz (encAs as), .no, .fz (.str nm), .fz (encA a)], .sh, by simp, by simp [c_asked_most_0], fun _ => by simp, by simp⟩)
    rw [List.nil_append] at hc
    have ho := ones_len (as.filter fun a => decide (a.1 = nm))
    change v_len _ = some (.int (cntN as nm : Nat), .sh) at ho
    exact ⟨[.fz (encAs as), .no, .fz (.str nm), .no], .sh, by simp, by simp [e_asked_most_1, hc, ho, mostD, s2], by simp⟩)
  rw [List.nil_append] at hc
  have hi : immAll ((names as).map (mostD as)) = true := by
    have : ∀ xs : List Str, immAll (xs.map (mostD as)) = true := fun xs => by induction xs <;> simp [*, mostD]
    exact this _
  rw [phi_eq (D := D_asked_most) (ρ := [.fz (encAs as), .no, .no, .no]) rfl rfl rfl]
  show (runs _ _ _ b_asked_most _).bind _ = _
  unfold b_asked_most
  rw [runs_step (ρ1 := [.fz (encAs as), .ow (.list ((names as).map (mostD as))), .no, .no]) (by simp [als, alsO, alsI, alss, mods, modsO, modsI, modss, D_asked_most, hn, hc, hi])]
  rcases ho with ⟨h1, rfl⟩ | ⟨nm, rfl, h1, h2⟩
  · rw [h1]
    simp [als, alsO, alsI, alss, mods, modsO, modsI, modss, D_asked_most, mostV]
  · have hne : cmpV .NotEq (.list ((names as).map (mostD as))) (.list []) = some true := by
      rw [cmpV_ne0]; cases hx : names as <;> simp_all
    have i0 : ixV (mostD as nm) (.int 0) = some (.int (-(cntN as nm : Nat))) := by simp [mostD]
    have i1 : ixV (mostD as nm) (.int 1) = some (.str nm) := by simp [mostD]
    simp [als, alsO, alsI, alss, mods, modsO, modsI, modss, D_asked_most, hne, h2, i0, i1, mostV, s2]
end LW

namespace LW
open PySem PySem.Spec PyProof.Rows L2 PP
/-! what decides -/
def restK (as : List Ask) (k : Nat) : List Ask := as.take k ++ as.drop (k + 1)
def decB (as : List Ask) (nm : Str) (k : Nat) : Bool := (ownZ (restK as k) nm).isEmpty || !(decide ((roomR (restK as k) nm).1 = (roomR as nm).1) && decide ((roomR (restK as k) nm).2.1 = (roomR as nm).2.1))
def decL (as : List Ask) (nm : Str) : List Int := ((ownZ as nm).filter fun z => decB as nm z.2).map fun z => (z.2 : Int)
theorem restK_len (as : List Ask) (k : Nat) : (restK as k).length ≤ as.length := by
  unfold restK
  simp
  omega
theorem sl_take (as : List Ask) (k : Nat) : slV (encAs as) none (some (k : Int)) = some (encAs (as.take k), .sh) := by
  show some (PyData.tuple (cutL _ _ _), _) = _
  rw [cut_take, ← List.map_take]
  rfl
theorem sl_drop (as : List Ask) (k : Nat) : slV (encAs as) (some ((k : Int) + 1)) none = some (encAs (as.drop (k + 1)), .sh) := by
  show some (PyData.tuple (cutL _ _ _), _) = _
  have : ((k : Int) + 1) = ((k + 1 : Nat) : Int) := by omega
  rw [this, cut_drop, ← List.map_drop]
  rfl
theorem add_rest (as : List Ask) (k : Nat) (h : as.length ≤ 50) : binV .Add (encAs (as.take k)) (encAs (as.drop (k + 1))) = some (encAs (restK as k), .sh) := add_As _ _ (by simp; omega)
theorem isE_own {as : List Ask} {nm : Str} : decide (nm ∈ names as) = !(ownZ as nm).isEmpty := by
  rw [Bool.eq_iff_iff, decide_eq_true_eq, ← own_ne]
  cases ownZ as nm <;> simp
theorem in_N (xs : List Str) (w : Str) : inV (.str w) (encN xs) = some (decide (w ∈ xs)) := in_strsT xs w
theorem ne_22 (a b c d : Int) : cmpV .NotEq (.tuple [.int a, .int b]) (.tuple [.int c, .int d]) = some (!(decide (a = c) && decide (b = d))) := by
  rw [cmpV_neT (by simp) (by simp)]
  by_cases h1 : a = c <;> by_cases h2 : b = d <;> simp [PyData.eqvAll, PyData.eqv, h1, h2]
theorem sl_R (r : Rr) : slV (encR r) none (some 2) = some (.tuple [.int r.1, .int r.2.1], .sh) := rfl
theorem phi_decides (n : Nat) (as : List Ask) (nm : Str) (hl : as.length ≤ 50) (hnm : nm ∈ names as) : phi tbl gls (n+3) F_decides [encAs as, .str nm] = some (encI (decL as nm), []) := by
  have hz : (10000 : Nat) < sizeLine := by decide
  have s0 : (0 : Nat) ≤ sizeLine := by decide
  have h2 : phi tbl gls (n+2) 10 [encAs as, .str nm] = _ := phi_room_for (n+1) as nm hl (own_ne.mpr hnm)
  have e := forE_idx (Φ := phi tbl gls (n+2)) (gl := gls) (ios := []) (g := .nm 3) (b := b_decides_0) (dead := [3, 4]) (fun s : List Int => [.fz (encAs as), .fz (.str nm), .ow (.list (s.map .int)), .no, .no]) (fun s a k => if (decide (a.1 = nm) && decB as nm k) = true then s ++ [(k : Int)] else s) (fun s m => s.length + m ≤ 100) as [] [.fz (encAs as), .fz (.str nm), .ow (.list []), .no, .no] rfl (by simp; omega) (fun s a k m ha hi => by
    have hsl : s.length < sizeLine := by omega
    have h1 := ix_As ha
    have hrl := restK_len as k
    have t1 := sl_take as k
    have t2 := sl_drop as k
    have t3 := add_rest as k hl
    have t4 : phi tbl gls (n+2) 9 [encAs (restK as k)] = _ := phi_asked_names n (restK as k) (by omega)
    have t5 := in_N (names (restK as k)) nm
    rw [isE_own] at t5
    have t6 : ownZ (restK as k) nm ≠ [] → phi tbl gls (n+2) 10 [encAs (restK as k), .str nm] = some (encR (roomR (restK as k) nm), []) := fun h => phi_room_for (n+1) (restK as k) nm (by omega) h
    have t7 := ne_22 (roomR (restK as k) nm).1 (roomR (restK as k) nm).2.1 (roomR as nm).1 (roomR as nm).2.1
    have hd : decB as nm k = ((ownZ (restK as k) nm).isEmpty || !(decide ((roomR (restK as k) nm).1 = (roomR as nm).1) && decide ((roomR (restK as k) nm).2.1 = (roomR as nm).2.1))) := rfl
    rw [hd]
    by_cases c0 : a.1 = nm
    · cases c1 : ownZ (restK as k) nm with
      | nil =>
        rw [c1] at t5
        simp only [List.isEmpty_nil, Bool.not_true] at t5
        exact ⟨by simp [b_decides_0, als, alsO, alsI, alss, mods, modsO, modsI, modss, h1, c0, t1, t2, t3, t4, t5, hsl], by simp [c0]; omega⟩
      | cons z zs =>
        have t6 := t6 (by rw [c1]; exact fun h => nomatch h)
        rw [c1] at t5
        simp only [List.isEmpty_cons, Bool.not_false] at t5
        cases c2 : (decide ((roomR (restK as k) nm).1 = (roomR as nm).1) && decide ((roomR (restK as k) nm).2.1 = (roomR as nm).2.1)) with
        | true =>
          rw [c2] at t7
          exact ⟨by simp [b_decides_0, als, alsO, alsI, alss, mods, modsO, modsI, modss, h1, c0, t1, t2, t3, t4, t5, t6, h2, sl_R, t7], by simp; omega⟩
        | false =>
          rw [c2] at t7
          exact ⟨by simp [b_decides_0, als, alsO, alsI, alss, mods, modsO, modsI, modss, h1, c0, t1, t2, t3, t4, t5, t6, h2, sl_R, t7, hsl], by simp [c0]; omega⟩
    · exact ⟨by simp [b_decides_0, als, alsO, alsI, alss, mods, modsO, modsI, modss, h1, c0], by simp [c0]; omega⟩)
  have hf := fold_filter (fun z : Ask × Nat => decide (z.1.1 = nm) && decB as nm z.2) (fun z : Ask × Nat => (z.2 : Int)) as.zipIdx []
  rw [hf, List.nil_append] at e
  have hdl : (as.zipIdx.filter (fun z => decide (z.1.1 = nm) && decB as nm z.2)).map (fun z => (z.2 : Int)) = decL as nm := by
    unfold decL ownZ
    rw [List.filter_filter]
    rw [List.filter_congr (p := fun z : Ask × Nat => decide (z.1.1 = nm) && decB as nm z.2) (q := fun z => decB as nm z.2 && decide (z.1.1 = nm)) fun z _ => Bool.and_comm ..]
  rw [hdl] at e
  have hr := rngD_n (n := as.length) (by omega)
  rw [phi_eq (D := D_decides) (ρ := [.fz (encAs as), .fz (.str nm), .no, .no, .no]) rfl rfl rfl]
  show (runs _ _ _ b_decides _).bind _ = _
  unfold b_decides
  rw [runs_step (by simp [als, alsO, alsI, alss, mods, modsO, modsI, modss, s0, D_decides]; try rfl)]
  rw [runs_step (by
    rw [run_for, evIt_eq]
    simp [als, alsO, alsI, alss, mods, modsO, modsI, modss, len_As, hr, D_decides]
    exact e)]
  simp [als, alsO, alsI, alss, mods, modsO, modsI, modss, D_decides, tup_I]
end LW

namespace LW
open PySem PySem.Spec PyProof.Rows L2 PP
/-! rooms in order, put one behind the other -/
def keyT (r : Rm) : PyData := .tuple [.int (-r.2.2), .int (-r.2.1), .str r.1, encRm r]
theorem sort_rm (rs : List Rm) (h : rs.length ≤ 100) : ∃ ys : List Rm, v_sorted [.list (rs.map keyT)] = some (.list (ys.map keyT), .fr) ∧ ys.Perm rs := by
  have hz : (10000 : Nat) < sizeLine := by decide
  have ha : Alk (rs.map keyT) := Alk.map _ _ fun r s => by simp [keyT, encRm, PySem.W.alike, PySem.W.alikeAll]
  have hso : sortOk (rs.map keyT) = true := sortOk_T ha (by
      rw [List.all_eq_true]
      intro x hx
      obtain ⟨q, hq, rfl⟩ := List.mem_map.mp hx
      simp [keyT, encRm]) (by
      rw [List.all_eq_true]
      intro x hx
      obtain ⟨q, hq, rfl⟩ := List.mem_map.mp hx
      rfl) (by simp; omega)
  have hp := sortD_perm (rs.map keyT)
  obtain ⟨ys, h1, h2⟩ := map_of keyT (· ∈ rs) (xs := sortD (rs.map keyT)) fun v hv => by
    obtain ⟨r, hr, rfl⟩ := List.mem_map.mp (hp.mem_iff.mp hv)
    exact ⟨r, rfl, hr⟩
  refine ⟨ys, by simp only [v_sorted, hso, if_true, h1], ?_⟩
  rw [h1] at hp
  have := hp.map (fun d : PyData => match d with | .tuple [.int a, .int b, .str c, _] => (c, -b, -a) | _ => (Str.ofString "", (0 : Int), (0 : Int)))
  rw [List.map_map, List.map_map] at this
  have e : ∀ zs : List Rm, zs.map ((fun d : PyData => match d with | .tuple [.int a, .int b, .str c, _] => (c, -b, -a) | _ => (Str.ofString "", (0 : Int), (0 : Int))) ∘ keyT) = zs := fun zs => by
    conv => rhs; rw [← List.map_id zs]
    exact List.map_congr_left fun z _ => by simp [keyT]
  rw [e, e] at this
  exact this
@[simp] theorem Rm_0 (a : Rm) : ixV (encRm a) (.int 0) = some (.str a.1) := by simp [encRm]
@[simp] theorem Rm_1 (a : Rm) : ixV (encRm a) (.int 1) = some (.int a.2.1) := by simp [encRm]
@[simp] theorem Rm_2 (a : Rm) : ixV (encRm a) (.int 2) = some (.int a.2.2) := by simp [encRm]
theorem phi_rooms_by_alignment (n : Nat) (rs ys : List Rm) (hl : rs.length ≤ 100) (hs : v_sorted [.list (rs.map keyT)] = some (.list (ys.map keyT), .fr)) (hy : ys.length ≤ 100) : phi tbl gls (n+1) F_rooms_by_alignment [encRs rs] = some (encRs ys, []) := by
  have hz : (10000 : Nat) < sizeLine := by decide
  have s4 : (4 : Nat) ≤ sizeLine := by decide
  have hc1 := compE_f (Φ := phi tbl gls n) (gl := gls) (vs := [2]) (g := .nm 2) (e := e_rooms_by_alignment_0) (ρ := [.fz (encRs rs), .no, .no]) encRm keyT rs [] (by simp; omega) (fun r _ => ⟨[.fz (encRs rs), .no, .fz (encRm r)], .sh, by simp, by simp [e_rooms_by_alignment_0, keyT, s4], by simp⟩)
  have hc2 := compE_f (Φ := phi tbl gls n) (gl := gls) (vs := [1, 1, 1, 2]) (g := .tp [.nm 1, .nm 1, .nm 1, .nm 2]) (e := .var 2) (ρ := [.fz (encRs rs), .no, .no]) keyT encRm ys [] (by simp; omega) (fun r _ => ⟨[.fz (encRs rs), .fz (.str r.1), .fz (encRm r)], .sh, by simp [keyT], by simp, by simp⟩)
  rw [List.nil_append] at hc1 hc2
  rw [phi_eq (D := D_rooms_by_alignment) (ρ := [.fz (encRs rs), .no, .no]) rfl rfl rfl]
  show (runs _ _ _ b_rooms_by_alignment _).bind _ = _
  unfold b_rooms_by_alignment
  simp [als, alsO, alsI, alss, mods, modsO, modsI, modss, D_rooms_by_alignment, hc1, hs, hc2, tup_Rs]
/-! laid -/
abbrev Bl := List (Int × Int)
def encP2 (b : Int × Int) : PyData := .tuple [.int b.1, .int b.2]
def encBl (bs : Bl) : PyData := .tuple (bs.map encP2)
@[simp] theorem imm_P2 (b : Int × Int) : immD (encP2 b) = true := by simp [encP2]
@[simp] theorem immAll_P2 (bs : Bl) : immAll (bs.map encP2) = true := by induction bs <;> simp [*]
@[simp] theorem imm_Bl (bs : Bl) : immD (encBl bs) = true := by simp [encBl]
@[simp] theorem items_Bl (bs : Bl) : itemsD (encBl bs) = some (bs.map encP2) := id rfl
@[simp] theorem items_I (xs : List Int) : itemsD (encI xs) = some (xs.map .int) := id rfl
theorem tup_Bl (bs : Bl) : PyData.tuple (bs.map encP2) = encBl bs := rfl
def stepLd (s : List Int × Int) (b : Int × Int) : List Int × Int := (s.1 ++ [upto s.2 b.2], upto s.2 b.2 + b.1)
def laidT (a : Int) : Bl → List Int
  | [] => []
  | b :: bs => upto a b.2 :: laidT (upto a b.2 + b.1) bs
theorem laid_fold : ∀ (bs : Bl) (f : List Int) (a : Int), (bs.foldl stepLd (f, a)).1 = f ++ laidT a bs
  | [], f, a => by simp [laidT]
  | b :: bs, f, a => by
    rw [List.foldl_cons, stepLd, laid_fold bs]
    simp [laidT]
theorem laidT_len : ∀ (bs : Bl) (a : Int), (laidT a bs).length = bs.length
  | [], _ => rfl
  | b :: bs, a => by rw [laidT, List.length_cons, laidT_len bs, List.length_cons]
theorem phi_laid (n : Nat) (bs : Bl) (a : Int) (h : ∀ b, b ∈ bs → isAl b.2) (hl : bs.length ≤ 100) : phi tbl gls (n+2) F_laid [encBl bs, .int a] = some (encI (laidT a bs), []) := by
  have hz : (10000 : Nat) < sizeLine := by decide
  have s0 : (0 : Nat) ≤ sizeLine := by decide
  have e := forE_foldN (Φ := phi tbl gls (n+1)) (gl := gls) (ios := []) (g := .tp [.nm 4, .nm 5]) (b := b_laid_0) (dead := [4, 5]) (fun s : List Int × Int => [.fz (encBl bs), .fz (.int a), .ow (.list (s.1.map .int)), .fz (.int s.2), .no, .no]) encP2 stepLd (fun s m => s.1.length + m ≤ 1000) bs ([], a) [.fz (encBl bs), .fz (.int a), .ow (.list []), .fz (.int a), .no, .no] rfl (by simp; omega) (fun s b m hb hi => by
    have hu := phi_up_to n s.2 b.2 (h b hb)
    have hsl : s.1.length < sizeLine := by omega
    exact ⟨by simp [b_laid_0, als, alsO, alsI, alss, mods, modsO, modsI, modss, encP2, hu, hsl, stepLd], by simp [stepLd]; omega⟩)
  have hf := laid_fold bs [] a
  rw [List.nil_append] at hf
  rw [phi_eq (D := D_laid) (ρ := [.fz (encBl bs), .fz (.int a), .no, .no, .no, .no]) rfl rfl rfl]
  show (runs _ _ _ b_laid _).bind _ = _
  unfold b_laid
  rw [runs_step (by simp [als, alsO, alsI, alss, mods, modsO, modsI, modss, s0, D_laid]; try rfl)]
  rw [runs_step (by
    rw [run_for, evIt_eq]
    simp [als, alsO, alsI, alss, mods, modsO, modsI, modss, D_laid]
    exact e)]
  simp [als, alsO, alsI, alss, mods, modsO, modsI, modss, D_laid, tup_I, hf]
end LW

namespace LW
open PySem PySem.Spec PyProof.Rows L2 PP
/-! rooms put one behind the other -/
def okRs (rs : List Rm) : Prop := rs.length ≤ 50 ∧ ∀ r, r ∈ rs → isAl r.2.2
def putP (a : Int) (rs : List Rm) : List (Str × Int) := (rs.zip (laidT a (rs.map (·.2)))).map fun z => (z.1.1, z.2)
def dPl (m : List (Str × Int)) : PyData := .dict (dA PyData.int m)
theorem phi_put_rooms (n : Nat) (rs : List Rm) (a : Int) (h : okRs rs) : phi tbl gls (n+3) F_put_rooms [encRs rs, .int a] = some (dPl (mkA (putP a rs)), []) := by
  have hz : (10000 : Nat) < sizeLine := by decide
  have s2 : (2 : Nat) ≤ sizeLine := by decide
  obtain ⟨hl, ha⟩ := h
  have hlt := laidT_len (rs.map (·.2)) a
  rw [List.length_map] at hlt
  have hal : ∀ b, b ∈ rs.map (·.2) → isAl b.2 := fun b hb => by
    obtain ⟨r, hr, e⟩ := List.mem_map.mp hb
    rw [← e]
    exact ha r hr
  have hla := phi_laid n (rs.map (·.2)) a hal (by rw [List.length_map]; omega)
  change phi tbl gls (n+2) 7 _ = _ at hla
  have hc1 := compE_f (Φ := phi tbl gls (n+2)) (gl := gls) (vs := [3]) (g := .nm 3) (e := e_put_rooms_1) (ρ := [.fz (encRs rs), .fz (.int a), .no, .no, .no]) encRm (fun r => encP2 r.2) rs [] (by simp; omega) (fun r _ => ⟨[.fz (encRs rs), .fz (.int a), .no, .fz (encRm r), .no], .sh, by simp, by
    have hsl : slV (encRm r) (some 1) none = some (encP2 r.2, .sh) := rfl
    simp [e_put_rooms_1, hsl], by simp⟩)
  have he : rs.map (fun r => encP2 r.2) = (rs.map (·.2)).map encP2 := by rw [List.map_map]; rfl
  rw [List.nil_append, he] at hc1
  have hzp : zipV (encRs rs) (encI (laidT a (rs.map (·.2)))) = some ((rs.zip (laidT a (rs.map (·.2)))).map fun z => .tuple [encRm z.1, .int z.2]) := by
    rw [encRs, encI, zipV_t, List.zip_map, List.map_map]
    exact congrArg some (List.map_congr_left fun _ _ => rfl)
  have hc2 := compE_f (Φ := phi tbl gls (n+2)) (gl := gls) (vs := [3, 4]) (g := .tp [.nm 3, .nm 4]) (e := e_put_rooms_0) (ρ := [.fz (encRs rs), .fz (.int a), .fz (encI (laidT a (rs.map (·.2)))), .no, .no]) (fun z : Rm × Int => .tuple [encRm z.1, .int z.2]) (fun z => .tuple [.str z.1.1, .int z.2]) (rs.zip (laidT a (rs.map (·.2)))) [] (by simp; omega) (fun z _ => ⟨[.fz (encRs rs), .fz (.int a), .fz (encI (laidT a (rs.map (·.2)))), .fz (encRm z.1), .fz (.int z.2)], .sh, by simp, by simp [e_put_rooms_0, s2], by simp⟩)
  have he2 : (rs.zip (laidT a (rs.map (·.2)))).map (fun z => PyData.tuple [.str z.1.1, .int z.2]) = (putP a rs).map fun p => .tuple [.str p.1, .int p.2] := by unfold putP; rw [List.map_map]; rfl
  rw [List.nil_append, he2] at hc2
  have hv := v_dict_A (κ := Str) PyData.int (fun _ => rfl) (putP a rs)
  replace hv : v_dict [.list ((putP a rs).map fun p => .tuple [.str p.1, .int p.2])] = some (dPl (mkA (putP a rs)), .fr) := hv
  rw [phi_eq (D := D_put_rooms) (ρ := [.fz (encRs rs), .fz (.int a), .no, .no, .no]) rfl rfl rfl]
  show (runs _ _ _ b_put_rooms _).bind _ = _
  unfold b_put_rooms
  simp [als, alsO, alsI, alss, mods, modsO, modsI, modss, D_put_rooms, hc1, tup_Bl, hla, hzp, hc2, hv, -List.map_map]
def stepP (s : List (Str × Int) × Int) (r : Rm) : List (Str × Int) × Int := (putA s.1 r.1 (upto s.2 r.2.2), upto s.2 r.2.2 + r.2.1)
theorem stepP_fold : ∀ (rs : List Rm) (m : List (Str × Int)) (a : Int), (rs.foldl stepP (m, a)).1 = (putP a rs).foldl (fun m p => putA m p.1 p.2) m
  | [], m, a => rfl
  | r :: rs, m, a => by
    rw [List.foldl_cons, stepP, stepP_fold rs]
    rfl
theorem loop_put (Φ : Nat → List PyData → Option (PyData × List PyData)) (rs : List Rm) (a : Int) (h : okRs rs) (a0 a1 a2 a3 a4 a5 a6 a7 a8 a9 a10 a11 a12 a13 a14 a15 a16 a20 a21 a22 a23 a24 : Sl) : ∃ e, forE Φ gls [] (.nm 19) b_law_1 [19] (rs.map encRm) [a0, a1, a2, a3, a4, a5, a6, a7, a8, a9, a10, a11, a12, a13, a14, a15, a16, .fz (.int a), .ow (.dict []), .no, a20, a21, a22, a23, a24] = some (.nx [a0, a1, a2, a3, a4, a5, a6, a7, a8, a9, a10, a11, a12, a13, a14, a15, a16, .fz (.int e), .ow (dPl (mkA (putP a rs))), .no, a20, a21, a22, a23, a24]) := by
  have hz : (10000 : Nat) < sizeLine := by decide
  obtain ⟨hl, ha⟩ := h
  have e := forE_foldN (Φ := Φ) (gl := gls) (ios := []) (g := .nm 19) (b := b_law_1) (dead := [19]) (fun s : List (Str × Int) × Int => [a0, a1, a2, a3, a4, a5, a6, a7, a8, a9, a10, a11, a12, a13, a14, a15, a16, .fz (.int s.2), .ow (dPl s.1), .no, a20, a21, a22, a23, a24]) encRm stepP (fun s m => s.1.length + m ≤ 1000) rs ([], a) [a0, a1, a2, a3, a4, a5, a6, a7, a8, a9, a10, a11, a12, a13, a14, a15, a16, .fz (.int a), .ow (.dict []), .no, a20, a21, a22, a23, a24] rfl (by simp; omega) (fun s r m hr hi => by
    have hal := ha r hr
    have hp := isAl_pos hal
    have hp2 : r.2.2 < 1073741824 := by rcases hal with e | e | e | e <;> omega
    have hu := upto_eq (a := s.2) hal
    have hm : ∀ x : Int, mulOk x r.2.2 = true := fun x => mul_small x (by omega) (by rcases hal with e | e | e | e <;> omega)
    have hset : setV (dPl s.1) (.str r.1) (.int (upto s.2 r.2.2)) = some (dPl (putA s.1 r.1 (upto s.2 r.2.2))) := dA_set (κ := Str) PyData.int s.1 r.1 (upto s.2 r.2.2) (by omega)
    have hpl := putA_len s.1 r.1 (upto s.2 r.2.2)
    exact ⟨by simp [b_law_1, als, alsO, alsI, alss, mods, modsO, modsI, modss, hp, hp2, hm, hu, hset, stepP], by simp only [stepP]; omega⟩)
  have hf := stepP_fold rs [] a
  generalize rs.foldl stepP ([], a) = F at *
  obtain ⟨m, e'⟩ := F
  simp only at hf e
  subst hf
  exact ⟨e', e⟩
theorem ne_pl (a : Int) (rs : List Rm) : cmpV .NotEq (dPl (mkA (putP a rs))) (dPl (mkA (putP a rs))) = some false := dict_ne (κ := Str) PyData.int (fun _ => rfl) _ (mkA_nodup _) fun _ _ => by simp
end LW

namespace LW
open PySem PySem.Spec PyProof.Rows L2 PP
/-! what are asks -/
theorem phi_alike : ∀ (h n : Nat) (d : PyData), aOk h d → phi tbl gls (n+h+1) 23 [d, d] = some (.bool true, [])
  | 0, n, d, hd => by
    rw [phi_eq (D := D__law_alike) (ρ := [.fz d, .fz d, .no]) rfl rfl rfl]
    exact alikeR 23 0 d hd fun x h' e => by omega
  | h + 1, n, d, hd => by
    rw [phi_eq (D := D__law_alike) (ρ := [.fz d, .fz d, .no]) rfl rfl rfl]
    exact alikeR 23 (h + 1) d hd fun x h' e hx => by
      have : h' = h := by omega
      subst this
      exact phi_alike h' n x hx
theorem sign_ok (s : Str) (h : s ∈ nm3) : itemsD (.str s) = some [.str s] ∧ ixV (.str s) (.int 0) = some (.str s) ∧ PP.inV (.str s) (gls.getD 0 .none) = some true ∧ s ≠ Str.ofString "" := by
  simp only [nm3, List.mem_cons, List.not_mem_nil, or_false] at h
  rcases h with rfl | rfl | rfl
  · exact ⟨by rfl, by rfl, by decide +kernel, by decide⟩
  · exact ⟨by rfl, by rfl, by decide +kernel, by decide⟩
  · exact ⟨by rfl, by rfl, by decide +kernel, by decide⟩
theorem letters : ∃ L : Str, gls[0]? = some (.str L) ∧ ∀ s, s ∈ nm3 → PP.inV (.str s) (.str L) = some true := ⟨_, rfl, fun s h => (sign_ok s h).2.2.1⟩
theorem phi_is_name (n : Nat) (s : Str) (h : s ∈ nm3) : phi tbl gls (n+1) F_is_name [.str s] = some (.bool true, []) := by
  have hz : (10000 : Nat) < sizeLine := by decide
  obtain ⟨h1, h2, -, h4⟩ := sign_ok s h
  obtain ⟨L, hg, hin⟩ := letters
  have h3 := hin s h
  have h5 : decide (s = Str.ofString "") = false := by simpa using h4
  have hc := compE_f (Φ := phi tbl gls n) (gl := gls) (vs := [1]) (g := .nm 1) (e := e_is_name_0) (ρ := [.fz (.str s), .no]) (fun _ : Unit => .str s) (fun _ => .bool true) [()] [] (by simp; omega) (fun _ _ => ⟨[.fz (.str s), .fz (.str s)], .sh, by simp, by simp [e_is_name_0, hg, h3], by simp⟩)
  simp only [List.map_cons, List.map_nil, List.nil_append] at hc
  have hv : v_all [.list [.bool true]] = some (.bool true, .sh) := rfl
  rw [phi_eq (D := D_is_name) (ρ := [.fz (.str s), .no]) rfl rfl rfl]
  show (runs _ _ _ b_is_name _).bind _ = _
  unfold b_is_name
  simp [als, alsO, alsI, alss, mods, modsO, modsI, modss, D_is_name, isT, h1, h2, h3, h5, hg, hc, hv]
theorem phi_is_name_0 (n : Nat) : phi tbl gls (n+1) F_is_name [.str (Str.ofString "")] = some (.bool false, []) := by
  rw [phi_eq (D := D_is_name) (ρ := [.fz (.str (Str.ofString "")), .no]) rfl rfl rfl]
  show (runs _ _ _ b_is_name _).bind _ = _
  unfold b_is_name
  simp [als, alsO, alsI, alss, mods, modsO, modsI, modss, D_is_name, isT]
end LW

namespace LW
open PySem PySem.Spec PyProof.Rows L2 PP
def okA : PyData → Bool
  | .tuple [.str s, .int i, .int a, .bool _] => decide (s ∈ nm3) && decide (1 ≤ i) && isP8 a
  | _ => false
theorem okA_enc {as : List Ask} (h : okAs as) {a : Ask} (ha : a ∈ as) : okA (encA a) = true := by
  obtain ⟨h1, h2, h3⟩ := h.2 a ha
  have : isP8 a.2.2.1 = true := by
    unfold isP8
    rcases h3 with e | e | e | e <;> simp [e]
  simp [okA, encA, h1, h2.1, this]
theorem turn_ask (n : Nat) (T : PyData) (a : Ask) (h : a.1 ∈ nm3 ∧ (1 ≤ a.2.1 ∧ a.2.1 ≤ 20) ∧ isAl a.2.2.1) : turnE (phi tbl gls (n+3)) gls [] (.tp [.nm 1, .nm 2, .nm 3, .nm 4]) b_are_asks_0 [1, 2, 3, 4] (encA a) [.fz T, .no, .no, .no, .no, .no] = some (.nx [.fz T, .no, .no, .no, .no, .no]) := by
  obtain ⟨h1, h2, h3⟩ := h
  have f1 : phi tbl gls (n+3) 3 [.str a.1] = _ := phi_is_name (n+2) a.1 h1
  have f2 : phi tbl gls (n+3) 1 [.int a.2.1, .int 1] = some (.bool true, []) := by
    have := phi_is_from (n+1) (.int a.2.1) 1
    simp only [decide_eq_true h2.1] at this
    exact this
  have f3 : phi tbl gls (n+3) 4 [.int a.2.2.1] = _ := phi_is_power n a.2.2.1 h3
  simp [b_are_asks_0, als, alsO, alsI, alss, mods, modsO, modsI, modss, encA, f1, f2, f3, isT]
theorem all_T4 (xs : List PyData) (n : Nat) (hl : xs.length ≤ 100) : compE (phi tbl gls (n+1)) gls [5] (.nm 5) (.bl true) e_are_asks_1 xs [] [.fz (.tuple xs), .no, .no, .no, .no, .no] = some (xs.map fun d => .bool (isT4 d), [.fz (.tuple xs), .no, .no, .no, .no, .no]) := by
  have hz : (10000 : Nat) < sizeLine := by decide
  have c1 := compE_f (Φ := phi tbl gls (n+1)) (gl := gls) (vs := [5]) (g := .nm 5) (e := e_are_asks_1) (ρ := [.fz (.tuple xs), .no, .no, .no, .no, .no]) (fun d : PyData => d) (fun d => .bool (isT4 d)) xs [] (by simp; omega) (fun d hd => ⟨[.fz (.tuple xs), .no, .no, .no, .no, .fz d], .sh, by simp, by
    have : phi tbl gls (n+1) 2 [d, .int 4] = _ := phi_is_tuple_of n d
    simp [e_are_asks_1, this], by simp⟩)
  rw [List.map_id', List.nil_append] at c1
  exact c1
theorem phi_are_asks_no (n : Nat) (d : PyData) (h : ∀ xs, d ≠ .tuple xs) : phi tbl gls (n+4) F_are_asks [d] = some (.bool false, []) := by
  rw [phi_eq (D := D_are_asks) (ρ := [.fz (d), .no, .no, .no, .no, .no]) rfl rfl rfl]
  show (runs _ _ _ b_are_asks _).bind _ = _
  unfold b_are_asks
  cases d with
  | tuple xs => exact absurd rfl (h xs)
  | _ => simp [als, alsO, alsI, alss, mods, modsO, modsI, modss, isT, D_are_asks]
theorem T4_enc (a : Ask) : isT4 (encA a) = true := rfl
theorem phi_are_asks (n : Nat) (as : List Ask) (h : okAs as) : phi tbl gls (n+4) F_are_asks [encAs as] = some (.bool true, []) := by
  have hl := h.1
  have c1 := all_T4 (as.map encA) (n+2) (by simp; omega)
  have v1 := v_all_m isT4 (as.map encA)
  have hall : (as.map encA).all isT4 = true := by
    rw [List.all_eq_true]
    intro x hx
    obtain ⟨a, _, rfl⟩ := List.mem_map.mp hx
    rfl
  rw [hall] at v1
  have e := forE_foldN (Φ := phi tbl gls (n+3)) (gl := gls) (ios := []) (g := .tp [.nm 1, .nm 2, .nm 3, .nm 4]) (b := b_are_asks_0) (dead := [1, 2, 3, 4]) (fun _ : Unit => [.fz (encAs as), .no, .no, .no, .no, .no]) encA (fun s _ => s) (fun _ _ => True) as () [.fz (encAs as), .no, .no, .no, .no, .no] rfl trivial (fun s a m ha _ => ⟨turn_ask n _ a (h.2 a ha), trivial⟩)
  change compE _ _ _ _ _ _ _ _ [.fz (encAs as), .no, .no, .no, .no, .no] = some (_, [.fz (encAs as), .no, .no, .no, .no, .no]) at c1
  have ht : isT "tuple" (encAs as) = some true := rfl
  rw [phi_eq (D := D_are_asks) (ρ := [.fz (encAs as), .no, .no, .no, .no, .no]) rfl rfl rfl]
  show (runs _ _ _ b_are_asks _).bind _ = _
  unfold b_are_asks
  rw [runs_step (ρ1 := [.fz (encAs as), .no, .no, .no, .no, .no]) (by simp [als, alsO, alsI, alss, mods, modsO, modsI, modss, D_are_asks, ht, c1, v1, -List.map_map])]
  rw [runs_step (by
    rw [run_for, evIt_eq]
    simp [als, alsO, alsI, alss, mods, modsO, modsI, modss, D_are_asks]
    exact e)]
  simp [als, alsO, alsI, alss, mods, modsO, modsI, modss, D_are_asks]
def asBad (as : List Ask) (b : PyData) : PyData := .tuple (as.map encA ++ [b])
theorem phi_are_asks_4 (n : Nat) (as : List Ask) (h : okAs as) (b : PyData) (hb : isT4 b = false) : phi tbl gls (n+4) F_are_asks [asBad as b] = some (.bool false, []) := by
  have hl := h.1
  have c1 := all_T4 (as.map encA ++ [b]) (n+2) (by simp; omega)
  have v1 := v_all_m isT4 (as.map encA ++ [b])
  have hall : (as.map encA ++ [b]).all isT4 = false := by
    rw [List.all_append]; simp [hb]
  rw [hall] at v1
  generalize hX : as.map encA ++ [b] = X at *
  have ht : isT "tuple" (.tuple X) = some true := rfl
  rw [asBad, hX]
  rw [phi_eq (D := D_are_asks) (ρ := [.fz (.tuple X), .no, .no, .no, .no, .no]) rfl rfl rfl]
  show (runs _ _ _ b_are_asks _).bind _ = _
  unfold b_are_asks
  simp [als, alsO, alsI, alss, mods, modsO, modsI, modss, D_are_asks, ht, c1, v1, -List.map_map]
theorem phi_are_asks_x (n : Nat) (as : List Ask) (h : okAs as) (b : PyData) (h4 : isT4 b = true) (hb : okA b = false) (ht : ∀ T, ∃ ρ', turnE (phi tbl gls (n+3)) gls [] (.tp [.nm 1, .nm 2, .nm 3, .nm 4]) b_are_asks_0 [1, 2, 3, 4] b [.fz T, .no, .no, .no, .no, .no] = some (.rt (.bool false) ρ')) : phi tbl gls (n+4) F_are_asks [asBad as b] = some (.bool false, []) := by
  have hl := h.1
  have c1 := all_T4 (as.map encA ++ [b]) (n+2) (by simp; omega)
  have v1 := v_all_m isT4 (as.map encA ++ [b])
  have hall : (as.map encA ++ [b]).all isT4 = true := by
    rw [List.all_eq_true]
    intro x hx
    rcases List.mem_append.mp hx with hx | hx
    · obtain ⟨a, _, rfl⟩ := List.mem_map.mp hx
      rfl
    · rw [List.mem_singleton] at hx; rw [hx]; exact h4
  rw [hall] at v1
  have hX : ∀ x, x ∈ as.map encA ++ [b] → (∃ a, a ∈ as ∧ x = encA a) ∨ x = b := fun x hx => by
    rcases List.mem_append.mp hx with hx | hx
    · obtain ⟨a, ha, rfl⟩ := List.mem_map.mp hx
      exact .inl ⟨a, ha, rfl⟩
    · exact .inr (List.mem_singleton.mp hx)
  have hbx : b ∈ as.map encA ++ [b] := by simp
  have ha : asBad as b = .tuple (as.map encA ++ [b]) := rfl
  generalize as.map encA ++ [b] = X at *
  have e := forE_find (Φ := phi tbl gls (n+3)) (gl := gls) (ios := []) (g := .tp [.nm 1, .nm 2, .nm 3, .nm 4]) (b := b_are_asks_0) (dead := [1, 2, 3, 4]) [.fz (.tuple X), .no, .no, .no, .no, .no] (fun d : PyData => d) (fun d => if okA d then none else some (.bool false)) X rfl (fun x hx hn => by
    rcases hX x hx with ⟨a, ha, rfl⟩ | rfl
    · exact turn_ask n _ a (h.2 a ha)
    · simp [hb] at hn) (fun x v hx hv => by
    rcases hX x hx with ⟨a, ha, rfl⟩ | rfl
    · rw [okA_enc h ha] at hv; simp at hv
    · simp [hb] at hv; subst hv; exact ht _) [.fz (.tuple X), .no, .no, .no, .no, .no] rfl
  rw [List.map_id'] at e
  have hf : X.findSome? (fun d => if okA d then none else some (PyData.bool false)) = some (.bool false) := by
    cases hq : X.findSome? (fun d => if okA d then none else some (PyData.bool false)) with
    | none =>
      have := List.findSome?_eq_none_iff.mp hq b hbx
      simp [hb] at this
    | some v =>
      obtain ⟨x, _, hx⟩ := List.exists_of_findSome?_eq_some hq
      split at hx
      · cases hx
      · exact congrArg some (Option.some.inj hx).symm
  rw [hf] at e
  obtain ⟨ρ', e⟩ := e
  have hi : isT "tuple" (.tuple X) = some true := rfl
  rw [ha]
  rw [phi_eq (D := D_are_asks) (ρ := [.fz (.tuple X), .no, .no, .no, .no, .no]) rfl rfl rfl]
  show (runs _ _ _ b_are_asks _).bind _ = _
  unfold b_are_asks
  rw [runs_step (ρ1 := [.fz (.tuple X), .no, .no, .no, .no, .no]) (by simp [als, alsO, alsI, alss, mods, modsO, modsI, modss, D_are_asks, hi, c1, v1, -List.map_map])]
  rw [runs_rt (d := .bool false) (ρ1 := ρ') (by simp [als, alsO, alsI, alss, mods, modsO, modsI, modss, D_are_asks]; exact e)]
  simp [D_are_asks]
def b1 : PyData := .tuple [.str (Str.ofString "a"), .int 0, .int 1, .bool false]
def b2 : PyData := .tuple [.str (Str.ofString "a"), .int 1, .int 3, .bool false]
def b3 : PyData := .tuple [.str (Str.ofString "a"), .int 1, .int 1, .int 1]
def b4 : PyData := .tuple [.str (Str.ofString "a"), .int 1, .int 1]
def b5 : PyData := .tuple [.str (Str.ofString ""), .int 1, .int 1, .bool true]
def b6 : PyData := .tuple [.str (Str.ofString "a"), .bool true, .int 1, .bool true]
def b7 : PyData := .tuple [.str (Str.ofString "a"), .int 1, .int 0, .bool true]
def bads (as : List Ask) : List PyData := [.list (as.map encA), .none, asBad as b1, asBad as b2, asBad as b3, asBad as b4, asBad as b5, asBad as b6, asBad as b7]
theorem bads_no (n : Nat) (as : List Ask) (h : okAs as) : ∀ d, d ∈ bads as → phi tbl gls (n+4) 8 [d] = some (.bool false, []) := by
  have na : phi tbl gls (n+3) 3 [.str (Str.ofString "a")] = _ := phi_is_name (n+2) (Str.ofString "a") (by simp [nm3])
  have n0 : phi tbl gls (n+3) 3 [.str (Str.ofString "")] = _ := phi_is_name_0 (n+2)
  have f1 : phi tbl gls (n+3) 1 [.int 1, .int 1] = some (.bool true, []) := phi_is_from (n+1) (.int 1) 1
  have f0 : phi tbl gls (n+3) 1 [.int 0, .int 1] = some (.bool false, []) := phi_is_from (n+1) (.int 0) 1
  have ft : phi tbl gls (n+3) 1 [.bool true, .int 1] = some (.bool false, []) := phi_is_from (n+1) (.bool true) 1
  have p1 : phi tbl gls (n+3) 4 [.int 1] = _ := phi_is_power n 1 (.inl rfl)
  have p3 : phi tbl gls (n+3) 4 [.int 3] = _ := phi_is_power_3 n
  have p0 : phi tbl gls (n+3) 4 [.int 0] = _ := phi_is_power_0 n
  intro d hd
  simp only [bads, List.mem_cons, List.not_mem_nil, or_false] at hd
  rcases hd with rfl | rfl | rfl | rfl | rfl | rfl | rfl | rfl | rfl
  · exact phi_are_asks_no n _ nofun
  · exact phi_are_asks_no n _ nofun
  · exact phi_are_asks_x n as h b1 rfl (by simp [okA, b1]) fun T => ⟨_, by simp [b_are_asks_0, als, alsO, alsI, alss, mods, modsO, modsI, modss, b1, na, f0, isT]; rfl⟩
  · exact phi_are_asks_x n as h b2 rfl (by simp [okA, b2, isP8]) fun T => ⟨_, by simp [b_are_asks_0, als, alsO, alsI, alss, mods, modsO, modsI, modss, b2, na, f1, p3, isT]; rfl⟩
  · exact phi_are_asks_x n as h b3 rfl (by simp [okA, b3]) fun T => ⟨_, by simp [b_are_asks_0, als, alsO, alsI, alss, mods, modsO, modsI, modss, b3, na, f1, p1, isT]; rfl⟩
  · exact phi_are_asks_4 n as h b4 rfl
  · exact phi_are_asks_x n as h b5 rfl (by decide) fun T => ⟨_, by simp [b_are_asks_0, als, alsO, alsI, alss, mods, modsO, modsI, modss, b5, n0, isT]; rfl⟩
  · exact phi_are_asks_x n as h b6 rfl (by simp [okA, b6]) fun T => ⟨_, by simp [b_are_asks_0, als, alsO, alsI, alss, mods, modsO, modsI, modss, b6, na, ft, isT]; rfl⟩
  · exact phi_are_asks_x n as h b7 rfl (by simp [okA, b7, isP8]) fun T => ⟨_, by simp [b_are_asks_0, als, alsO, alsI, alss, mods, modsO, modsI, modss, b7, na, f1, p0, isT]; rfl⟩
theorem loop_bad (n : Nat) (as : List Ask) (h : okAs as) (a0 a1 a2 a3 a4 a5 a6 a7 a8 a9 a10 a11 a12 a13 a14 a15 a16 a17 a18 a19 a21 a22 a23 a24 : Sl) : forE (phi tbl gls (n+4)) gls [] (.nm 20) b_law_0 [20] (bads as) [a0, a1, a2, a3, a4, a5, a6, a7, a8, a9, a10, a11, a12, a13, a14, a15, a16, a17, a18, a19, .no, a21, a22, a23, a24] = some (.nx [a0, a1, a2, a3, a4, a5, a6, a7, a8, a9, a10, a11, a12, a13, a14, a15, a16, a17, a18, a19, .no, a21, a22, a23, a24]) := by
  have ha : phi tbl gls (n+4) 23 [.bool false, .bool false] = _ := phi_alike 0 (n+3) (.bool false) (by simp)
  have e := forE_foldN (Φ := phi tbl gls (n+4)) (gl := gls) (ios := []) (g := .nm 20) (b := b_law_0) (dead := [20]) (fun _ : Unit => [a0, a1, a2, a3, a4, a5, a6, a7, a8, a9, a10, a11, a12, a13, a14, a15, a16, a17, a18, a19, .no, a21, a22, a23, a24]) (fun d : PyData => d) (fun s _ => s) (fun _ _ => True) (bads as) () [a0, a1, a2, a3, a4, a5, a6, a7, a8, a9, a10, a11, a12, a13, a14, a15, a16, a17, a18, a19, .no, a21, a22, a23, a24] rfl trivial (fun s d m hd _ => ⟨by
    have hf := bads_no n as h d hd
    simp [b_law_0, als, alsO, alsI, alss, mods, modsO, modsI, modss, hf, ha], trivial⟩)
  rw [List.map_id'] at e
  exact e
end LW

namespace LW
open PySem PySem.Spec PyProof.Rows L2 PP
/-! draws -/
abbrev wS (ms : List Int) (k : Int) : PyData := wSt ms [] k
theorem csOk_0 : csOk [] := by unfold csOk; simp
theorem phi__law_next (n : Nat) (ms : List Int) (hm : ∀ z, z ∈ ms → 0 ≤ z) (k : Int) (hk : 0 ≤ k) (many : Int) (h0 : 0 < many) : ∃ v, 0 ≤ v ∧ v < many ∧ phi tbl gls (n+1) 21 [wS ms k, .int many] = some (.int v, [wS ms (k + 1)]) := by
  obtain ⟨v, v0, v1, e⟩ := nextR (Φ := phi tbl gls n) (gl := gls) ms [] csOk_0 hm k hk many h0
  refine ⟨v, v0, v1, ?_⟩
  rw [phi_eq (D := D__law_next) (ρ := [.ow (wS ms k), .fz (.int many)]) rfl rfl rfl]
  exact e
theorem phi__law_pick (n : Nat) (ms : List Int) (hm : ∀ z, z ∈ ms → 0 ≤ z) (k : Int) (hk : 0 ≤ k) (rows : List PyData) (h : rows ≠ []) : ∃ x, x ∈ rows ∧ phi tbl gls (n+2) 22 [wS ms k, .list rows] = some (x, [wS ms (k + 1)]) := by
  obtain ⟨v, v0, v1, e⟩ := phi__law_next n ms hm k hk rows.length (by have := List.length_pos_iff.mpr h; omega)
  obtain ⟨x, hx, e2⟩ := pickR (Φ := phi tbl gls (n+1)) (gl := gls) (f := 21) (wS ms k) (wS ms (k+1)) rows v v0 v1 e (.list rows) (.inl rfl)
  refine ⟨x, hx, ?_⟩
  rw [phi_eq (D := D__law_pick) (ρ := [.ow (wS ms k), .fz (.list rows)]) rfl rfl rfl]
  exact e2
theorem pick_nm (n : Nat) (ms : List Int) (hm : ∀ z, z ∈ ms → 0 ≤ z) (k : Int) (hk : 0 ≤ k) : ∃ s, s ∈ nm3 ∧ phi tbl gls (n+2) 22 [wS ms k, .list [.str (Str.ofString "a"), .str (Str.ofString "b"), .str (Str.ofString "c")]] = some (.str s, [wS ms (k + 1)]) := by
  obtain ⟨d, hd, e⟩ := phi__law_pick n ms hm k hk [.str (Str.ofString "a"), .str (Str.ofString "b"), .str (Str.ofString "c")] (by simp)
  simp only [List.mem_cons, List.not_mem_nil, or_false] at hd
  rcases hd with rfl | rfl | rfl <;> exact ⟨_, by simp [nm3], e⟩
theorem pick_al (n : Nat) (ms : List Int) (hm : ∀ z, z ∈ ms → 0 ≤ z) (k : Int) (hk : 0 ≤ k) : ∃ a, isAl a ∧ phi tbl gls (n+2) 22 [wS ms k, .list [.int 1, .int 2, .int 4, .int 8]] = some (.int a, [wS ms (k + 1)]) := by
  obtain ⟨d, hd, e⟩ := phi__law_pick n ms hm k hk [.int 1, .int 2, .int 4, .int 8] (by simp)
  simp only [List.mem_cons, List.not_mem_nil, or_false] at hd
  rcases hd with rfl | rfl | rfl | rfl <;> exact ⟨_, by simp [isAl], e⟩
theorem iidx_r (m : Nat) : iidx 0 m = (List.range m).map fun k : Nat => PyData.int (k : Nat) := by
  show (List.range m).map _ = _
  exact List.map_congr_left fun k _ => by simp
theorem phi__law_asks (n : Nat) (ms : List Int) (hm : ∀ z, z ∈ ms → 0 ≤ z) (k : Int) (hk : 0 ≤ k) (m : Int) (m0 : 0 ≤ m) (m1 : m ≤ 10) : ∃ (as : List Ask) (k' : Int), 0 ≤ k' ∧ okAs as ∧ as.length ≤ 10 ∧ phi tbl gls (n+3) 25 [wS ms k, .int m] = some (encAs as, [wS ms k']) := by
  have hz : (10000 : Nat) < sizeLine := by decide
  have s3 : (3 : Nat) ≤ sizeLine := by decide
  have s4 : (4 : Nat) ≤ sizeLine := by decide
  obtain ⟨as, ρ', h1, ⟨k', hk', rfl⟩, h3, h4⟩ := compXr (Φ := phi tbl gls (n+2)) (gl := gls) (vs := [2]) (g := .nm 2) (e := e__law_asks_0) (fun j : Nat => .int (0 + (j : Nat))) encA (fun ρ => ∃ k', 0 ≤ k' ∧ ρ = [.ow (wS ms k'), .fz (.int m), .no]) (fun _ a => a.1 ∈ nm3 ∧ (1 ≤ a.2.1 ∧ a.2.1 ≤ 20) ∧ isAl a.2.2.1) (List.range m.toNat) [] [.ow (wS ms k), .fz (.int m), .no] ⟨_, by omega, rfl⟩ (by
    rintro ρ d ⟨k', hk', rfl⟩ hd
    obtain ⟨s, hs, e1⟩ := pick_nm n ms hm k' hk'
    obtain ⟨v, v0, v1, e2⟩ := phi__law_next (n+1) ms hm (k'+1) (by omega) 20 (by omega)
    obtain ⟨a, ha, e3⟩ := pick_al n ms hm (k'+1+1) (by omega)
    obtain ⟨g, g0, g1, e4⟩ := phi__law_next (n+1) ms hm (k'+1+1+1) (by omega) 5 (by omega)
    exact ⟨[.ow (wS ms k'), .fz (.int m), .fz (.int (d : Nat))], (s, 1 + v, a, decide (g = 0)), .sh, [.ow (wS ms (k'+1+1+1+1)), .fz (.int m), .fz (.int (d : Nat))], by simp, by simp [e__law_asks_0, e1, e2, e3, e4, s3, s4, encA], ⟨hs, ⟨by simp only []; omega, by simp only []; omega⟩, ha⟩, k'+1+1+1+1, by omega, by simp⟩) (by simp; omega)
  rw [List.nil_append] at h1
  have hr := rngD_1 (j := m) m0 (by omega)
  change compE _ _ _ _ _ _ (iidx 0 m.toNat) _ _ = _ at h1
  refine ⟨as, k', hk', ⟨?_, ?_⟩, ?_, ?_⟩
  · simp at h3; omega
  · intro b hb
    obtain ⟨x, hx, hp⟩ := zip_right h3 hb
    exact h4 _ hp
  · simp at h3; omega
  · rw [phi_eq (D := D__law_asks) (ρ := [.ow (wS ms k), .fz (.int m), .no]) rfl rfl rfl]
    show (runs _ _ _ b__law_asks _).bind _ = _
    unfold b__law_asks
    simp [als, alsO, alsI, alss, mods, modsO, modsI, modss, D__law_asks, hr, h1, tup_As, outsOf]
end LW

namespace LW
open PySem PySem.Spec PyProof.Rows L2 PP
/-! the law's own rows -/
theorem comp_prs (Φ : Nat → List PyData → Option (PyData × List PyData)) (as : List Ask) (hl : as.length ≤ 50) (a0 a1 a2 a3 a4 a5 a6 a7 a8 a9 a11 a12 a13 a14 a15 a16 a17 a18 a19 a20 a21 a22 a23 a24 : Sl) : compE Φ gls [10] (.nm 10) (.bl true) e_law_18 (as.map encA) [] [a0, a1, a2, a3, a4, a5, a6, a7, a8, a9, .no, a11, a12, a13, a14, a15, a16, a17, a18, a19, a20, a21, a22, a23, a24] = some ((as.map fun a => (a.1, true)).map (fun p : Str × Bool => .tuple [.str p.1, .bool p.2]), [a0, a1, a2, a3, a4, a5, a6, a7, a8, a9, .no, a11, a12, a13, a14, a15, a16, a17, a18, a19, a20, a21, a22, a23, a24]) := by
  have hz : (10000 : Nat) < sizeLine := by decide
  have s2 : (2 : Nat) ≤ sizeLine := by decide
  have hc := compE_f (Φ := Φ) (gl := gls) (vs := [10]) (g := .nm 10) (e := e_law_18) (ρ := [a0, a1, a2, a3, a4, a5, a6, a7, a8, a9, .no, a11, a12, a13, a14, a15, a16, a17, a18, a19, a20, a21, a22, a23, a24]) encA (fun a => .tuple [.str a.1, .bool true]) as [] (by simp; omega) (fun a _ => ⟨[a0, a1, a2, a3, a4, a5, a6, a7, a8, a9, .fz (encA a), a11, a12, a13, a14, a15, a16, a17, a18, a19, a20, a21, a22, a23, a24], .sh, by simp, by simp [e_law_18, s2], by simp⟩)
  rw [List.map_map]
  exact hc
theorem sorted_names (as : List Ask) (hl : as.length ≤ 50) : ∃ D, v_dict [.list ((as.map fun a => (a.1, true)).map (fun p : Str × Bool => .tuple [.str p.1, .bool p.2]))] = some (D, .fr) ∧ v_sorted [D] = some (.list ((names as).map .str), .fr) := by
  have hv := v_dict_A (κ := Str) PyData.bool (fun _ => rfl) (as.map fun a => (a.1, true))
  refine ⟨_, hv, ?_⟩
  have hml := mkA_len (as.map fun a => (a.1, true))
  rw [v_sorted_dS PyData.bool _ (by simp at hml; omega)]
  rw [sortS_setS (ys := as.map (·.1)) (mkA_nodup _) fun q => by
    have := mkA_mem q (as.map fun a => (a.1, true)) []
    rw [show (mkA (as.map fun a => (a.1, true))) = (as.map fun a => (a.1, true)).foldl (fun m p => putA m p.1 p.2) [] from rfl, this]
    simp]
  rfl
theorem comp_ones (Φ : Nat → List PyData → Option (PyData × List PyData)) (as : List Ask) (nm : Str) (hl : as.length ≤ 50) (a0 a1 a2 a4 a5 a6 a7 a8 a11 a12 a13 a14 a15 a16 a17 a18 a19 a20 a21 a22 a23 a24 : Sl) : compE Φ gls [10] (.nm 10) c_law_16 (.int 1) (as.map encA) [] [a0, a1, a2, .fz (encAs as), a4, a5, a6, a7, a8, .fz (.str nm), .no, a11, a12, a13, a14, a15, a16, a17, a18, a19, a20, a21, a22, a23, a24] = some ((as.filter fun a => decide (a.1 = nm) && a.2.2.2).map (fun _ => .int 1), [a0, a1, a2, .fz (encAs as), a4, a5, a6, a7, a8, .fz (.str nm), .no, a11, a12, a13, a14, a15, a16, a17, a18, a19, a20, a21, a22, a23, a24]) := by
  have hz : (10000 : Nat) < sizeLine := by decide
  exact compE_pf (Φ := Φ) (gl := gls) (vs := [10]) (g := .nm 10) (c := c_law_16) (e := .int 1) (ρ := [a0, a1, a2, .fz (encAs as), a4, a5, a6, a7, a8, .fz (.str nm), .no, a11, a12, a13, a14, a15, a16, a17, a18, a19, a20, a21, a22, a23, a24]) encA (fun a => decide (a.1 = nm) && a.2.2.2) (fun _ => .int 1) as [] (by simp; omega) (fun a _ => ⟨[a0, a1, a2, .fz (encAs as), a4, a5, a6, a7, a8, .fz (.str nm), .fz (encA a), a11, a12, a13, a14, a15, a16, a17, a18, a19, a20, a21, a22, a23, a24], .sh, by simp, by by_cases h : a.1 = nm <;> simp [c_law_16, h], fun _ => by simp, by simp⟩)
theorem comp_tw (Φ : Nat → List PyData → Option (PyData × List PyData)) (as : List Ask) (hl : as.length ≤ 50) (a0 a1 a2 a4 a5 a6 a7 a8 a11 a12 a13 a14 a15 a16 a17 a18 a19 a20 a21 a22 a23 a24 : Sl) : compE Φ gls [9] (.nm 9) c_law_17 (.var 9) ((names as).map .str) [] [a0, a1, a2, .fz (encAs as), a4, a5, a6, a7, a8, .no, .no, a11, a12, a13, a14, a15, a16, a17, a18, a19, a20, a21, a22, a23, a24] = some ((twL as).map .str, [a0, a1, a2, .fz (encAs as), a4, a5, a6, a7, a8, .no, .no, a11, a12, a13, a14, a15, a16, a17, a18, a19, a20, a21, a22, a23, a24]) := by
  have hz : (10000 : Nat) < sizeLine := by decide
  have hnl := names_len as
  exact compE_pf (Φ := Φ) (gl := gls) (vs := [9]) (g := .nm 9) (c := c_law_17) (e := .var 9) (ρ := [a0, a1, a2, .fz (encAs as), a4, a5, a6, a7, a8, .no, .no, a11, a12, a13, a14, a15, a16, a17, a18, a19, a20, a21, a22, a23, a24]) PyData.str (twB as) PyData.str (names as) [] (by simp; omega) (fun nm _ => by
    have hc := comp_ones Φ as nm hl a0 a1 a2 a4 a5 a6 a7 a8 a11 a12 a13 a14 a15 a16 a17 a18 a19 a20 a21 a22 a23 a24
    have ho := ones_len (as.filter fun a => decide (a.1 = nm) && a.2.2.2)
    change v_len _ = some (.int (cntB as nm : Nat), .sh) at ho
    have h2 : decide ((1 : Int) < (cntB as nm : Nat)) = twB as nm := by
      unfold twB
      rw [Bool.eq_iff_iff, decide_eq_true_eq, decide_eq_true_eq]
      omega
    exact ⟨[a0, a1, a2, .fz (encAs as), a4, a5, a6, a7, a8, .fz (.str nm), .no, a11, a12, a13, a14, a15, a16, a17, a18, a19, a20, a21, a22, a23, a24], .sh, by simp, by simp [c_law_17, hc, ho, h2, -List.length_map], fun _ => by simp, by simp⟩)
theorem comp_rms (n : Nat) (as : List Ask) (hl : as.length ≤ 50) (a0 a1 a2 a4 a5 a6 a7 a8 a10 a11 a12 a13 a14 a15 a16 a17 a18 a19 a20 a21 a22 a23 a24 : Sl) : compE (phi tbl gls (n+1)) gls [9] (.nm 9) c_law_14 e_law_15 ((names as).map .str) [] [a0, a1, a2, .fz (encAs as), a4, a5, a6, a7, a8, .no, a10, a11, a12, a13, a14, a15, a16, a17, a18, a19, a20, a21, a22, a23, a24] = some ((rmsL as).map encRm, [a0, a1, a2, .fz (encAs as), a4, a5, a6, a7, a8, .no, a10, a11, a12, a13, a14, a15, a16, a17, a18, a19, a20, a21, a22, a23, a24]) := by
  have hz : (10000 : Nat) < sizeLine := by decide
  have s1 : (1 : Nat) ≤ sizeLine := by decide
  have s3 : (3 : Nat) ≤ sizeLine := by decide
  have hnl := names_len as
  have hc := compE_pf (Φ := phi tbl gls (n+1)) (gl := gls) (vs := [9]) (g := .nm 9) (c := c_law_14) (e := e_law_15) (ρ := [a0, a1, a2, .fz (encAs as), a4, a5, a6, a7, a8, .no, a10, a11, a12, a13, a14, a15, a16, a17, a18, a19, a20, a21, a22, a23, a24]) PyData.str (freeB as) (fun nm => encRm (rmOf as nm)) (names as) [] (by simp; omega) (fun nm hnm => by
    have h2 : phi tbl gls (n+1) 24 [encAs as, .str nm] = _ := phi__law_room n as nm hl (own_ne.mpr hnm)
    have i2 : ixV (encR (roomR as nm)) (.int 2) = some (encO (roomR as nm).2.2) := by simp [encR]
    have hsl := sl_R (roomR as nm)
    refine ⟨[a0, a1, a2, .fz (encAs as), a4, a5, a6, a7, a8, .fz (.str nm), a10, a11, a12, a13, a14, a15, a16, a17, a18, a19, a20, a21, a22, a23, a24], .sh, by simp, ?_, fun _ => by simp [e_law_15, h2, hsl, s1, s3, encRm, rmOf], by simp⟩
    unfold freeB
    cases ho : (roomR as nm).2.2 <;> simp [c_law_14, h2, i2, ho])
  have he : ((names as).filter (freeB as)).map (fun nm => encRm (rmOf as nm)) = (rmsL as).map encRm := by unfold rmsL; rw [List.map_map]; rfl
  rw [List.nil_append, he] at hc
  exact hc
theorem comp_sm (n : Nat) (as : List Ask) (hl : as.length ≤ 50) (a0 a1 a2 a4 a5 a6 a7 a8 a9 a10 a11 a12 a13 a14 a15 a16 a17 a18 a19 a20 a22 a23 a24 : Sl) : compE (phi tbl gls (n+1)) gls [21] (.nm 21) c_law_13 (.var 21) (iidx 0 as.length) [] [a0, a1, a2, .fz (encAs as), a4, a5, a6, a7, a8, a9, a10, a11, a12, a13, a14, a15, a16, a17, a18, a19, a20, .no, a22, a23, a24] = some ((smL as).map .int, [a0, a1, a2, .fz (encAs as), a4, a5, a6, a7, a8, a9, a10, a11, a12, a13, a14, a15, a16, a17, a18, a19, a20, .no, a22, a23, a24]) := by
  have hz : (10000 : Nat) < sizeLine := by decide
  have hc := compE_pf (Φ := phi tbl gls (n+1)) (gl := gls) (vs := [21]) (g := .nm 21) (c := c_law_13) (e := .var 21) (ρ := [a0, a1, a2, .fz (encAs as), a4, a5, a6, a7, a8, a9, a10, a11, a12, a13, a14, a15, a16, a17, a18, a19, a20, .no, a22, a23, a24]) (fun z : Ask × Nat => .int (0 + (z.2 : Nat))) (smB as) (fun z => .int (z.2 : Nat)) as.zipIdx [] (by simp; omega) (fun z hz => by
    have hg := zipIdx_get hz
    have h1 := ix_As hg
    have h2 : phi tbl gls (n+1) 24 [encAs as, .str z.1.1] = _ := phi__law_room n as z.1.1 hl (own_mem (List.mem_of_getElem? hg))
    refine ⟨[a0, a1, a2, .fz (encAs as), a4, a5, a6, a7, a8, a9, a10, a11, a12, a13, a14, a15, a16, a17, a18, a19, a20, .fz (.int (z.2 : Nat)), a22, a23, a24], .sh, by simp, ?_, fun _ => by simp, by simp⟩
    have hsm : smB as z = ((roomR as z.1.1).2.2.isSome && (decide ((roomR as z.1.1).1 < z.1.2.1) || decide ((roomR as z.1.1).2.1 < z.1.2.2.1))) := rfl
    rw [hsm]
    generalize roomR as z.1.1 = r at h2 ⊢
    obtain ⟨sz, al, o⟩ := r
    cases o with
    | none => simp [c_law_13, h1, h2, encR]
    | some p => by_cases c1 : sz < z.1.2.1 <;> simp [c_law_13, h1, h2, encR, c1])
  rw [← iidx_zip, List.nil_append] at hc
  have he : (as.zipIdx.filter (smB as)).map (fun z => PyData.int (z.2 : Nat)) = (smL as).map .int := by unfold smL; rw [List.map_map]; rfl
  rw [he] at hc
  exact hc
theorem comp_grow (n : Nat) (as ms : List Ask) (hl : as.length + ms.length ≤ 50) (a0 a1 a2 a5 a6 a7 a8 a10 a11 a12 a13 a14 a15 a16 a17 a18 a19 a20 a21 a22 a23 a24 : Sl) : compE (phi tbl gls (n+1)) gls [9] (.nm 9) c_law_7 (.var 9) ((names as).map .str) [] [a0, a1, a2, .fz (encAs as), .fz (encAs ms), a5, a6, a7, a8, .no, a10, a11, a12, a13, a14, a15, a16, a17, a18, a19, a20, a21, a22, a23, a24] = some ((growL as ms).map .str, [a0, a1, a2, .fz (encAs as), .fz (encAs ms), a5, a6, a7, a8, .no, a10, a11, a12, a13, a14, a15, a16, a17, a18, a19, a20, a21, a22, a23, a24]) := by
  have hz : (10000 : Nat) < sizeLine := by decide
  have hnl := names_len as
  have hadd := add_As as ms (by omega)
  exact compE_pf (Φ := phi tbl gls (n+1)) (gl := gls) (vs := [9]) (g := .nm 9) (c := c_law_7) (e := .var 9) (ρ := [a0, a1, a2, .fz (encAs as), .fz (encAs ms), a5, a6, a7, a8, .no, a10, a11, a12, a13, a14, a15, a16, a17, a18, a19, a20, a21, a22, a23, a24]) PyData.str (growB as ms) PyData.str (names as) [] (by simp; omega) (fun nm hnm => by
    have h1 : phi tbl gls (n+1) 24 [encAs as, .str nm] = _ := phi__law_room n as nm (by omega) (own_ne.mpr hnm)
    have h2 : phi tbl gls (n+1) 24 [encAs (as ++ ms), .str nm] = _ := phi__law_room n (as ++ ms) nm (by simp; omega) (own_ne.mpr (names_app hnm))
    refine ⟨[a0, a1, a2, .fz (encAs as), .fz (encAs ms), a5, a6, a7, a8, .fz (.str nm), a10, a11, a12, a13, a14, a15, a16, a17, a18, a19, a20, a21, a22, a23, a24], .sh, by simp, ?_, fun _ => by simp, by simp⟩
    have hg : growB as ms nm = (decide ((roomR as nm).1 < (roomR (as ++ ms) nm).1) || decide ((roomR as nm).2.1 < (roomR (as ++ ms) nm).2.1)) := rfl
    rw [hg]
    generalize roomR as nm = r at h1 ⊢
    generalize roomR (as ++ ms) nm = r2 at h2 ⊢
    by_cases c1 : r.1 < r2.1 <;> simp [c_law_7, hadd, h1, h2, encR, c1])
theorem comp_most (Φ : Nat → List PyData → Option (PyData × List PyData)) (as : List Ask) (hl : as.length ≤ 50) (a0 a1 a2 a4 a5 a6 a7 a8 a11 a12 a13 a14 a15 a16 a17 a18 a19 a20 a21 a22 a23 a24 : Sl) : compE Φ gls [9] (.nm 9) (.bl true) e_law_6 ((names as).map .str) [] [a0, a1, a2, .fz (encAs as), a4, a5, a6, a7, a8, .no, .no, a11, a12, a13, a14, a15, a16, a17, a18, a19, a20, a21, a22, a23, a24] = some ((names as).map (mostD as), [a0, a1, a2, .fz (encAs as), a4, a5, a6, a7, a8, .no, .no, a11, a12, a13, a14, a15, a16, a17, a18, a19, a20, a21, a22, a23, a24]) := by
  have hz : (10000 : Nat) < sizeLine := by decide
  have s2 : (2 : Nat) ≤ sizeLine := by decide
  have hnl := names_len as
  exact compE_f (Φ := Φ) (gl := gls) (vs := [9]) (g := .nm 9) (e := e_law_6) (ρ := [a0, a1, a2, .fz (encAs as), a4, a5, a6, a7, a8, .no, .no, a11, a12, a13, a14, a15, a16, a17, a18, a19, a20, a21, a22, a23, a24]) PyData.str (mostD as) (names as) [] (by simp; omega) (fun nm _ => by
    have hc := compE_pf (Φ := Φ) (gl := gls) (vs := [10]) (g := .nm 10) (c := c_law_5) (e := .int 1) (ρ := [a0, a1, a2, .fz (encAs as), a4, a5, a6, a7, a8, .fz (.str nm), .no, a11, a12, a13, a14, a15, a16, a17, a18, a19, a20, a21, a22, a23, a24]) encA (fun a => decide (a.1 = nm)) (fun _ => .int 1) as [] (by simp; omega) (fun a _ => ⟨[a0, a1, a2, .fz (encAs as), a4, a5, a6, a7, a8, .fz (.str nm), .fz (encA a), a11, a12, a13, a14, a15, a16, a17, a18, a19, a20, a21, a22, a23, a24], .sh, by simp, by simp [c_law_5], fun _ => by simp, by simp⟩)
    rw [List.nil_append] at hc
    have ho := ones_len (as.filter fun a => decide (a.1 = nm))
    change v_len _ = some (.int (cntN as nm : Nat), .sh) at ho
    exact ⟨[a0, a1, a2, .fz (encAs as), a4, a5, a6, a7, a8, .fz (.str nm), .no, a11, a12, a13, a14, a15, a16, a17, a18, a19, a20, a21, a22, a23, a24], .sh, by simp, by simp [e_law_6, hc, ho, mostD, s2, -List.length_map], by simp⟩)
theorem comp_whole (n : Nat) (as : List Ask) (hl : as.length ≤ 50) (a0 a1 a2 a4 a5 a6 a7 a8 a10 a11 a12 a13 a14 a15 a16 a17 a18 a19 a20 a21 a22 a23 a24 : Sl) : compE (phi tbl gls (n+1)) gls [9] (.nm 9) (.bl true) e_law_4 ((names as).map .str) [] [a0, a1, a2, .fz (encAs as), a4, a5, a6, a7, a8, .no, a10, a11, a12, a13, a14, a15, a16, a17, a18, a19, a20, a21, a22, a23, a24] = some (((names as).map fun nm => (roomR as nm).1).map .int, [a0, a1, a2, .fz (encAs as), a4, a5, a6, a7, a8, .no, a10, a11, a12, a13, a14, a15, a16, a17, a18, a19, a20, a21, a22, a23, a24]) := by
  have hz : (10000 : Nat) < sizeLine := by decide
  have hnl := names_len as
  rw [List.map_map]
  exact compE_f (Φ := phi tbl gls (n+1)) (gl := gls) (vs := [9]) (g := .nm 9) (e := e_law_4) (ρ := [a0, a1, a2, .fz (encAs as), a4, a5, a6, a7, a8, .no, a10, a11, a12, a13, a14, a15, a16, a17, a18, a19, a20, a21, a22, a23, a24]) PyData.str (fun nm => .int (roomR as nm).1) (names as) [] (by simp; omega) (fun nm hnm => by
    have h2 : phi tbl gls (n+1) 24 [encAs as, .str nm] = _ := phi__law_room n as nm hl (own_ne.mpr hnm)
    exact ⟨[a0, a1, a2, .fz (encAs as), a4, a5, a6, a7, a8, .fz (.str nm), a10, a11, a12, a13, a14, a15, a16, a17, a18, a19, a20, a21, a22, a23, a24], .sh, by simp, by simp [e_law_4, h2, encR], by simp⟩)
theorem comp_key (Φ : Nat → List PyData → Option (PyData × List PyData)) (rs : List Rm) (hl : rs.length ≤ 100) (a0 a1 a2 a3 a4 a5 a6 a7 a8 a9 a10 a11 a12 a13 a14 a15 a16 a17 a18 a20 a21 a22 a23 a24 : Sl) : compE Φ gls [19] (.nm 19) (.bl true) e_law_2 (rs.map encRm) [] [a0, a1, a2, a3, a4, a5, a6, a7, a8, a9, a10, a11, a12, a13, a14, a15, a16, a17, a18, .no, a20, a21, a22, a23, a24] = some (rs.map keyT, [a0, a1, a2, a3, a4, a5, a6, a7, a8, a9, a10, a11, a12, a13, a14, a15, a16, a17, a18, .no, a20, a21, a22, a23, a24]) := by
  have hz : (10000 : Nat) < sizeLine := by decide
  have s4 : (4 : Nat) ≤ sizeLine := by decide
  exact compE_f (Φ := Φ) (gl := gls) (vs := [19]) (g := .nm 19) (e := e_law_2) (ρ := [a0, a1, a2, a3, a4, a5, a6, a7, a8, a9, a10, a11, a12, a13, a14, a15, a16, a17, a18, .no, a20, a21, a22, a23, a24]) encRm keyT rs [] (by simp; omega) (fun r _ => ⟨[a0, a1, a2, a3, a4, a5, a6, a7, a8, a9, a10, a11, a12, a13, a14, a15, a16, a17, a18, .fz (encRm r), a20, a21, a22, a23, a24], .sh, by simp, by simp [e_law_2, keyT, s4], by simp⟩)
theorem comp_unkey (Φ : Nat → List PyData → Option (PyData × List PyData)) (rs : List Rm) (hl : rs.length ≤ 100) (a0 a1 a2 a3 a4 a5 a6 a7 a8 a9 a10 a11 a12 a13 a14 a15 a16 a17 a18 a19 a20 a21 a23 a24 : Sl) : compE Φ gls [22] (.nm 22) (.bl true) e_law_3 (rs.map keyT) [] [a0, a1, a2, a3, a4, a5, a6, a7, a8, a9, a10, a11, a12, a13, a14, a15, a16, a17, a18, a19, a20, a21, .no, a23, a24] = some (rs.map encRm, [a0, a1, a2, a3, a4, a5, a6, a7, a8, a9, a10, a11, a12, a13, a14, a15, a16, a17, a18, a19, a20, a21, .no, a23, a24]) := by
  have hz : (10000 : Nat) < sizeLine := by decide
  exact compE_f (Φ := Φ) (gl := gls) (vs := [22]) (g := .nm 22) (e := e_law_3) (ρ := [a0, a1, a2, a3, a4, a5, a6, a7, a8, a9, a10, a11, a12, a13, a14, a15, a16, a17, a18, a19, a20, a21, .no, a23, a24]) keyT encRm rs [] (by simp; omega) (fun r _ => ⟨[a0, a1, a2, a3, a4, a5, a6, a7, a8, a9, a10, a11, a12, a13, a14, a15, a16, a17, a18, a19, a20, a21, .fz (keyT r), a23, a24], .sh, by simp, by simp [e_law_3, keyT], by simp⟩)
end LW

namespace LW
open PySem PySem.Spec PyProof.Rows L2 PP
/-! name by name -/
theorem aOk_ints (h : Nat) (xs : List Int) (hl : xs.length ≤ 5000) : aOk (h+1) (encI xs) := by
  rw [encI, aOk_t]
  refine ⟨by simpa using hl, fun x hx => ?_⟩
  obtain ⟨i, _, rfl⟩ := List.mem_map.mp hx
  simp
theorem aOk_strs (h : Nat) (xs : List Str) (hl : xs.length ≤ 5000) : aOk (h+1) (encN xs) := by
  rw [encN, aOk_t]
  refine ⟨by simpa using hl, fun x hx => ?_⟩
  obtain ⟨i, _, rfl⟩ := List.mem_map.mp hx
  simp
theorem aOk_R (h : Nat) (r : Rr) : aOk (h+1) (encR r) := by
  rw [encR, aOk_t]
  refine ⟨by simp, fun x hx => ?_⟩
  simp only [List.mem_cons, List.not_mem_nil, or_false] at hx
  rcases hx with rfl | rfl | rfl
  · simp
  · simp
  · cases r.2.2 <;> simp
theorem aOk_Rs (h : Nat) (rs : List Rm) (hl : rs.length ≤ 5000) : aOk (h+2) (encRs rs) := by
  rw [encRs, aOk_t]
  refine ⟨by simpa using hl, fun x hx => ?_⟩
  obtain ⟨i, _, rfl⟩ := List.mem_map.mp hx
  rw [encRm, aOk_t]
  refine ⟨by simp, fun x hx => ?_⟩
  simp only [List.mem_cons, List.not_mem_nil, or_false] at hx
  rcases hx with rfl | rfl | rfl <;> simp
theorem decL_len (as : List Ask) (nm : Str) : (decL as nm).length ≤ as.length := by
  unfold decL ownZ
  rw [List.length_map]
  refine Nat.le_trans (List.length_filter_le ..) (Nat.le_trans (List.length_filter_le ..) ?_)
  simp
theorem comp_own (Φ : Nat → List PyData → Option (PyData × List PyData)) (as : List Ask) (nm : Str) (hl : as.length ≤ 50) (a0 a1 a2 a4 a5 a6 a7 a8 a10 a11 a12 a13 a14 a15 a16 a17 a18 a19 a20 a22 a23 a24 : Sl) : compE Φ gls [21] (.nm 21) c_law_11 (.var 21) (iidx 0 as.length) [] [a0, a1, a2, .fz (encAs as), a4, a5, a6, a7, a8, .fz (.str nm), a10, a11, a12, a13, a14, a15, a16, a17, a18, a19, a20, .no, a22, a23, a24] = some ((ownZ as nm).map (fun z => .int (z.2 : Nat)), [a0, a1, a2, .fz (encAs as), a4, a5, a6, a7, a8, .fz (.str nm), a10, a11, a12, a13, a14, a15, a16, a17, a18, a19, a20, .no, a22, a23, a24]) := by
  have hz : (10000 : Nat) < sizeLine := by decide
  have hc := compE_pf (Φ := Φ) (gl := gls) (vs := [21]) (g := .nm 21) (c := c_law_11) (e := .var 21) (ρ := [a0, a1, a2, .fz (encAs as), a4, a5, a6, a7, a8, .fz (.str nm), a10, a11, a12, a13, a14, a15, a16, a17, a18, a19, a20, .no, a22, a23, a24]) (fun z : Ask × Nat => .int (0 + (z.2 : Nat))) (fun z => decide (z.1.1 = nm)) (fun z => .int (z.2 : Nat)) as.zipIdx [] (by simp; omega) (fun z hz => by
    have h1 := ix_As (zipIdx_get hz)
    exact ⟨[a0, a1, a2, .fz (encAs as), a4, a5, a6, a7, a8, .fz (.str nm), a10, a11, a12, a13, a14, a15, a16, a17, a18, a19, a20, .fz (.int (z.2 : Nat)), a22, a23, a24], .sh, by simp, by simp [c_law_11, h1], fun _ => by simp, by simp⟩)
  rw [← iidx_zip, List.nil_append] at hc
  exact hc
theorem comp_rests (Φ : Nat → List PyData → Option (PyData × List PyData)) (as : List Ask) (nm : Str) (hl : as.length ≤ 50) (a0 a1 a2 a4 a5 a6 a7 a8 a9 a10 a11 a12 a13 a14 a15 a16 a17 a18 a19 a20 a22 a23 a24 : Sl) : compE Φ gls [21] (.nm 21) (.bl true) e_law_10 ((ownZ as nm).map (fun z => .int (z.2 : Nat))) [] [a0, a1, a2, .fz (encAs as), a4, a5, a6, a7, a8, a9, a10, a11, a12, a13, a14, a15, a16, a17, a18, a19, a20, .no, a22, a23, a24] = some ((ownZ as nm).map (fun z => .tuple [.int (z.2 : Nat), encAs (restK as z.2)]), [a0, a1, a2, .fz (encAs as), a4, a5, a6, a7, a8, a9, a10, a11, a12, a13, a14, a15, a16, a17, a18, a19, a20, .no, a22, a23, a24]) := by
  have hz : (10000 : Nat) < sizeLine := by decide
  have s2 : (2 : Nat) ≤ sizeLine := by decide
  have hol : (ownZ as nm).length ≤ 50 := Nat.le_trans (List.length_filter_le ..) (by simpa using hl)
  exact compE_f (Φ := Φ) (gl := gls) (vs := [21]) (g := .nm 21) (e := e_law_10) (ρ := [a0, a1, a2, .fz (encAs as), a4, a5, a6, a7, a8, a9, a10, a11, a12, a13, a14, a15, a16, a17, a18, a19, a20, .no, a22, a23, a24]) (fun z : Ask × Nat => .int (z.2 : Nat)) (fun z => .tuple [.int (z.2 : Nat), encAs (restK as z.2)]) (ownZ as nm) [] (by simp; omega) (fun z hz => by
    have t1 := sl_take as z.2
    have t2 := sl_drop as z.2
    have t3 := add_rest as z.2 hl
    exact ⟨[a0, a1, a2, .fz (encAs as), a4, a5, a6, a7, a8, a9, a10, a11, a12, a13, a14, a15, a16, a17, a18, a19, a20, .fz (.int (z.2 : Nat)), a22, a23, a24], .sh, by simp, by simp [e_law_10, t1, t2, t3, s2], by simp⟩)
theorem own_filter (as : List Ask) (nm : Str) : (as.filter fun a => decide (a.1 = nm)).isEmpty = (ownZ as nm).isEmpty := by
  have h1 := isE_own (as := as) (nm := nm)
  have h2 : decide (nm ∈ names as) = !(as.filter fun a => decide (a.1 = nm)).isEmpty := by
    rw [Bool.eq_iff_iff, decide_eq_true_eq, names_mem]
    constructor
    · rintro ⟨a, ha, e⟩
      cases hf : as.filter fun a => decide (a.1 = nm) with
      | nil =>
        have := List.filter_eq_nil_iff.mp hf a ha
        simp [e] at this
      | cons x xs => rfl
    · intro h
      cases hf : as.filter fun a => decide (a.1 = nm) with
      | nil => rw [hf] at h; simp at h
      | cons x xs =>
        have : x ∈ as.filter fun a => decide (a.1 = nm) := by rw [hf]; exact List.mem_cons_self ..
        rw [List.mem_filter] at this
        exact ⟨x, this.1, by simpa using this.2⟩
  rw [h1] at h2
  cases h3 : (ownZ as nm).isEmpty <;> cases h4 : (as.filter fun a => decide (a.1 = nm)).isEmpty <;> simp_all
theorem comp_turns (n : Nat) (as : List Ask) (nm : Str) (hl : as.length ≤ 50) (hnm : nm ∈ names as) (a0 a1 a2 a4 a5 a6 a7 a8 a10 a11 a12 a13 a14 a15 a16 a17 a18 a19 a20 a22 : Sl) : compE (phi tbl gls (n+1)) gls [21, 23] (.tp [.nm 21, .nm 23]) c_law_9 (.var 21) ((ownZ as nm).map (fun z => .tuple [.int (z.2 : Nat), encAs (restK as z.2)])) [] [a0, a1, a2, .fz (encAs as), a4, a5, a6, a7, a8, .fz (.str nm), a10, a11, a12, a13, a14, a15, a16, a17, a18, a19, a20, .no, a22, .no, .no] = some ((decL as nm).map .int, [a0, a1, a2, .fz (encAs as), a4, a5, a6, a7, a8, .fz (.str nm), a10, a11, a12, a13, a14, a15, a16, a17, a18, a19, a20, .no, a22, .no, .no]) := by
  have hz : (10000 : Nat) < sizeLine := by decide
  have s0 : (0 : Nat) ≤ sizeLine := by decide
  have hol : (ownZ as nm).length ≤ 50 := Nat.le_trans (List.length_filter_le ..) (by simpa using hl)
  have h2 : phi tbl gls (n+1) 24 [encAs as, .str nm] = _ := phi__law_room n as nm hl (own_ne.mpr hnm)
  have hc := compE_pf (Φ := phi tbl gls (n+1)) (gl := gls) (vs := [21, 23]) (g := .tp [.nm 21, .nm 23]) (c := c_law_9) (e := .var 21) (ρ := [a0, a1, a2, .fz (encAs as), a4, a5, a6, a7, a8, .fz (.str nm), a10, a11, a12, a13, a14, a15, a16, a17, a18, a19, a20, .no, a22, .no, .no]) (fun z : Ask × Nat => .tuple [.int (z.2 : Nat), encAs (restK as z.2)]) (fun z => decB as nm z.2) (fun z => .int (z.2 : Nat)) (ownZ as nm) [] (by simp; omega) (fun z hz => by
    have hrl := restK_len as z.2
    refine ⟨[a0, a1, a2, .fz (encAs as), a4, a5, a6, a7, a8, .fz (.str nm), a10, a11, a12, a13, a14, a15, a16, a17, a18, a19, a20, .fz (.int (z.2 : Nat)), a22, .fz (encAs (restK as z.2)), .no], .sh, by simp, ?_, fun _ => by simp, by simp⟩
    have hc := compE_pf (Φ := phi tbl gls (n+1)) (gl := gls) (vs := [24]) (g := .nm 24) (c := c_law_8) (e := .int 1) (ρ := [a0, a1, a2, .fz (encAs as), a4, a5, a6, a7, a8, .fz (.str nm), a10, a11, a12, a13, a14, a15, a16, a17, a18, a19, a20, .fz (.int (z.2 : Nat)), a22, .fz (encAs (restK as z.2)), .no]) encA (fun a => decide (a.1 = nm)) (fun _ => .int 1) (restK as z.2) [] (by simp; omega) (fun a _ => ⟨[a0, a1, a2, .fz (encAs as), a4, a5, a6, a7, a8, .fz (.str nm), a10, a11, a12, a13, a14, a15, a16, a17, a18, a19, a20, .fz (.int (z.2 : Nat)), a22, .fz (encAs (restK as z.2)), .fz (encA a)], .sh, by simp, by simp [c_law_8], fun _ => by simp, by simp⟩)
    rw [List.nil_append] at hc
    have hof := own_filter (restK as z.2) nm
    have t6 : ownZ (restK as z.2) nm ≠ [] → phi tbl gls (n+1) 24 [encAs (restK as z.2), .str nm] = some (encR (roomR (restK as z.2) nm), []) := fun h => phi__law_room n (restK as z.2) nm (by omega) h
    have t7 := ne_22 (roomR (restK as z.2) nm).1 (roomR (restK as z.2) nm).2.1 (roomR as nm).1 (roomR as nm).2.1
    have hd : decB as nm z.2 = ((ownZ (restK as z.2) nm).isEmpty || !(decide ((roomR (restK as z.2) nm).1 = (roomR as nm).1) && decide ((roomR (restK as z.2) nm).2.1 = (roomR as nm).2.1))) := rfl
    rw [hd, ← hof]
    rw [← List.isEmpty_eq_false_iff, ← hof] at t6
    generalize (restK as z.2).filter (fun a => decide (a.1 = nm)) = Q at hc t6 ⊢
    cases Q with
    | nil => simp [c_law_9, hc, s0, show cmpV .Eq (.list []) (.list []) = some true from rfl]
    | cons q qs =>
      have t6 := t6 rfl
      simp [c_law_9, hc, s0, t6, h2, sl_R, t7, show ∀ (x : PyData) xs, cmpV .Eq (.list (x :: xs)) (.list []) = some false from fun _ _ => rfl])
  have he : ((ownZ as nm).filter (fun z => decB as nm z.2)).map (fun z => PyData.int (z.2 : Nat)) = (decL as nm).map .int := by unfold decL; rw [List.map_map]; rfl
  rw [List.nil_append, he] at hc
  exact hc
theorem imm_rests (as : List Ask) (zs : List (Ask × Nat)) : immAll (zs.map (fun z => PyData.tuple [.int (z.2 : Nat), encAs (restK as z.2)])) = true := by induction zs <;> simp [*]
theorem turn_name (n : Nat) (as : List Ask) (nm : Str) (hl : as.length ≤ 50) (hnm : nm ∈ names as) (d5 : PyData) (a0 a1 a2 a4 a6 a7 a8 a13 a14 a15 a16 a17 a18 a19 a20 a22 : Sl) : turnE (phi tbl gls (n+5)) gls [] (.nm 9) b_law_12 [9, 10, 11, 12] (.str nm) [a0, a1, a2, .fz (encAs as), a4, .fz d5, a6, a7, a8, .no, .no, .no, .no, a13, a14, a15, a16, a17, a18, a19, a20, .no, a22, .no, .no] = some (.nx [a0, a1, a2, .fz (encAs as), a4, .fz d5, a6, a7, a8, .no, .no, .no, .no, a13, a14, a15, a16, a17, a18, a19, a20, .no, a22, .no, .no]) := by
  have hz : (10000 : Nat) < sizeLine := by decide
  have s2 : (2 : Nat) ≤ sizeLine := by decide
  have hr := rngD_n (n := as.length) (by omega)
  have h1 : phi tbl gls (n+5) 10 [encAs as, .str nm] = _ := phi_room_for (n+4) as nm hl (own_ne.mpr hnm)
  have h2 : phi tbl gls (n+5) 24 [encAs as, .str nm] = _ := phi__law_room (n+4) as nm hl (own_ne.mpr hnm)
  have h3 : phi tbl gls (n+5) 19 [encAs as, .str nm] = _ := phi_decides (n+2) as nm hl hnm
  have hdl := decL_len as nm
  have hi1 := imm_ks (ownZ as nm)
  have hi2 := imm_rests as (ownZ as nm)
  have ha : phi tbl gls (n+5) 23 [.tuple [encR (roomR as nm), encI (decL as nm)], .tuple [encR (roomR as nm), encI (decL as nm)]] = _ := phi_alike 2 (n+2) _ (by
    rw [aOk_t]
    refine ⟨by simp, fun x hx => ?_⟩
    simp only [List.mem_cons, List.not_mem_nil, or_false] at hx
    rcases hx with rfl | rfl
    · exact aOk_R 0 _
    · exact aOk_ints 0 _ (by omega))
  have c1 := comp_own (phi tbl gls (n+5)) as nm hl a0 a1 a2 a4 (.fz d5) a6 a7 a8 (.no) (.no) (.no) a13 a14 a15 a16 a17 a18 a19 a20 a22 (.no) (.no)
  have c2 := comp_rests (phi tbl gls (n+5)) as nm hl a0 a1 a2 a4 (.fz d5) a6 a7 a8 (.fz (.str nm)) (.ow (.list ((ownZ as nm).map (fun z => .int (z.2 : Nat))))) (.no) (.no) a13 a14 a15 a16 a17 a18 a19 a20 a22 (.no) (.no)
  have c3 := comp_turns (n+4) as nm hl hnm a0 a1 a2 a4 (.fz d5) a6 a7 a8 (.ow (.list ((ownZ as nm).map (fun z => .int (z.2 : Nat))))) (.ow (.list ((ownZ as nm).map (fun z => .tuple [.int (z.2 : Nat), encAs (restK as z.2)])))) (.no) a13 a14 a15 a16 a17 a18 a19 a20 a22
  have hrun : runs (phi tbl gls (n+5)) gls [] b_law_12 [a0, a1, a2, .fz (encAs as), a4, .fz d5, a6, a7, a8, .fz (.str nm), .no, .no, .no, a13, a14, a15, a16, a17, a18, a19, a20, .no, a22, .no, .no] = some (.nx [a0, a1, a2, .fz (encAs as), a4, .fz d5, a6, a7, a8, .fz (.str nm), .ow (.list ((ownZ as nm).map (fun z => .int (z.2 : Nat)))), .ow (.list ((ownZ as nm).map (fun z => .tuple [.int (z.2 : Nat), encAs (restK as z.2)]))), .fz (encI (decL as nm)), a13, a14, a15, a16, a17, a18, a19, a20, .no, a22, .no, .no]) := by
    unfold b_law_12
    rw [runs_step (ρ1 := [a0, a1, a2, .fz (encAs as), a4, .fz d5, a6, a7, a8, .fz (.str nm), .ow (.list ((ownZ as nm).map (fun z => .int (z.2 : Nat)))), .no, .no, a13, a14, a15, a16, a17, a18, a19, a20, .no, a22, .no, .no]) (by simp [als, alsO, alsI, alss, mods, modsO, modsI, modss, len_As, hr, c1, hi1])]
    rw [runs_step (ρ1 := [a0, a1, a2, .fz (encAs as), a4, .fz d5, a6, a7, a8, .fz (.str nm), .ow (.list ((ownZ as nm).map (fun z => .int (z.2 : Nat)))), .ow (.list ((ownZ as nm).map (fun z => .tuple [.int (z.2 : Nat), encAs (restK as z.2)]))), .no, a13, a14, a15, a16, a17, a18, a19, a20, .no, a22, .no, .no]) (by simp [als, alsO, alsI, alss, mods, modsO, modsI, modss, c2, hi2])]
    rw [runs_step (ρ1 := [a0, a1, a2, .fz (encAs as), a4, .fz d5, a6, a7, a8, .fz (.str nm), .ow (.list ((ownZ as nm).map (fun z => .int (z.2 : Nat)))), .ow (.list ((ownZ as nm).map (fun z => .tuple [.int (z.2 : Nat), encAs (restK as z.2)]))), .fz (encI (decL as nm)), a13, a14, a15, a16, a17, a18, a19, a20, .no, a22, .no, .no]) (by simp [als, alsO, alsI, alss, mods, modsO, modsI, modss, c3, tup_I])]
    simp [als, alsO, alsI, alss, mods, modsO, modsI, modss, h1, h2, h3, ha, s2]
  simp [hrun]
theorem loop_name (n : Nat) (as : List Ask) (hl : as.length ≤ 50) (d5 : PyData) (a0 a1 a2 a4 a6 a7 a8 a13 a14 a15 a16 a17 a18 a19 a20 a22 : Sl) : forE (phi tbl gls (n+5)) gls [] (.nm 9) b_law_12 [9, 10, 11, 12] ((names as).map .str) [a0, a1, a2, .fz (encAs as), a4, .fz d5, a6, a7, a8, .no, .no, .no, .no, a13, a14, a15, a16, a17, a18, a19, a20, .no, a22, .no, .no] = some (.nx [a0, a1, a2, .fz (encAs as), a4, .fz d5, a6, a7, a8, .no, .no, .no, .no, a13, a14, a15, a16, a17, a18, a19, a20, .no, a22, .no, .no]) :=
  forE_foldN (Φ := phi tbl gls (n+5)) (gl := gls) (ios := []) (g := .nm 9) (b := b_law_12) (dead := [9, 10, 11, 12]) (fun _ : Unit => [a0, a1, a2, .fz (encAs as), a4, .fz d5, a6, a7, a8, .no, .no, .no, .no, a13, a14, a15, a16, a17, a18, a19, a20, .no, a22, .no, .no]) PyData.str (fun s _ => s) (fun _ _ => True) (names as) () [a0, a1, a2, .fz (encAs as), a4, .fz d5, a6, a7, a8, .no, .no, .no, .no, a13, a14, a15, a16, a17, a18, a19, a20, .no, a22, .no, .no] rfl trivial (fun s nm m hnm _ => ⟨turn_name n as nm hl hnm d5 a0 a1 a2 a4 a6 a7 a8 a13 a14 a15 a16 a17 a18 a19 a20 a22, trivial⟩)
end LW

namespace LW
open PySem PySem.Spec PyProof.Rows L2 PP
theorem twL_len (as : List Ask) : (twL as).length ≤ as.length := Nat.le_trans (List.length_filter_le ..) (names_len as)
theorem smL_len (as : List Ask) : (smL as).length ≤ as.length := by
  unfold smL
  rw [List.length_map]
  exact Nat.le_trans (List.length_filter_le ..) (by simp)
theorem growL_len (as ms : List Ask) : (growL as ms).length ≤ as.length := Nat.le_trans (List.length_filter_le ..) (names_len as)
theorem rmsL_len (as : List Ask) : (rmsL as).length ≤ as.length := by
  unfold rmsL
  rw [List.length_map]
  exact Nat.le_trans (List.length_filter_le ..) (names_len as)
theorem aOk_all (as : List Ask) (hl : as.length ≤ 50) : aOk 3 (allV as) := by
  have h1 := rmsL_len as
  have h2 := twL_len as
  unfold allV
  split
  · rw [aOk_t]
    refine ⟨by simp, fun x hx => ?_⟩
    simp only [List.mem_cons, List.not_mem_nil, or_false] at hx
    rcases hx with rfl | rfl
    · simp
    · exact aOk_Rs 0 _ (by omega)
  · rw [aOk_t]
    refine ⟨by simp, fun x hx => ?_⟩
    simp only [List.mem_cons, List.not_mem_nil, or_false] at hx
    rcases hx with rfl | rfl
    · simp
    · exact aOk_strs 1 _ (by omega)
theorem alike_1 (n : Nat) (as : List Ask) (hl : as.length ≤ 50) : phi tbl gls (n+5) 23 [.tuple [encN (names as), encN (twL as), allV as, encI (smL as), .bool true], .tuple [encN (names as), encN (twL as), allV as, encI (smL as), .bool true]] = some (.bool true, []) := phi_alike 4 n _ (by
  have h1 := names_len as
  have h2 := twL_len as
  have h3 := smL_len as
  rw [aOk_t]
  refine ⟨by simp, fun x hx => ?_⟩
  simp only [List.mem_cons, List.not_mem_nil, or_false] at hx
  rcases hx with rfl | rfl | rfl | rfl | rfl
  · exact aOk_strs 2 _ (by omega)
  · exact aOk_strs 2 _ (by omega)
  · exact aOk_all as hl
  · exact aOk_ints 2 _ (by omega)
  · simp)
theorem aOk_most (as : List Ask) (o : Option Str) : aOk 2 (mostV as o) := by
  cases o with
  | none => simp [mostV]
  | some nm =>
    rw [mostV, aOk_t]
    refine ⟨by simp, fun x hx => ?_⟩
    simp only [List.mem_cons, List.not_mem_nil, or_false] at hx
    rcases hx with rfl | rfl <;> simp
theorem alike_2 (n : Nat) (as ms : List Ask) (hl : as.length ≤ 50) (o : Option Str) : phi tbl gls (n+4) 23 [.tuple [encN (growL as ms), mostV as o, .int (wholeI as)], .tuple [encN (growL as ms), mostV as o, .int (wholeI as)]] = some (.bool true, []) := phi_alike 3 n _ (by
  have h1 := growL_len as ms
  rw [aOk_t]
  refine ⟨by simp, fun x hx => ?_⟩
  simp only [List.mem_cons, List.not_mem_nil, or_false] at hx
  rcases hx with rfl | rfl | rfl
  · exact aOk_strs 1 _ (by omega)
  · exact aOk_most as o
  · simp)
theorem mx_al : ∀ (xs : List Int), xs ≠ [] → (∀ x, x ∈ xs → isAl x) → isAl (mxL xs)
  | [], h, _ => absurd rfl h
  | x :: xs, _, h => by
    rcases (maxI_spec x xs).2.2 with e | e
    · show isAl (maxI x xs)
      rw [e]; exact h x (List.mem_cons_self ..)
    · exact h _ (List.mem_cons_of_mem _ e)
theorem room_al {as : List Ask} (h : okAs as) {nm : Str} (hne : ownZ as nm ≠ []) : isAl (roomR as nm).2.1 := by
  have hm : ∀ z, z ∈ ownZ as nm → isAl z.1.2.2.1 := fun z hz => (h.2 z.1 (List.mem_of_getElem? (zipIdx_get (List.mem_filter.mp hz).1))).2.2
  unfold roomR
  cases hg : givZ as nm with
  | nil =>
    refine mx_al _ (by simpa using hne) fun x hx => ?_
    obtain ⟨z, hz, rfl⟩ := List.mem_map.mp hx
    exact hm z hz
  | cons z zs =>
    have : z ∈ givZ as nm := by rw [hg]; exact List.mem_cons_self ..
    exact hm z (List.mem_filter.mp this).1
theorem okRs_rms {as : List Ask} (h : okAs as) : okRs (rmsL as) := by
  have := rmsL_len as
  refine ⟨by have := h.1; omega, fun r hr => ?_⟩
  unfold rmsL at hr
  obtain ⟨nm, hnm, rfl⟩ := List.mem_map.mp hr
  exact room_al h (own_ne.mpr (List.mem_filter.mp hnm).1)
def mostW (as : List Ask) (o : Option Str) : PyData := match o with
  | none => PyData.none
  | some nm => mostD as nm
@[simp] theorem mostW_n (as : List Ask) : mostW as none = .none := id rfl
@[simp] theorem mostW_s (as : List Ask) (nm : Str) : mostW as (some nm) = mostD as nm := id rfl
theorem turn_law (n : Nat) (ms : List Int) (hm : ∀ z, z ∈ ms → 0 ≤ z) (k : Int) (hk : 0 ≤ k) (x0 : Sl) (i : Int) : ∃ k', 0 ≤ k' ∧ turnE (phi tbl gls (n+10)) gls [] (.nm 2) b_law_19 [2, 3, 4, 5, 6, 7, 8, 9, 10, 11, 12, 13, 14, 15, 16, 17, 18, 19, 20] (.int i) [x0, .ow (wS ms k), .no, .no, .no, .no, .no, .no, .no, .no, .no, .no, .no, .no, .no, .no, .no, .no, .no, .no, .no, .no, .no, .no, .no] = some (.nx [x0, .ow (wS ms k'), .no, .no, .no, .no, .no, .no, .no, .no, .no, .no, .no, .no, .no, .no, .no, .no, .no, .no, .no, .no, .no, .no, .no]) := by
  have hz : (10000 : Nat) < sizeLine := by decide
  have s0 : (0 : Nat) ≤ sizeLine := by decide
  have s1 : (1 : Nat) ≤ sizeLine := by decide
  have s2 : (2 : Nat) ≤ sizeLine := by decide
  have s3 : (3 : Nat) ≤ sizeLine := by decide
  have s5 : (5 : Nat) ≤ sizeLine := by decide
  have s9 : (9 : Nat) ≤ sizeLine := by decide
  obtain ⟨ma, ma0, ma1, e1⟩ := phi__law_next (n+9) ms hm k hk 7 (by omega)
  obtain ⟨as, k1, hk1, hA, hA2, e2⟩ := phi__law_asks (n+7) ms hm (k+1) (by omega) ma ma0 (by omega)
  obtain ⟨mb, mb0, mb1, e3⟩ := phi__law_next (n+9) ms hm k1 hk1 3 (by omega)
  obtain ⟨bs, k2, hk2, hB, hB2, e4⟩ := phi__law_asks (n+7) ms hm (k1+1) (by omega) mb mb0 (by omega)
  have hl : as.length ≤ 50 := by omega
  have hl2 : as.length + bs.length ≤ 50 := by omega
  have hc2 := comp_prs (phi tbl gls (n+10)) as hl (x0) (.ow (wS ms k2)) (.fz (.int i)) (.fz (encAs as)) (.fz (encAs bs)) .no .no .no .no .no .no .no .no .no .no .no .no .no .no .no .no .no .no .no
  obtain ⟨D, hd1, hd2⟩ := sorted_names as hl
  have hc3 := comp_tw (phi tbl gls (n+10)) as hl (x0) (.ow (wS ms k2)) (.fz (.int i)) (.fz (encAs bs)) (.ow (.list ((names as).map .str))) .no .no .no .no .no .no .no .no .no .no .no .no .no .no .no .no .no
  have hc4 := comp_rms (n+9) as hl (x0) (.ow (wS ms k2)) (.fz (.int i)) (.fz (encAs bs)) (.ow (.list ((names as).map .str))) (.fz (encN (twL as))) .no .no .no .no .no .no .no .no .no .no .no .no .no .no .no .no .no
  have hr5 := rngD_n (n := as.length) (by omega)
  have hc5 := comp_sm (n+9) as hl (x0) (.ow (wS ms k2)) (.fz (.int i)) (.fz (encAs bs)) (.ow (.list ((names as).map .str))) (.fz (encN (twL as))) (.fz (encRs (rmsL as))) .no .no .no .no .no .no .no .no .no .no .no .no .no .no .no .no
  have f9 : phi tbl gls (n+10) 9 [encAs as] = _ := phi_asked_names (n+8) as hl
  have f11 : phi tbl gls (n+10) 11 [encAs as] = _ := phi_rooms_given_twice (n+7) as hl
  have f13 : phi tbl gls (n+10) 13 [encAs as] = _ := phi_all_rooms (n+6) as hl
  have f12 : phi tbl gls (n+10) 12 [encAs as] = _ := phi_too_small (n+8) as hl
  have f8 : phi tbl gls (n+10) 8 [encAs as] = _ := phi_are_asks (n+6) as hA
  have fa1 : phi tbl gls (n+10) 23 _ = _ := alike_1 (n+5) as hl
  have hne := ne_N (twL as)
  have hl7 := loop_name (n+5) as hl (.list ((names as).map .str)) (x0) (.ow (wS ms k2)) (.fz (.int i)) (.fz (encAs bs)) (.fz (encN (twL as))) (.fz (encRs (rmsL as))) (.fz (encI (smL as))) .no .no .no .no .no .no .no .no .no
  have hc8 := comp_grow (n+9) as bs hl2 (x0) (.ow (wS ms k2)) (.fz (.int i)) (.fz (.list ((names as).map .str))) (.fz (encN (twL as))) (.fz (encRs (rmsL as))) (.fz (encI (smL as))) .no .no .no .no .no .no .no .no .no .no .no .no .no .no .no
  obtain ⟨o, ho⟩ := most_ex as hl
  have hc9 := comp_most (phi tbl gls (n+10)) as hl (x0) (.ow (wS ms k2)) (.fz (.int i)) (.fz (encAs bs)) (.fz (.list ((names as).map .str))) (.fz (encN (twL as))) (.fz (encRs (rmsL as))) (.fz (encI (smL as))) .no .no (.fz (encN (growL as bs))) .no .no .no .no .no .no .no .no .no .no .no
  have hmd : ∀ nm, immD (mostD as nm) = true := fun nm => by simp [mostD]
  have hne5 := cmpV_ne0 (xs := (names as).map PyData.str)
  have f17 : phi tbl gls (n+10) 17 [encAs as, encAs bs] = _ := phi_grown_by (n+7) as bs hl2
  have f18 : phi tbl gls (n+10) 18 [encAs as] = _ := phi_asked_most (n+7) as hl o ho
  have f16 : phi tbl gls (n+10) 16 [encAs as] = _ := phi_whole_room (n+7) as hl
  have hc10 := fun d14 : PyData => comp_whole (n+9) as hl (x0) (.ow (wS ms k2)) (.fz (.int i)) (.fz (encAs bs)) (.fz (.list ((names as).map .str))) (.fz (encN (twL as))) (.fz (encRs (rmsL as))) (.fz (encI (smL as))) .no .no .no (.fz (encN (growL as bs))) (.fz d14) .no .no .no .no .no .no .no .no .no .no
  have hv10 := v_sum_m ((names as).map fun nm => (roomR as nm).1)
  have hwi : ((names as).map fun nm => (roomR as nm).1).sum = wholeI as := rfl
  rw [hwi] at hv10
  have fa2 : phi tbl gls (n+10) 23 _ = _ := alike_2 (n+6) as bs hl o
  have i0 : ∀ nm, ixV (mostD as nm) (.int 0) = some (.int (-(cntN as nm : Nat))) := fun nm => by simp [mostD]
  have i1 : ∀ nm, ixV (mostD as nm) (.int 1) = some (.str nm) := fun nm => by simp [mostD]
  have in0 : ∀ nm, cmpV .IsNot (mostD as nm) .none = some true := fun nm => by simp [mostD]
  obtain ⟨ys, hs, hp⟩ := sort_rm (rmsL as) (by have := rmsL_len as; omega)
  have hyl : ys.length = (rmsL as).length := hp.length_eq
  have hrl := rmsL_len as
  have hoy : okRs ys := ⟨by omega, fun r hr => (okRs_rms hA).2 r (hp.mem_iff.mp hr)⟩
  have hc11 := comp_key (phi tbl gls (n+10)) (rmsL as) (by omega) (x0) (.ow (wS ms k2)) (.fz (.int i)) (.fz (encAs as)) (.fz (encAs bs)) (.fz (.list ((names as).map .str))) (.fz (encN (twL as))) (.fz (encRs (rmsL as))) (.fz (encI (smL as))) .no .no .no .no (.fz (encN (growL as bs))) (.fz (mostW as o)) .no .no .no .no .no .no .no .no .no
  have hc12 := comp_unkey (phi tbl gls (n+10)) ys (by omega) (x0) (.ow (wS ms k2)) (.fz (.int i)) (.fz (encAs as)) (.fz (encAs bs)) (.fz (.list ((names as).map .str))) (.fz (encN (twL as))) (.fz (encRs (rmsL as))) (.fz (encI (smL as))) .no .no .no .no (.fz (encN (growL as bs))) (.fz (mostW as o)) .no .no .no .no .no .no .no .no .no
  obtain ⟨bg, bg0, bg1, e12⟩ := phi__law_next (n+9) ms hm k2 hk2 40 (by omega)
  have hd0 : dictOf (pairUp []) = some [] := rfl
  have hi0 : immTop (.dict []) = true := rfl
  obtain ⟨e, hl14⟩ := loop_put (phi tbl gls (n+10)) ys bg hoy (x0) (.ow (wS ms (k2+1))) (.fz (.int i)) (.fz (encAs as)) (.fz (encAs bs)) (.fz (.list ((names as).map .str))) (.fz (encN (twL as))) (.fz (encRs (rmsL as))) (.fz (encI (smL as))) .no .no .no .no (.fz (encN (growL as bs))) (.fz (mostW as o)) (.fz (encRs ys)) (.fz (.int bg)) .no .no .no .no .no
  have f14 : phi tbl gls (n+10) 14 [encRs (rmsL as)] = _ := phi_rooms_by_alignment (n+9) (rmsL as) ys (by omega) hs (by omega)
  have f15 : phi tbl gls (n+10) 15 [encRs ys, .int bg] = _ := phi_put_rooms (n+7) ys bg hoy
  have fa3 : phi tbl gls (n+10) 23 [encRs ys, encRs ys] = _ := phi_alike 2 (n+7) _ (aOk_Rs 0 ys (by omega))
  have hnp := ne_pl bg ys
  have hadd : ∀ b : PyData, binV .Add (encAs as) (.tuple [b]) = some (asBad as b, .sh) := fun b => by rw [encAs, binV_addT, if_pos (by simp; omega)]; rfl
  have hlst : biV .list [encAs as] = some (.list (as.map encA), .fr) := rfl
  have hl16 := loop_bad (n+6) as hA (x0) (.ow (wS ms (k2+1))) (.fz (.int i)) (.fz (encAs as)) (.fz (encAs bs)) (.fz (.list ((names as).map .str))) (.fz (encN (twL as))) (.fz (encRs (rmsL as))) (.fz (encI (smL as))) .no .no .no .no (.fz (encN (growL as bs))) (.fz (mostW as o)) (.fz (encRs ys)) (.fz (.int bg)) (.fz (.int e)) (.ow (dPl (mkA (putP bg ys)))) .no .no .no .no .no
  have s4 : (4 : Nat) ≤ sizeLine := by decide
  refine ⟨k2+1, by omega, ?_⟩
  rw [turnE_eq, asgG_nm]
  simp only [List.length_cons, List.length_nil, List.set]
  rw [if_pos (by decide), runA_some]
  unfold b_law_19
  rw [runs_step (ρ1 := [x0, .ow (wS ms k2), .fz (.int i), .fz (encAs as), .fz (encAs bs), .no, .no, .no, .no, .no, .no, .no, .no, .no, .no, .no, .no, .no, .no, .no, .no, .no, .no, .no, .no]) (by simp [als, alsO, alsI, alss, mods, modsO, modsI, modss, e1, e2, e3, e4])]
  rw [runs_step (ρ1 := [x0, .ow (wS ms k2), .fz (.int i), .fz (encAs as), .fz (encAs bs), .ow (.list ((names as).map .str)), .no, .no, .no, .no, .no, .no, .no, .no, .no, .no, .no, .no, .no, .no, .no, .no, .no, .no, .no]) (by simp [als, alsO, alsI, alss, mods, modsO, modsI, modss, hc2, hd1, hd2, -List.map_map])]
  rw [runs_step (ρ1 := [x0, .ow (wS ms k2), .fz (.int i), .fz (encAs as), .fz (encAs bs), .ow (.list ((names as).map .str)), .fz (encN (twL as)), .no, .no, .no, .no, .no, .no, .no, .no, .no, .no, .no, .no, .no, .no, .no, .no, .no, .no]) (by simp [als, alsO, alsI, alss, mods, modsO, modsI, modss, hc3, tup_N])]
  rw [runs_step (ρ1 := [x0, .ow (wS ms k2), .fz (.int i), .fz (encAs as), .fz (encAs bs), .ow (.list ((names as).map .str)), .fz (encN (twL as)), .fz (encRs (rmsL as)), .no, .no, .no, .no, .no, .no, .no, .no, .no, .no, .no, .no, .no, .no, .no, .no, .no]) (by simp [als, alsO, alsI, alss, mods, modsO, modsI, modss, hc4, tup_Rs])]
  rw [runs_step (ρ1 := [x0, .ow (wS ms k2), .fz (.int i), .fz (encAs as), .fz (encAs bs), .ow (.list ((names as).map .str)), .fz (encN (twL as)), .fz (encRs (rmsL as)), .fz (encI (smL as)), .no, .no, .no, .no, .no, .no, .no, .no, .no, .no, .no, .no, .no, .no, .no, .no]) (by simp [als, alsO, alsI, alss, mods, modsO, modsI, modss, len_As, hr5, hc5, tup_I])]
  rw [runs_step (ρ1 := [x0, .ow (wS ms k2), .fz (.int i), .fz (encAs as), .fz (encAs bs), .ow (.list ((names as).map .str)), .fz (encN (twL as)), .fz (encRs (rmsL as)), .fz (encI (smL as)), .no, .no, .no, .no, .no, .no, .no, .no, .no, .no, .no, .no, .no, .no, .no, .no]) (by 
    by_cases h : twL as = []
    · have hav : allV as = .tuple [.str (Str.ofString "yes"), encRs (rmsL as)] := by unfold allV; rw [if_pos h]
      rw [h] at hne; simp only [List.isEmpty_nil, Bool.not_true] at hne
      rw [h] at f11 fa1; rw [hav] at f13 fa1
      simp [als, alsO, alsI, alss, mods, modsO, modsI, modss, f9, f11, f13, f12, f8, fa1, hne, h, s2, s5, tup_N]
    · have hav : allV as = .tuple [.str (Str.ofString "no"), encN (twL as)] := by unfold allV; rw [if_neg h]
      have : (twL as).isEmpty = false := by cases hx : twL as <;> simp_all
      rw [this] at hne; rw [hav] at f13 fa1
      simp [als, alsO, alsI, alss, mods, modsO, modsI, modss, f9, f11, f13, f12, f8, fa1, hne, s2, s5, tup_N])]
  rw [runs_step (by
    rw [run_for, evIt_eq]
    simp [als, alsO, alsI, alss, mods, modsO, modsI, modss]
    exact hl7)]
  rw [runs_step (ρ1 := [x0, .ow (wS ms k2), .fz (.int i), .fz (encAs as), .fz (encAs bs), .fz (.list ((names as).map .str)), .fz (encN (twL as)), .fz (encRs (rmsL as)), .fz (encI (smL as)), .no, .no, .no, .no, .fz (encN (growL as bs)), .no, .no, .no, .no, .no, .no, .no, .no, .no, .no, .no]) (by simp [als, alsO, alsI, alss, mods, modsO, modsI, modss, hc8, tup_N])]
  rw [runs_step (ρ1 := [x0, .ow (wS ms k2), .fz (.int i), .fz (encAs as), .fz (encAs bs), .fz (.list ((names as).map .str)), .fz (encN (twL as)), .fz (encRs (rmsL as)), .fz (encI (smL as)), .no, .no, .no, .no, .fz (encN (growL as bs)), .fz (mostW as o), .no, .no, .no, .no, .no, .no, .no, .no, .no, .no]) (by 
    rcases ho with ⟨h1, rfl⟩ | ⟨nm, rfl, h1, h2⟩
    · rw [h1]; simp [als, alsO, alsI, alss, mods, modsO, modsI, modss]
    · have : cmpV .NotEq (.list ((names as).map PyData.str)) (.list []) = some true := by
        rw [hne5]; cases hx : names as <;> simp_all
      simp [als, alsO, alsI, alss, mods, modsO, modsI, modss, this, hc9, h2, hmd])]
  rw [runs_step (ρ1 := [x0, .ow (wS ms k2), .fz (.int i), .fz (encAs as), .fz (encAs bs), .fz (.list ((names as).map .str)), .fz (encN (twL as)), .fz (encRs (rmsL as)), .fz (encI (smL as)), .no, .no, .no, .no, .fz (encN (growL as bs)), .fz (mostW as o), .no, .no, .no, .no, .no, .no, .no, .no, .no, .no]) (by 
    cases o with
    | none => simp only [mostV] at f18 fa2; simp [als, alsO, alsI, alss, mods, modsO, modsI, modss, f17, f18, f16, hc10, hv10, fa2, s3, -List.map_map]
    | some nm => simp only [mostV] at f18 fa2; simp [als, alsO, alsI, alss, mods, modsO, modsI, modss, f17, f18, f16, hc10, hv10, fa2, i0, i1, in0, s2, s3, -List.map_map, -cmpV_isnN])]
  rw [runs_step (ρ1 := [x0, .ow (wS ms k2), .fz (.int i), .fz (encAs as), .fz (encAs bs), .fz (.list ((names as).map .str)), .fz (encN (twL as)), .fz (encRs (rmsL as)), .fz (encI (smL as)), .no, .no, .no, .no, .fz (encN (growL as bs)), .fz (mostW as o), .fz (encRs ys), .no, .no, .no, .no, .no, .no, .no, .no, .no]) (by simp [als, alsO, alsI, alss, mods, modsO, modsI, modss, hc11, hs, hc12, tup_Rs])]
  rw [runs_step (ρ1 := [x0, .ow (wS ms (k2+1)), .fz (.int i), .fz (encAs as), .fz (encAs bs), .fz (.list ((names as).map .str)), .fz (encN (twL as)), .fz (encRs (rmsL as)), .fz (encI (smL as)), .no, .no, .no, .no, .fz (encN (growL as bs)), .fz (mostW as o), .fz (encRs ys), .fz (.int bg), .fz (.int 0), .ow (.dict []), .no, .no, .no, .no, .no, .no]) (by simp [als, alsO, alsI, alss, mods, modsO, modsI, modss, e12, hd0, hi0])]
  rw [runs_step (ρ1 := [x0, .ow (wS ms (k2+1)), .fz (.int i), .fz (encAs as), .fz (encAs bs), .fz (.list ((names as).map .str)), .fz (encN (twL as)), .fz (encRs (rmsL as)), .fz (encI (smL as)), .no, .no, .no, .no, .fz (encN (growL as bs)), .fz (mostW as o), .fz (encRs ys), .fz (.int bg), .fz (.int bg), .ow (.dict []), .no, .no, .no, .no, .no, .no]) (by simp [als, alsO, alsI, alss, mods, modsO, modsI, modss])]
  rw [runs_step (by
    rw [run_for, evIt_eq]
    simp [als, alsO, alsI, alss, mods, modsO, modsI, modss]
    exact hl14)]
  rw [runs_step (ρ1 := [x0, .ow (wS ms (k2+1)), .fz (.int i), .fz (encAs as), .fz (encAs bs), .fz (.list ((names as).map .str)), .fz (encN (twL as)), .fz (encRs (rmsL as)), .fz (encI (smL as)), .no, .no, .no, .no, .fz (encN (growL as bs)), .fz (mostW as o), .fz (encRs ys), .fz (.int bg), .fz (.int e), .ow (dPl (mkA (putP bg ys))), .no, .no, .no, .no, .no, .no]) (by simp [als, alsO, alsI, alss, mods, modsO, modsI, modss, f14, f15, fa3, hnp])]
  rw [runs_step (by
    rw [run_for, evIt_eq]
    simp [als, alsO, alsI, alss, mods, modsO, modsI, modss, hadd, hlst, s1, s3, s4, s9, -biV_list]
    exact hl16)]
  simp [runs_nil]
end LW

namespace LW
open PySem PySem.Spec PyProof.Rows L2 PP
theorem dict0 (ms : List Int) : dictOf (wD ms "draws" [("at", 0)]) = some (wKvs ms [] 0) := rfl
theorem plainN (n : Nat) (ms : List Int) (hm0 : ∀ z, z ∈ ms → 0 ≤ z) (x0 : Sl) : ∃ ρ', runs (phi tbl gls (n+10)) gls [] b_law [x0, .ow (wS ms 0), .no, .no, .no, .no, .no, .no, .no, .no, .no, .no, .no, .no, .no, .no, .no, .no, .no, .no, .no, .no, .no, .no, .no] = some (.rt (.bool true) ρ') := by
  obtain ⟨ρ', e, k', h1, rfl⟩ := forE_rel (Φ := phi tbl gls (n+10)) (gl := gls) (ios := []) (g := .nm 2) (b := b_law_19) (dead := [2, 3, 4, 5, 6, 7, 8, 9, 10, 11, 12, 13, 14, 15, 16, 17, 18, 19, 20]) PyData.int (fun _ ρ => ∃ k, 0 ≤ k ∧ ρ = [x0, .ow (wS ms k), .no, .no, .no, .no, .no, .no, .no, .no, .no, .no, .no, .no, .no, .no, .no, .no, .no, .no, .no, .no, .no, .no, .no]) (by
    rintro i is ρ ⟨k, h1, rfl⟩
    obtain ⟨k', g1, e⟩ := turn_law n ms hm0 k h1 x0 i
    exact ⟨_, e, k', g1, rfl⟩) (rangeI 0 9) [x0, .ow (wS ms 0), .no, .no, .no, .no, .no, .no, .no, .no, .no, .no, .no, .no, .no, .no, .no, .no, .no, .no, .no, .no, .no, .no, .no] ⟨0, by omega, by simp⟩
  rw [← iidx_eq] at e
  refine ⟨[x0, .ow (wS ms k'), .no, .no, .no, .no, .no, .no, .no, .no, .no, .no, .no, .no, .no, .no, .no, .no, .no, .no, .no, .no, .no, .no, .no], ?_⟩
  unfold b_law
  rw [runs_step (by
    rw [run_for, evIt_eq]
    simp [als, alsO, alsI, alss, mods, modsO, modsI, modss, show rngD [PyData.int 9] = some (iidx 0 9) from rfl]
    exact e)]
  simp [als, alsO, alsI, alss, mods, modsO, modsI, modss]
theorem plain : Plain 199 := by
  intro ms hlen hm
  obtain ⟨ρ', e⟩ := plainN 189 ms (fun z h => (hm z h).1) _
  exact ⟨wKvs ms [] 0, ρ', dict0 ms, e⟩
end LW

open PySem PySem.W PySem.Calls PyProof.Rows
theorem PySem.Challenge.cw_linkwright_k26_rooms_that_many_ask_for_holds : PySem.Challenge.rw_linkwright_k26_rooms_that_many_ask_for.Holds := by
  w_on; o_law
  refine HandSHeadRun.head_any (r := OpenLaw.row PySem.Challenge.rw_linkwright_k26_rooms_that_many_ask_for) (q := view (OpenLaw.row PySem.Challenge.rw_linkwright_k26_rooms_that_many_ask_for).prog [32]) (H := LW.hk) (ob := LW.ob) (M := 4000) (loose := LW.loose1) (d := HandSHeadRun.topDef (OpenLaw.row PySem.Challenge.rw_linkwright_k26_rooms_that_many_ask_for).prog 32) (kwd := []) LW.ob_eq
    (by kernel_rfl) (fun s => by kernel_rfl) LW.run (by kernel_rfl) (by kernel_rfl) (by kernel_rfl) (by rfl) (by first | assumption | decide +kernel) (by decide +kernel) ⟨rfl, rfl, rfl, rfl, rfl, by decide +kernel⟩ ?hw ?hc
  case hw => w_witness2
  case hc =>
    refine L2.walk_ofE (l := PySem.Challenge.rw_linkwright_k26_rooms_that_many_ask_for) (n := 63) (k := 200) (x := "script") (CX := L2.CX0) rfl (by decide) (by kernel_rfl) ⟨rfl, by decide, by decide⟩ ?F (fun _ _ _ _ z => z)
    intro w mg fa h Y G hmg0
    obtain ⟨K, KX, ct, c⟩ := Y
    have hmg : mg ("law" : PySem.Str) = some (.ref fa) := by
      have e : (HandSHeadRun.topDef (OpenLaw.row PySem.Challenge.rw_linkwright_k26_rooms_that_many_ask_for).prog 32).name = ("law" : PySem.Str) := by kernel_rfl
      rw [← e]
      exact hmg0
    obtain ⟨fd, hb, hF⟩ := LW.ends (P := (PySem.Challenge.rw_linkwright_k26_rooms_that_many_ask_for).prog) (w := w) LW.plain KX G hmg ct c
    exact ⟨K, fd, PP.spLaw K, KX, hb, fun H a ns hl _ hS => ⟨a, ns, rfl, hS, hl, fun _ => rfl⟩, hF⟩
