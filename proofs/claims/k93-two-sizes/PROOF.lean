import PyProof.Rows.All
import Wide.All
import OpenK.AllK
import Wide.FinOn
import HandS.ForMost
import HandS.TupAny
import HandS.IsInst
import HandS.Conv
import HandS.Zip
import HandS.Deep
import HandS.Walk
import HandS.Style
import HandS.Flow
import HandS.TupLe
import HandS.Wide
import HandS.Strs
import HandS.Ends
import HandS.Defaults
import HandS.Head0
import HandS.Head1
import HandS.Head2
import HandS.HeadEnd
import HandS.HeadHook1
import HandS.HeadHook2
import HandS.HeadHook4
import HandS.DictTup
import HandS.TupLen
import HandS.SetFor
import HandS.TupSets
import KE.KeyNested
import KE.KDictPairs
import KE.DataMinMax
import KE.SortData
import PyProof.ReprRoads
import KE.GoesEnum
import KE.GoesNew
import KE.KDictCopyH
import KE.KDictSum
import KE.KDictItemsList
import HandS.RaiseMore
import KE.KStar
import KE.SortKeyHeap
import HandS.SortKw
import KE.KUnpack
import PySem.Challenge.RW_cornersled_k93_whole_two_sizes
set_option Elab.async false
set_option linter.all false
set_option maxRecDepth 100000
/-! A small functional language over data trees: its meaning. -/
namespace DT
open PySem

abbrev D := PyData
abbrev LINE : Nat := 16777216

/-- what the drawing of numbers carries along -/
structure PState where
  cells : List Int
  left : Int
  mixed : Int
  turn : Int

/-- what a slot holds: the source, or data (mine: made here and known nowhere else) -/
inductive Sl where
  | src
  | d (mine : Bool) (x : D)

abbrev Rho := List (Option Sl)
abbrev M (α : Type) := PState → Option (α × PState)
/-- a function: its arguments (none: the source) -/
abbrev Fn := List (Option D) → M D

def ret {α : Type} (x : α) : M α := fun g => some (x, g)
def fail {α : Type} : M α := fun _ => none
def ofO {α : Type} : Option α → M α
  | none => fail
  | some x => ret x
def bnd {α β : Type} (m : M α) (f : α → M β) : M β := fun g => match m g with
  | none => none
  | some (a, g') => f a g'

inductive BOp where
  | add | sub | mul | fdiv | mod | pow | shl
  deriving DecidableEq
inductive COp where
  | lt | le | gt | ge | eq | ne | is | isnt | mem | nmem
  deriving DecidableEq
inductive Ty where
  | int | bool | str | tuple | list | dict
  deriving DecidableEq
inductive Bl where
  | len | tuple | list | int | abs | sorted | all | any | sum | max | max2 | min | min2 | repr | isi (t : Ty) | listR1 | listR2 | tupR1 | lenSet | sortSet | lenDict | maxT
  deriving DecidableEq
inductive ItK where
  | seq | rng1 | rng2 | enum | zip2 | zip3 | items
  deriving DecidableEq
inductive Me where
  | index | get | items
  deriving DecidableEq
inductive Tg where
  | n (i : Nat)
  | t (ts : List Tg)

mutual
inductive Ex where
  | v (i : Nat)
  | k (c : D)
  | tup (es : Exs)
  | lst (es : Exs)
  | bin (o : BOp) (a b : Ex)
  | neg (a : Ex)
  | not (a : Ex)
  | and (es : Exs)
  | or (es : Exs)
  | cmp (a : Ex) (cs : Cps)
  | ite (t a b : Ex)
  | ix (a i : Ex)
  | sl (a lo hi : Ex)
  | rev (a : Ex)
  | abs
  | comp (elt : Ex) (tg : Tg) (ik : ItK) (ss ifs : Exs)
  | call (f : Nat) (args : Ars)
  | blt (b : Bl) (es : Exs)
  | meth (m : Me) (o : Ex) (es : Exs)
  | dnew (t : Bool)
  | disp (t : Bool) (fl : List Bool) (es : Exs)
  | sabs (a : Ex)
inductive Exs where
  | nil
  | cons (e : Ex) (r : Exs)
inductive Cps where
  | nil
  | cons (o : COp) (b : Ex) (r : Cps)
inductive Ars where
  | nil
  | src (i : Nat) (r : Ars)
  | ex (e : Ex) (r : Ars)
end

mutual
inductive Sx where
  | set (i : Nat) (e : Ex)
  | par (is : List Nat) (es : Exs)
  | unp (tg : Tg) (e : Ex)
  | six (i : Nat) (k e : Ex)
  | app (i : Nat) (e : Ex)
  | ext (i : Nat) (e : Ex)
  | iff (t : Ex) (a b : Sxs)
  | for (tg : Tg) (ik : ItK) (ss : Exs) (body : Sxs)
  | whl (t : Ex) (body : Sxs)
  | ret (e : Ex)
  | cont
  | pass
  | never
inductive Sxs where
  | nil
  | cons (s : Sx) (r : Sxs)
end

/-! ### operations on data -/
def lenOk (n : Nat) : Bool := decide (n ≤ LINE)
def mkT (xs : List D) : Option D := if lenOk xs.length then some (.tuple xs) else none
def mkL (xs : List D) : Option D := if lenOk xs.length then some (.list xs) else none

def wid (i : Int) : Bool := decide (-(2 ^ 64) < i) && decide (i < 2 ^ 64)
def binD : BOp → D → D → Option D
  | .add, .int i, .int j => some (.int (i + j))
  | .add, .tuple xs, .tuple ys => mkT (xs ++ ys)
  | .add, .list xs, .list ys => mkL (xs ++ ys)
  | .sub, .int i, .int j => some (.int (i - j))
  | .mul, .int i, .int j => if wid i || wid j then some (.int (i * j)) else none
  | .fdiv, .int i, .int j => if decide (j ≠ 0) && decide (j.natAbs < 2 ^ 512) then some (.int (i.fdiv j)) else none
  | .mod, .int i, .int j => if j ≠ 0 then some (.int (i.fmod j)) else none
  | .pow, .int i, .int j => if decide (0 ≤ j) && (decide (j ≤ 1000000) && decide (i.natAbs < 2 ^ 64)) then some (.int (i ^ j.toNat)) else none
  | .shl, .int i, .int j => if decide (0 ≤ j) && (decide (j ≤ 1000000) && decide (i.natAbs < 2 ^ 64)) then some (.int (i * 2 ^ j.toNat)) else none
  | _, _, _ => none

mutual
/-- the data as a key (whole numbers, and tuples of such) -/
def toKey : D → NestedKey
  | .int i => .num i
  | .str x => .text x
  | .tuple ds => .tup (toKeys ds)
  | _ => .none
def toKeys : List D → List NestedKey
  | [] => []
  | d :: ds => toKey d :: toKeys ds
end
mutual
def keyOk : D → Bool
  | .int _ => true
  | .tuple ds => keysOk ds
  | _ => false
def keysOk : List D → Bool
  | [] => true
  | d :: ds => keyOk d && keysOk ds
end
def isInt : D → Bool
  | .int _ => true
  | _ => false
def isTup : D → Bool
  | .tuple _ => true
  | _ => false
/-- a tuple that may be a key -/
def tupKD (d : D) : Bool := isTup d && (keyOk d && decide ((toKey d).depth ≤ 8))
/-- a key among keys of its own kind -/
def dOk (kvs : List (D × D)) (k : D) : Bool := (tupKD k && kvs.all fun p => tupKD p.1) || (isInt k && kvs.all fun p => isInt p.1)
def dGet (kvs : List (D × D)) (k : D) : Option D := (kvs.find? fun p => decide (toKey p.1 = toKey k)).map (·.2)
def dPut (kvs : List (D × D)) (k v : D) : List (D × D) := if (kvs.any fun p => decide (toKey p.1 = toKey k)) = true then kvs.map (fun p => if toKey p.1 = toKey k then (p.1, v) else p) else kvs ++ [(k, v)]
def eqO : D → D → Option Bool
  | .str x, .str y => some (decide (x = y))
  | a, b => if SeqAt.shaped a && SeqAt.shaped b then some (PyData.eqv a b) else none
def memO (x c : D) : Option Bool := match c with
  | .list ds => if SeqAt.shaped x && SeqAt.shaped c then some (ds.any fun z => PyData.eqv z x) else none
  | .tuple ds => if SeqAt.shaped x && SeqAt.shaped c then some (ds.any fun z => PyData.eqv z x) else none
  | .dict kvs => if dOk kvs x then some (dGet kvs x).isSome else none
  | _ => none
def intsOf : List D → Option (List Int)
  | [] => some []
  | .int i :: r => match intsOf r with
    | some ns => some (i :: ns)
    | none => none
  | _ :: _ => none
def ltO : D → D → Option Bool
  | .int i, .int j => some (decide (i < j))
  | .tuple xs, .tuple ys => match intsOf xs, intsOf ys with
    | some ns, some ms => some (HT.lexLt ns ms)
    | _, _ => none
  | _, _ => none
def isO : D → D → Option Bool
  | .none, .none => some true
  | .bool _, .none | .int _, .none | .str _, .none | .list _, .none | .tuple _, .none | .dict _, .none => some false
  | .bool a, .bool b => some (decide (a = b))
  | _, _ => none
def cmpO : COp → D → D → Option Bool
  | .eq, a, b => eqO a b
  | .ne, a, b => (eqO a b).map not
  | .lt, a, b => ltO a b
  | .gt, .int i, .int j => some (decide (j < i))
  | .le, .int i, .int j => some (decide (i ≤ j))
  | .ge, .int i, .int j => some (decide (j ≤ i))
  | .is, a, b => isO a b
  | .isnt, a, b => (isO a b).map not
  | .mem, a, b => memO a b
  | .nmem, a, b => (memO a b).map not
  | _, _, _ => none

/-- a store that may be made -/
def sixOk (kvs : List (D × D)) (k : D) : Bool := tupKD k && ((kvs.all fun p => tupKD p.1) && decide (kvs.length < LINE))
def ixO : D → D → Option D
  | .list xs, .int i => L2.atI xs i
  | .tuple xs, .int i => L2.atI xs i
  | .dict kvs, k => if dOk kvs k then dGet kvs k else none
  | _, _ => none
/-- part lo to hi of a list -/
def cutL {α : Type} (xs : List α) (lo hi : Option Int) : List α := (xs.drop (HT.sIx xs.length 0 lo)).take (HT.sIx xs.length xs.length hi - HT.sIx xs.length 0 lo)
/-- a place counted from behind, -1 being the one ahead of all -/
def rIx (n : Nat) (d : Int) : Option Int → Int
  | none => d
  | some i => if i < 0 then max (i + n) (-1) else min i (n - 1)
def cutR {α : Type} (xs : List α) (lo hi : Option Int) : List α := ((xs.take (rIx xs.length (xs.length - 1) lo + 1).toNat).drop (rIx xs.length (-1) hi + 1).toNat).reverse
def slO : D → Option Int → Option Int → Option D
  | .list xs, lo, hi => some (.list (cutL xs lo hi))
  | .tuple xs, lo, hi => some (.tuple (cutL xs lo hi))
  | _, _, _ => none
def revO : D → Option D
  | .list xs => some (.list xs.reverse)
  | .tuple xs => some (.tuple xs.reverse)
  | _ => none

def seqO : D → Option (List D)
  | .list xs => some xs
  | .tuple xs => some xs
  | _ => none
def boolsOf : List D → Option (List Bool)
  | [] => some []
  | .bool b :: r => match boolsOf r with
    | some bs => some (b :: bs)
    | none => none
  | _ :: _ => none
def tyOf : D → Ty → Bool
  | .bool _, .int => true
  | .bool _, .bool => true
  | .int _, .int => true
  | .str _, .str => true
  | .tuple _, .tuple => true
  | .list _, .list => true
  | .dict _, .dict => true
  | _, _ => false
def rngL (a b : Int) : List D := (List.range (b - a).toNat).map fun i => .int (a + (i : Nat))
def rngO (a b : Int) : Option (List D) := if decide (-(2 ^ 62) ≤ a) && (decide (a < 2 ^ 62) && (decide (-(2 ^ 62) ≤ b) && (decide (b < 2 ^ 62) && decide ((b - a).toNat ≤ LINE)))) then some (rngL a b) else none
/-- data that sorted puts in order by what stands in it -/
def sortOk (xs : List D) : Bool := xs.all (fun d => xs.all fun e => PySem.W.alike d e) && ((xs.all fun d => match d with | .tuple (_ :: _) => true | _ => false) || (xs.all fun d => match d with | .none => false | .tuple _ => false | _ => true)) && (PyData.canLayAll0 xs && xs.all fun d => decide (d.depth ≤ 64))
def sortO (xs : List D) : Option (List D) := if sortOk xs then some (xs.mergeSort (PySem.W.dataLe false id)) else none
def maxI : List Int → Int
  | [] => 0
  | [x] => x
  | x :: r => max x (maxI r)
def minI : List Int → Int
  | [] => 0
  | [x] => x
  | x :: r => min x (minI r)
def noKeys : D → Bool
  | .dict [] => true
  | d => d.canLay0
def reprO (d : D) : Option D := if noKeys d && (d.showable && (decide (d.shown.length ≤ LINE) && decide (d.depth ≤ 64))) then some (.str d.shown) else none

/-- the keys of a list of pairs -/
def pairKs : List D → Option (List D)
  | [] => some []
  | .tuple [k, _] :: r => (pairKs r).map fun ks => k :: ks
  | _ :: _ => none
/-- each key once -/
def dedK {α : Type} [DecidableEq α] (ks : List α) : List α := ks.foldl (fun acc k => if k ∈ acc then acc else acc ++ [k]) []
def maxTOk (xs : List D) : Bool := (xs.all fun d => xs.all fun e => PySem.W.alike d e) && (xs.all (fun d => isTup d && decide (d.depth ≤ 64)) && PyData.canLayAll0 xs)
/-- tuples of whole numbers -/
def tupsOf : List D → Option (List (List Int))
  | [] => some []
  | .tuple ds :: r => match intsOf ds, tupsOf r with
    | some k, some ks => some (k :: ks)
    | _, _ => none
  | _ :: _ => none
def absI (i : Int) : Int := if i < 0 then -i else i
/-- sorted(.., key=abs) -/
def sabsO : D → Option D
  | .list xs => match intsOf xs with
    | some ns => if decide (ns.length ≤ LINE) then some (.list ((ns.mergeSort fun a b => decide (absI a ≤ absI b)).map .int)) else none
    | none => none
  | _ => none
/-- items put in a row, some of them sequences whose items are meant -/
def spl : List Bool → List D → Option (List D)
  | [], [] => some []
  | true :: fl, d :: ds => match seqO d, spl fl ds with
    | some xs, some r => some (xs ++ r)
    | _, _ => none
  | false :: fl, d :: ds => match spl fl ds with
    | some r => some (d :: r)
    | none => none
  | _, _ => none
def dispO (t : Bool) (fl : List Bool) (ds : List D) : Option D := match spl fl ds with
  | some xs => if t then mkT xs else mkL xs
  | none => none
def bltO : Bl → List D → Option D
  | .len, [.list xs] => some (.int xs.length)
  | .len, [.tuple xs] => some (.int xs.length)
  | .tuple, [x] => (seqO x).map .tuple
  | .list, [.dict kvs] => some (.list (kvs.map (·.1)))
  | .list, [x] => (seqO x).map .list
  | .int, [.int i] => some (.int i)
  | .int, [.bool b] => some (.int (if b then 1 else 0))
  | .abs, [.int i] => some (.int (if i < 0 then -i else i))
  | .sorted, [.dict kvs] => (sortO (kvs.map (·.1))).map .list
  | .sorted, [x] => match seqO x with
    | some xs => (sortO xs).map .list
    | none => none
  | .all, [.list xs] => (boolsOf xs).map fun bs => .bool (bs.all id)
  | .any, [.list xs] => (boolsOf xs).map fun bs => .bool (bs.any id)
  | .sum, [.list xs] => (intsOf xs).map fun ns => .int ns.sum
  | .sum, [.tuple xs] => (intsOf xs).map fun ns => .int ns.sum
  | .max, [.list xs] => match intsOf xs with
    | some (n :: ns) => some (.int (maxI (n :: ns)))
    | _ => none
  | .min, [.list xs] => match intsOf xs with
    | some (n :: ns) => some (.int (minI (n :: ns)))
    | _ => none
  | .max2, [.int i, .int j] => some (.int (if j > i then j else i))
  | .min2, [.int i, .int j] => some (.int (if j < i then j else i))
  | .repr, [x] => reprO x
  | .isi t, [x] => some (.bool (tyOf x t))
  | .listR1, [.int n] => (rngO 0 n).map .list
  | .listR2, [.int a, .int b] => (rngO a b).map .list
  | .tupR1, [.int n] => (rngO 0 n).map .tuple
  | .lenDict, [.list xs] => match pairKs xs with
    | some ks => if keysOk ks && (ks.all isInt || ks.all fun k => isTup k && decide ((toKey k).depth ≤ 8)) then some (.int (dedK (toKeys ks)).length) else none
    | none => none
  | .lenSet, [.list xs] => match intsOf xs with
    | some ns => if decide (ns.length < 64) then some (.int (dedK ns).length) else none
    | none => none
  | .lenSet, [.tuple xs] => match tupsOf xs with
    | some ks => if decide (ks.length < 64) then some (.int (dedK ks).length) else none
    | none => none
  | .sortSet, [.tuple xs] => match intsOf xs with
    | some ns => if decide (ns.length < 60) then some (.list (((dedK ns).mergeSort fun a b => decide (a ≤ b)).map .int)) else none
    | none => none
  | .maxT, [.list (x :: xs)] => if maxTOk (x :: xs) then some (PySem.W.maxD x xs) else none
  | _, _ => none

def enumL (xs : List D) : List D := xs.zipIdx.map fun p => .tuple [.int (p.2 : Nat), p.1]
def itO : ItK → List D → Option (List D)
  | .seq, [x] => seqO x
  | .rng1, [.int n] => rngO 0 n
  | .rng2, [.int a, .int b] => rngO a b
  | .enum, [x] => (seqO x).map enumL
  | .zip2, [x, y] => match seqO x, seqO y with
    | some xs, some ys => some (List.zipWith (fun a b => .tuple [a, b]) xs ys)
    | _, _ => none
  | _, _ => none

def metO : Me → D → List D → Option D
  | .index, .list xs, [y] => if SeqAt.shaped y && SeqAt.shaped (.list xs) then (xs.findIdx? fun z => PyData.eqv z y).map fun j => .int (j : Nat) else none
  | .get, .dict kvs, [k, x] => if dOk kvs k then some ((dGet kvs k).getD x) else none
  | .index, .tuple xs, [y] => if SeqAt.shaped y && SeqAt.shaped (.tuple xs) then (xs.findIdx? fun z => PyData.eqv z y).map fun j => .int (j : Nat) else none
  | _, _, _ => none

/-! ### slots -/
def getV (ρ : Rho) (i : Nat) : Option D := match ρ[i]? with
  | some (some (.d _ x)) => some x
  | _ => none
mutual
def slotsT : Tg → List Nat
  | .n i => [i]
  | .t ts => slotsTs ts
def slotsTs : List Tg → List Nat
  | [] => []
  | t :: r => slotsT t ++ slotsTs r
end
mutual
def bindT : Tg → D → Rho → Option Rho
  | .n i, d, ρ => some (ρ.set i (some (.d false d)))
  | .t ts, .tuple ds, ρ => bindTs ts ds ρ
  | .t ts, .list ds, ρ => bindTs ts ds ρ
  | .t _, _, _ => none
def bindTs : List Tg → List D → Rho → Option Rho
  | [], [], ρ => some ρ
  | t :: r, d :: ds, ρ => match bindT t d ρ with
    | some ρ' => bindTs r ds ρ'
    | none => none
  | _, _, _ => none
end
def wipeR (ρ : Rho) : List Nat → Rho
  | [] => ρ
  | i :: is => (wipeR ρ is).set i none

/-! ### which slots a value may share its objects with: within, and itself -/
mutual
def esi : Ex → List Nat
  | .tup es => escs es
  | .lst es => escs es
  | .bin .add a b => esi a ++ esi b
  | .ite _ a b => esi a ++ esi b
  | .ix a _ => esi a
  | .sl a _ _ => esi a
  | .rev a => esi a
  | .comp elt _ _ ss _ => escs ss ++ (esi elt ++ ael elt)
  | .call _ args => esca args
  | .blt .tuple es => esis es
  | .blt .list es => esis es
  | .blt .sorted es => esis es
  | .blt .maxT es => esis es
  | .meth _ o es => esi o ++ escs es
  | .disp _ _ es => escs es
  | _ => []
def ael : Ex → List Nat
  | .v i => [i]
  | .ite _ a b => ael a ++ ael b
  | .ix a _ => esi a
  | .call _ args => esca args
  | .meth _ o es => esi o ++ escs es
  | _ => []
def esis : Exs → List Nat
  | .nil => []
  | .cons e r => esi e ++ esis r
def escs : Exs → List Nat
  | .nil => []
  | .cons e r => esi e ++ ael e ++ escs r
def esca : Ars → List Nat
  | .nil => []
  | .src _ r => esca r
  | .ex e r => esi e ++ ael e ++ esca r
end
def esc (e : Ex) : List Nat := esi e ++ ael e
/-- its value is a list or dict that was just made, or no list or dict -/
def fresh : Ex → Bool
  | .v _ => false
  | .k _ => true
  | .ite _ _ _ => false
  | .ix _ _ => false
  | .call _ _ => false
  | .meth _ _ _ => false
  | .blt _ _ => true
  | _ => true
mutual
/-- no list and no dict within -/
def noMut : D → Bool
  | .list _ => false
  | .dict _ => false
  | .tuple ds => noMuts ds
  | _ => true
def noMuts : List D → Bool
  | [] => true
  | d :: ds => noMut d && noMuts ds
end
/-- a list whose items have none -/
def flatL : D → Bool
  | .list ds => noMuts ds
  | _ => false
/-- the slots that a value shares objects with, by what it is -/
def escV (e : Ex) (d : D) : List Nat := if noMut d || (fresh e && flatL d) then [] else esc e
def frz1 : Option Sl → Option Sl
  | some (.d _ x) => some (.d false x)
  | s => s
def freeze : List Nat → Rho → Rho
  | [], ρ => ρ
  | i :: is, ρ => (freeze is ρ).set i (frz1 ((freeze is ρ)[i]?.join))

/-! ### meaning -/
def compL (f : D → M (Option D)) : List D → M (List D)
  | [] => ret []
  | x :: xs => bnd (f x) fun o => bnd (compL f xs) fun ys => ret (match o with
    | none => ys
    | some y => y :: ys)
def toB : D → M Bool
  | .bool b => ret b
  | _ => fail
def partO : D → M (Option Int)
  | .int i => ret (some i)
  | _ => fail

mutual
def ev (F : List Fn) : Ex → Rho → M D
  | .v i, ρ => ofO (getV ρ i)
  | .k c, _ => ret c
  | .tup es, ρ => bnd (evs F es ρ) fun ds => ret (.tuple ds)
  | .lst es, ρ => bnd (evs F es ρ) fun ds => ret (.list ds)
  | .bin o a b, ρ => bnd (ev F a ρ) fun x => bnd (ev F b ρ) fun y => ofO (binD o x y)
  | .neg a, ρ => bnd (ev F a ρ) fun x => match x with
    | .int i => ret (.int (-i))
    | _ => fail
  | .not a, ρ => bnd (ev F a ρ) fun x => bnd (toB x) fun b => ret (.bool (!b))
  | .and es, ρ => bnd (evA F es ρ) fun b => ret (.bool b)
  | .or es, ρ => bnd (evO F es ρ) fun b => ret (.bool b)
  | .cmp a cs, ρ => bnd (ev F a ρ) fun x => bnd (evC F x cs ρ) fun b => ret (.bool b)
  | .ite t a b, ρ => bnd (ev F t ρ) fun x => bnd (toB x) fun c => if c then ev F a ρ else ev F b ρ
  | .ix a i, ρ => bnd (ev F a ρ) fun x => bnd (ev F i ρ) fun y => ofO (ixO x y)
  | .sl a lo hi, ρ => bnd (ev F a ρ) fun x => bnd (evP F lo ρ) fun l => bnd (evP F hi ρ) fun h => ofO (slO x l h)
  | .rev a, ρ => bnd (ev F a ρ) fun x => ofO (revO x)
  | .abs, _ => fail
  | .comp elt tg ik ss ifs, ρ => bnd (evs F ss ρ) fun ds => bnd (ofO (itO ik ds)) fun xs => bnd (compL (fun d => bnd (ofO (bindT tg d (wipeR (freeze (escs ss) ρ) (slotsT tg)))) fun ρ' =>
      bnd (evI F ifs ρ') fun b => if b then bnd (ev F elt ρ') fun y => ret (some y) else ret none) xs) fun ys => ret (.list ys)
  | .call f args, ρ => bnd (evr F args ρ) fun as => match F[f]? with
    | some h => h as
    | none => fail
  | .blt b es, ρ => bnd (evs F es ρ) fun ds => ofO (bltO b ds)
  | .meth m o es, ρ => bnd (ev F o ρ) fun x => bnd (evs F es ρ) fun ds => ofO (metO m x ds)
  | .dnew _, _ => ret (.dict [])
  | .disp t fl es, ρ => bnd (evs F es ρ) fun ds => ofO (dispO t fl ds)
  | .sabs a, ρ => bnd (ev F a ρ) fun x => ofO (sabsO x)
def evs (F : List Fn) : Exs → Rho → M (List D)
  | .nil, _ => ret []
  | .cons e r, ρ => bnd (ev F e ρ) fun x => bnd (evs F r ρ) fun xs => ret (x :: xs)
def evA (F : List Fn) : Exs → Rho → M Bool
  | .nil, _ => fail
  | .cons e .nil, ρ => bnd (ev F e ρ) toB
  | .cons e r, ρ => bnd (ev F e ρ) fun x => bnd (toB x) fun b => if b then evA F r ρ else ret false
def evO (F : List Fn) : Exs → Rho → M Bool
  | .nil, _ => fail
  | .cons e .nil, ρ => bnd (ev F e ρ) toB
  | .cons e r, ρ => bnd (ev F e ρ) fun x => bnd (toB x) fun b => if b then ret true else evO F r ρ
def evI (F : List Fn) : Exs → Rho → M Bool
  | .nil, _ => ret true
  | .cons e r, ρ => bnd (ev F e ρ) fun x => bnd (toB x) fun b => if b then evI F r ρ else ret false
def evC (F : List Fn) (x : D) : Cps → Rho → M Bool
  | .nil, _ => fail
  | .cons o b .nil, ρ => bnd (ev F b ρ) fun y => ofO (cmpO o x y)
  | .cons o b r, ρ => bnd (ev F b ρ) fun y => bnd (ofO (cmpO o x y)) fun c => if c then evC F y r ρ else ret false
def evP (F : List Fn) : Ex → Rho → M (Option Int)
  | .abs, _ => ret none
  | e, ρ => bnd (ev F e ρ) partO
def evr (F : List Fn) : Ars → Rho → M (List (Option D))
  | .nil, _ => ret []
  | .src i r, ρ => match ρ[i]? with
    | some (some .src) => bnd (evr F r ρ) fun xs => ret (none :: xs)
    | _ => fail
  | .ex e r, ρ => bnd (ev F e ρ) fun x => bnd (evr F r ρ) fun xs => ret (some x :: xs)
end
end DT
namespace DT
/-! ### statements -/
inductive Fl where
  | nx
  | ct
  | rt (d : D)
def forL (f : Rho → D → M (Fl × Rho)) : List D → Rho → M (Fl × Rho)
  | [], ρ => ret (.nx, ρ)
  | x :: xs, ρ => bnd (f ρ x) fun r => match r.1 with
    | .rt d => ret (.rt d, r.2)
    | _ => forL f xs r.2
def whlN (t : Rho → M Bool) (f : Rho → M (Fl × Rho)) : Nat → Rho → M (Fl × Rho)
  | 0, _ => fail
  | n + 1, ρ => bnd (t ρ) fun b => if b then bnd (f ρ) fun r => match r.1 with
      | .rt d => ret (.rt d, r.2)
      | _ => whlN t f n r.2
    else ret (.nx, ρ)
/-- turns that a while may take -/
def FU : Nat := 2 ^ 64
def setIs : List Nat → List (Bool × D) → Rho → Rho
  | i :: is, (b, d) :: ds, ρ => setIs is ds (ρ.set i (some (.d b d)))
  | _, _, ρ => ρ
def fres : Exs → List Bool
  | .nil => []
  | .cons e r => fresh e :: fres r
mutual
def ex (F : List Fn) : Sx → Rho → M (Fl × Rho)
  | .set i e, ρ => bnd (ev F e ρ) fun d => ret (.nx, (freeze (esc e) ρ).set i (some (.d (fresh e) d)))
  | .par is es, ρ => bnd (evs F es ρ) fun ds => ret (.nx, setIs is ((fres es).zip ds) (freeze (escs es) ρ))
  | .unp tg e, ρ => bnd (ev F e ρ) fun d => bnd (ofO (bindT tg d (freeze (esc e) ρ))) fun ρ' => ret (.nx, ρ')
  | .six i k e, ρ => bnd (ev F e ρ) fun d => bnd (ev F k ρ) fun y => match (freeze (escV e d) ρ)[i]? with
    | some (some (.d true (.dict kvs))) => if sixOk kvs y then ret (.nx, (freeze (escV e d) ρ).set i (some (.d true (.dict (dPut kvs y d))))) else fail
    | _ => fail
  | .app i e, ρ => bnd (ev F e ρ) fun d => match (freeze (esc e) ρ)[i]? with
    | some (some (.d true (.list xs))) => if decide (xs.length < LINE) then ret (.nx, (freeze (esc e) ρ).set i (some (.d true (.list (xs ++ [d]))))) else fail
    | _ => fail
  | .ext i e, ρ => bnd (ev F e ρ) fun d => match d, (freeze (esc e) ρ)[i]? with
    | .list ys, some (some (.d true (.list xs))) => if decide (xs.length + ys.length ≤ LINE) then ret (.nx, (freeze (esc e) ρ).set i (some (.d true (.list (xs ++ ys))))) else fail
    | _, _ => fail
  | .iff t a b, ρ => bnd (ev F t ρ) fun x => bnd (toB x) fun c => if c then exs F a ρ else exs F b ρ
  | .for tg ik ss body, ρ => bnd (evs F ss ρ) fun ds => bnd (ofO (itO ik ds)) fun xs =>
      forL (fun ρ x => bnd (ofO (bindT tg x ρ)) fun ρ' => exs F body ρ') xs (freeze (escs ss) ρ)
  | .whl t body, ρ => whlN (fun ρ => bnd (ev F t ρ) toB) (fun ρ => exs F body ρ) FU ρ
  | .ret e, ρ => bnd (ev F e ρ) fun d => ret (.rt d, ρ)
  | .cont, ρ => ret (.ct, ρ)
  | .pass, ρ => ret (.nx, ρ)
  | .never, _ => fail
def exs (F : List Fn) : Sxs → Rho → M (Fl × Rho)
  | .nil, ρ => ret (.nx, ρ)
  | .cons s r, ρ => bnd (ex F s ρ) fun q => match q.1 with
    | .nx => exs F r q.2
    | f => ret (f, q.2)
end
def sl0 : Option D → Option Sl
  | none => some .src
  | some d => some (.d false d)
/-- a def of n slots -/
def fnOf (F : List Fn) (n : Nat) (body : Sxs) : Fn := fun as => bnd (exs F body (as.map sl0 ++ List.replicate (n - as.length) none)) fun q => match q.1 with
  | .rt d => ret d
  | .nx => ret .none
  | .ct => fail
end DT

/-! Data trees in the layer's heap. -/
namespace DT
open PySem L2

abbrev Ms := Addr → Prop
def isS (sa : Addr × Addr) : Ms := fun a => a = sa.1 ∨ a = sa.2
/-- what was tracked and is not in N stands -/
def Keep (N : Ms) (H H' : Hp) : Prop := ∀ a o, H a = some o → ¬ N a → H' a = some o
theorem Keep.refl {N : Ms} {H : Hp} : Keep N H H := fun _ _ h _ => h
theorem Keep.trans {N : Ms} {H H1 H2 : Hp} (a : Keep N H H1) (b : Keep N H1 H2) : Keep N H H2 := fun c o h n => b c o (a c o h n) n
theorem Keep.wide {N N' : Ms} {H H' : Hp} (h : Keep N H H') (w : ∀ a, N a → N' a) : Keep N' H H' := fun a o e n => h a o e fun z => n (w a z)
theorem Keep.new {N : Ms} {H : Hp} {p : Addr} {o : HO} (h : H p = none) : Keep N H (upd H p o) := fun a u e _ => by
  rw [upd_ne (ne_of_none e h)]
  exact e
theorem Keep.mut {N : Ms} {H : Hp} {p : Addr} {o : HO} (h : N p) : Keep N H (upd H p o) := fun a u e n => by
  have z : a ≠ p := fun z => n (by rw [z]; exact h)
  rw [upd_ne z]
  exact e
theorem Keep.free {N : Ms} {H H' : Hp} {p : Addr} (k : Keep N H H') (h : H' p = none) (n : ¬ N p) : H p = none := by
  cases e : H p with
  | none => rfl
  | some o =>
    rw [k p o e n] at h
    cases h

/-! ### dicts -/
mutual
/-- a key of whole numbers, and tuples of such -/
def numK : NestedKey → Bool
  | .num _ => true
  | .tup ks => numKs ks
  | .none => false
  | .text _ => false
def numKs : List NestedKey → Bool
  | [] => true
  | k :: ks => numK k && numKs ks
end
mutual
theorem hash_num (w w' : World) : ∀ k : NestedKey, numK k = true → k.hash w = k.hash w'
  | .num i, _ => rfl
  | .tup ks, h => by
    rw [NestedKey.hash, NestedKey.hash, hashes_num w w' ks (by simpa only [numK] using h)]
  | .none, h => by cases h
  | .text _, h => by cases h
theorem hashes_num (w w' : World) : ∀ ks : List NestedKey, numKs ks = true → NestedKey.hashes w ks = NestedKey.hashes w' ks
  | [], _ => rfl
  | k :: ks, h => by
    have h' : numK k = true ∧ numKs ks = true := by simpa only [numKs, Bool.and_eq_true] using h
    rw [NestedKey.hashes, NestedKey.hashes, hash_num w w' k h'.1, hashes_num w w' ks h'.2]
end
/-- a key that may stand in a dict of tuples -/
def tupK (k : NestedKey) : Bool := match k with
  | .tup ks => numKs ks && decide (k.depth ≤ 8)
  | _ => false
theorem tupK_num {k : NestedKey} (h : tupK k = true) : numK k = true ∧ k.depth ≤ 8 := by
  cases k with
  | tup ks =>
    obtain ⟨h1, h2⟩ := Bool.and_eq_true_iff.mp h
    exact ⟨by rw [numK]; exact h1, of_decide_eq_true h2⟩
  | _ => cases h
def KRel (x : NestedKey × Addr × V) (y : NestedKey × Addr × Value) : Prop := x.1 = y.1 ∧ x.2.1 = y.2.1 ∧ RelV x.2.2 y.2.2
/-- a dict whose keys are tuples, told by its one object -/
def DRaw (a : Addr) (l : List (NestedKey × Addr × V)) (h : Heap) : Prop :=
  l.length ≤ sizeLine ∧ (a == sysModules) = false ∧ ∃ (o : Obj) (es : Array DictEntry) (ep : Nat) (xs : List (NestedKey × Addr × Value)), h.get? a = some o ∧ o.ExactDict ∧ o.data = .dict es ep ∧
    (∀ (P : Program) (w : World), es.toList = xs.map (entryOfKey (nestedKind P w))) ∧ Paired KRel l xs ∧ (xs.map (·.1)).Nodup ∧ ∀ x ∈ l, tupK x.1 = true
def kN : Key → NestedKey
  | .inl i => .num i
  | .inr x => .text x
/-- a dict of these keys and values stands at a -/
def DAt (H : Hp) (a : Addr) (nk : List NestedKey) (ks vs : List V) : Prop :=
  (∃ l : List (Key × V), H a = some (.dK l) ∧ l.map (fun p => kN p.1) = nk ∧ l.map (fun p => kV p.1) = ks ∧ l.map (·.2) = vs) ∨
  ∃ l : List (NestedKey × Addr × V), H a = some (.ext (DRaw a l)) ∧ l.map (·.1) = nk ∧ l.map (fun x => V.ref x.2.1) = ks ∧ l.map (·.2.2) = vs
theorem DAt.obj {H : Hp} {a : Addr} {nk : List NestedKey} {ks vs : List V} (h : DAt H a nk ks vs) : ∃ o, H a = some o := by
  rcases h with ⟨l, e, _⟩ | ⟨l, e, _⟩
  · exact ⟨_, e⟩
  · exact ⟨_, e⟩
theorem DAt.to {H H' : Hp} {a : Addr} {nk : List NestedKey} {ks vs : List V} (h : DAt H a nk ks vs) (k : ∀ o, H a = some o → H' a = some o) : DAt H' a nk ks vs := by
  rcases h with ⟨l, e, q⟩ | ⟨l, e, q⟩
  · exact .inl ⟨l, k _ e, q⟩
  · exact .inr ⟨l, k _ e, q⟩

/-- whether tuples are tracked with their very objects (a law with a tuple's index), or not (dicts with tuples as keys) -/
def FZ : Bool := true
def tupO (o : Obj) (vs : List V) : HO := if FZ = true then .frz o (.tup vs) else .tup vs
def TupAt (H : Hp) (a : Addr) (vs : List V) : Prop := ∃ o : Obj, H a = some (tupO o vs) ∧ o.dict = none
theorem TupAt.obj {H : Hp} {a : Addr} {vs : List V} (h : TupAt H a vs) : ∃ o, H a = some o := h.elim fun o q => ⟨_, q.1⟩
theorem TupAt.to {H H' : Hp} {a : Addr} {vs : List V} (h : TupAt H a vs) (k : ∀ o, H a = some o → H' a = some o) : TupAt H' a vs := h.elim fun o q => ⟨o, k _ q.1, q.2⟩
theorem TupAt.rd {H : Hp} {a : Addr} {vs : List V} (h : TupAt H a vs) : Rd H a (.tup vs) := by
  obtain ⟨o, e, _⟩ := h
  unfold tupO at e
  split at e
  · exact .inr ⟨o, e⟩
  · exact .inl e
theorem TupAt.sq {K : PySem.W.Frag} {H : Hp} {a : Addr} {vs : List V} (h : TupAt H a vs) : SqT K H a vs := .inl h.rd
theorem TupAt.new {H : Hp} {a : Addr} {vs : List V} {o : Obj} (h : o.dict = none) : TupAt (upd H a (tupO o vs)) a vs := ⟨o, upd_same, h⟩
theorem TupAt.plain {X : Cx} {pins : List (Addr × Obj)} {σ : L2.St} {H : Hp} {s : Shared} {a : Addr} {vs : List V} (hf : FZ = true) (h : TupAt H a vs) (I : L2.Inv X pins σ H s) : ∃ o, s.heap.get? a = some o ∧ o.dict = none := by
  obtain ⟨o, e, d⟩ := h
  unfold tupO at e
  rw [if_pos hf] at e
  exact ⟨o, (I.hok a _ e).1, d⟩
def tupN (its : List Value) : Obj := { cls := .type "tuple", data := .seq its.toArray }
theorem objOk_tup {P : Program} {w : World} {H : Hp} {h : Heap} {a : Addr} {vs : List V} {its : List Value} (z : vs.length ≤ sizeLine) (r : Vals vs its) (e : h.get? a = some (tupN its)) : ObjOk P w H h a (tupO (tupN its) vs) := by
  have q : ObjOk P w H h a (.tup vs) := ⟨z, its, r, _, e, rfl, _, rfl⟩
  unfold tupO
  split
  · exact ⟨e, q⟩
  · exact q

mutual
/-- the value v shows the data d; none of its objects is in N -/
def Rep (N : Ms) (H : Hp) : D → V → Prop
  | .none, v => v = .non
  | .bool b, v => v = .bl b
  | .int i, v => v = .int i
  | .str x, v => v = .str x
  | .list ds, v => ds.length ≤ LINE ∧ ∃ a vs, v = .ref a ∧ ¬ N a ∧ H a = some (.lst vs) ∧ RepL N H ds vs
  | .tuple ds, v => ds.length ≤ LINE ∧ ∃ a vs, v = .ref a ∧ ¬ N a ∧ TupAt H a vs ∧ RepL N H ds vs
  | .dict kvs, v => kvs.length ≤ LINE ∧ ∃ a ks vs, v = .ref a ∧ ¬ N a ∧ DAt H a (toKeys (kvs.map (·.1))) ks vs ∧ RepK N H kvs ks vs
def RepL (N : Ms) (H : Hp) : List D → List V → Prop
  | [], vs => vs = []
  | d :: ds, vs => ∃ v r, vs = v :: r ∧ Rep N H d v ∧ RepL N H ds r
def RepK (N : Ms) (H : Hp) : List (D × D) → List V → List V → Prop
  | [], ks, vs => ks = [] ∧ vs = []
  | (k, d) :: ds, ks, vs => ∃ u t v r, ks = u :: t ∧ vs = v :: r ∧ Rep N H k u ∧ Rep N H d v ∧ RepK N H ds t r
end

def isMut : D → Bool
  | .list _ => true
  | .dict _ => true
  | _ => false

mutual
theorem Rep.tr {N N' : Ms} {H H' : Hp} (k : ∀ a o, H a = some o → ¬ N a → H' a = some o ∧ ¬ N' a) : ∀ {d : D} {v : V}, Rep N H d v → Rep N' H' d v
  | .none, _, h => by
    rw [Rep] at h ⊢
    exact h
  | .bool _, _, h => by
    rw [Rep] at h ⊢
    exact h
  | .int _, _, h => by
    rw [Rep] at h ⊢
    exact h
  | .str _, _, h => by
    rw [Rep] at h ⊢
    exact h
  | .list ds, _, h => by
    rw [Rep] at h ⊢
    obtain ⟨z, a, vs, e, n, q, r⟩ := h
    obtain ⟨q', n'⟩ := k a _ q n
    exact ⟨z, a, vs, e, n', q', RepL.tr k r⟩
  | .tuple ds, _, h => by
    rw [Rep] at h ⊢
    obtain ⟨z, a, vs, e, n, ⟨o, q, hd⟩, r⟩ := h
    obtain ⟨q', n'⟩ := k a _ q n
    exact ⟨z, a, vs, e, n', ⟨o, q', hd⟩, RepL.tr k r⟩
  | .dict kvs, _, h => by
    rw [Rep] at h ⊢
    obtain ⟨z, a, ks, vs, e, n, q, r⟩ := h
    obtain ⟨o, ho⟩ := DAt.obj q
    exact ⟨z, a, ks, vs, e, (k a o ho n).2, DAt.to q fun u hu => (k a u hu n).1, RepK.tr k r⟩
theorem RepL.tr {N N' : Ms} {H H' : Hp} (k : ∀ a o, H a = some o → ¬ N a → H' a = some o ∧ ¬ N' a) : ∀ {ds : List D} {vs : List V}, RepL N H ds vs → RepL N' H' ds vs
  | [], _, h => by
    rw [RepL] at h ⊢
    exact h
  | _ :: _, _, h => by
    rw [RepL] at h ⊢
    obtain ⟨v, r, e, h1, h2⟩ := h
    exact ⟨v, r, e, Rep.tr k h1, RepL.tr k h2⟩
theorem RepK.tr {N N' : Ms} {H H' : Hp} (k : ∀ a o, H a = some o → ¬ N a → H' a = some o ∧ ¬ N' a) : ∀ {ds : List (D × D)} {ks vs : List V}, RepK N H ds ks vs → RepK N' H' ds ks vs
  | [], _, _, h => by
    rw [RepK] at h ⊢
    exact h
  | (_, _) :: _, _, _, h => by
    rw [RepK] at h ⊢
    obtain ⟨u, t, v, r, e1, e2, h1, h2, h3⟩ := h
    exact ⟨u, t, v, r, e1, e2, Rep.tr k h1, Rep.tr k h2, RepK.tr k h3⟩
end
section
variable {N N' : Ms} {H H' : Hp} {d : D} {v : V} {ds : List D} {vs : List V} {p : Addr}
theorem Rep.keep (h : Rep N H d v) (k : Keep N H H') : Rep N H' d v := h.tr fun a o e n => ⟨k a o e n, n⟩
theorem RepL.keep (h : RepL N H ds vs) (k : Keep N H H') : RepL N H' ds vs := h.tr fun a o e n => ⟨k a o e n, n⟩
theorem Rep.anti (h : Rep N H d v) (k : ∀ a, N' a → N a) : Rep N' H d v := h.tr fun a o e n => ⟨e, fun z => n (k a z)⟩
theorem RepL.anti (h : RepL N H ds vs) (k : ∀ a, N' a → N a) : RepL N' H ds vs := h.tr fun a o e n => ⟨e, fun z => n (k a z)⟩
def addM (N : Ms) (p : Addr) : Ms := fun b => N b ∨ b = p
theorem Rep.plus (h : Rep N H d v) (hp : H p = none) : Rep (addM N p) H d v := h.tr fun a o e n => ⟨e, fun z => z.elim n (ne_of_none e hp)⟩
theorem RepL.plus (h : RepL N H ds vs) (hp : H p = none) : RepL (addM N p) H ds vs := h.tr fun a o e n => ⟨e, fun z => z.elim n (ne_of_none e hp)⟩
theorem RepL.length : ∀ {ds : List D} {vs : List V}, RepL N H ds vs → vs.length = ds.length
  | [], _, h => by
    rw [RepL] at h
    subst h
    rfl
  | _ :: _, _, h => by
    rw [RepL] at h
    obtain ⟨v, r, rfl, _, h2⟩ := h
    rw [List.length_cons, List.length_cons, RepL.length h2]
theorem RepL.get : ∀ {ds : List D} {vs : List V} {i : Nat} {d : D}, RepL N H ds vs → ds[i]? = some d → ∃ v, vs[i]? = some v ∧ Rep N H d v
  | [], _, _, _, _, e => by simp at e
  | x :: r, _, 0, d, h, e => by
    rw [RepL] at h
    obtain ⟨v, t, rfl, h1, _⟩ := h
    have e' : x = d := by simpa using e
    subst e'
    exact ⟨v, rfl, h1⟩
  | x :: r, _, i + 1, d, h, e => by
    rw [RepL] at h
    obtain ⟨v, t, rfl, _, h2⟩ := h
    obtain ⟨w, e1, e2⟩ := RepL.get (i := i) h2 (by simpa using e)
    exact ⟨w, by simpa using e1, e2⟩
theorem RepL.cons (h : Rep N H d v) (t : RepL N H ds vs) : RepL N H (d :: ds) (v :: vs) := by
  rw [RepL]
  exact ⟨v, vs, rfl, h, t⟩
theorem RepL.nil : RepL N H [] [] := by rw [RepL]
theorem RepL.append {es : List D} {ws : List V} (h2 : RepL N H es ws) : ∀ {ds : List D} {vs : List V}, RepL N H ds vs → RepL N H (ds ++ es) (vs ++ ws)
  | [], _, h => by
    rw [RepL] at h
    subst h
    exact h2
  | _ :: _, _, h => by
    rw [RepL] at h
    obtain ⟨v, r, rfl, h1, h3⟩ := h
    exact .cons h1 (RepL.append h2 h3)
theorem RepL.take : ∀ {ds : List D} {vs : List V} (n : Nat), RepL N H ds vs → RepL N H (ds.take n) (vs.take n)
  | _, _, 0, _ => by
    rw [List.take_zero, List.take_zero]
    exact .nil
  | [], _, n + 1, h => by
    rw [RepL] at h
    subst h
    exact .nil
  | _ :: _, _, n + 1, h => by
    rw [RepL] at h
    obtain ⟨v, r, rfl, h1, h3⟩ := h
    exact .cons h1 (RepL.take n h3)
theorem RepL.drop : ∀ {ds : List D} {vs : List V} (n : Nat), RepL N H ds vs → RepL N H (ds.drop n) (vs.drop n)
  | _, _, 0, h => h
  | [], _, n + 1, h => by
    rw [RepL] at h
    subst h
    exact .nil
  | _ :: _, _, n + 1, h => by
    rw [RepL] at h
    obtain ⟨v, r, rfl, h1, h3⟩ := h
    exact RepL.drop n h3
theorem RepL.rev : ∀ {ds : List D} {vs : List V}, RepL N H ds vs → RepL N H ds.reverse vs.reverse
  | [], _, h => by
    rw [RepL] at h
    subst h
    exact .nil
  | _ :: _, _, h => by
    rw [RepL] at h
    obtain ⟨v, r, rfl, h1, h3⟩ := h
    rw [List.reverse_cons, List.reverse_cons]
    exact RepL.append (.cons h1 .nil) (RepL.rev h3)
theorem RepL.ints : ∀ {ds : List D} {vs : List V} {ns : List Int}, RepL N H ds vs → intsOf ds = some ns → vs = ns.map V.int ∧ ds = ns.map PyData.int
  | [], _, _, h, e => by
    rw [RepL] at h
    have e' : [] = _ := Option.some.inj (show some [] = some _ from e)
    subst e' h
    exact ⟨rfl, rfl⟩
  | x :: r, _, ns, h, e => by
    rw [RepL] at h
    obtain ⟨v, t, rfl, h1, h3⟩ := h
    cases x with
    | int i =>
      rw [Rep] at h1
      subst h1
      unfold intsOf at e
      cases q : intsOf r with
      | none => rw [q] at e; cases e
      | some ms =>
        rw [q] at e
        have e' : i :: ms = ns := Option.some.inj e
        subst e'
        obtain ⟨rfl, rfl⟩ := RepL.ints h3 q
        exact ⟨rfl, rfl⟩
    | _ => cases e
theorem RepL.bools : ∀ {ds : List D} {vs : List V} {bs : List Bool}, RepL N H ds vs → boolsOf ds = some bs → vs = bs.map V.bl
  | [], _, _, h, e => by
    rw [RepL] at h
    have e' : [] = _ := Option.some.inj (show some [] = some _ from e)
    subst e' h
    rfl
  | x :: r, _, ns, h, e => by
    rw [RepL] at h
    obtain ⟨v, t, rfl, h1, h3⟩ := h
    cases x with
    | bool i =>
      rw [Rep] at h1
      subst h1
      unfold boolsOf at e
      cases q : boolsOf r with
      | none => rw [q] at e; cases e
      | some ms =>
        rw [q] at e
        have e' : i :: ms = ns := Option.some.inj e
        subst e'
        have z := RepL.bools h3 q
        subst z
        rfl
    | _ => cases e
theorem RepL.of_get : ∀ {ds : List D} {vs : List V}, ds.length = vs.length → (∀ (i : Nat) d v, ds[i]? = some d → vs[i]? = some v → Rep N H d v) → RepL N H ds vs
  | [], [], _, _ => .nil
  | [], _ :: _, e, _ => by cases e
  | _ :: _, [], e, _ => by cases e
  | d :: ds, v :: vs, e, h => .cons (h 0 d v rfl rfl) (RepL.of_get (by simpa using e) fun i d' v' h1 h2 => h (i + 1) d' v' (by simpa using h1) (by simpa using h2))
end

/-- Rep, where the list or dict itself may be in N -/
def Top (N : Ms) (H : Hp) : D → V → Prop
  | .list ds, v => ds.length ≤ LINE ∧ ∃ a vs, v = .ref a ∧ H a = some (.lst vs) ∧ RepL N H ds vs
  | .dict kvs, v => kvs.length ≤ LINE ∧ ∃ a ks vs, v = .ref a ∧ DAt H a (toKeys (kvs.map (·.1))) ks vs ∧ RepK N H kvs ks vs
  | d, v => Rep N H d v
theorem Rep.top {N : Ms} {H : Hp} {d : D} {v : V} (h : Rep N H d v) : Top N H d v := by
  cases d with
  | list ds =>
    rw [Rep] at h
    obtain ⟨z, a, vs, e, _, q⟩ := h
    exact ⟨z, a, vs, e, q⟩
  | dict ds =>
    rw [Rep] at h
    obtain ⟨z, a, ks, vs, e, _, q⟩ := h
    exact ⟨z, a, ks, vs, e, q⟩
  | _ => exact h
theorem Top.rep {N N' : Ms} {H : Hp} {d : D} {v : V} (h : Top N H d v) (w : ∀ a, N' a → N a) (k : isMut d = true → ∀ a, v = .ref a → ¬ N' a) : Rep N' H d v := by
  cases d with
  | list ds =>
    obtain ⟨z, a, vs, e, q, r⟩ := h
    rw [Rep]
    exact ⟨z, a, vs, e, k rfl a e, q, r.anti w⟩
  | dict ds =>
    obtain ⟨z, a, ks, vs, e, q, r⟩ := h
    rw [Rep]
    exact ⟨z, a, ks, vs, e, k rfl a e, q, RepK.tr (fun a o e n => ⟨e, fun z => n (w a z)⟩) r⟩
  | none => exact Rep.anti h w
  | bool _ => exact Rep.anti h w
  | int _ => exact Rep.anti h w
  | str _ => exact Rep.anti h w
  | tuple _ => exact Rep.anti h w
theorem Top.tr {N N' : Ms} {H H' : Hp} {d : D} {v : V} (h : Top N H d v) (k : ∀ a o, H a = some o → ¬ N a → H' a = some o ∧ ¬ N' a) (m : isMut d = true → ∀ a o, v = .ref a → H a = some o → H' a = some o) : Top N' H' d v := by
  cases d with
  | list ds =>
    obtain ⟨z, a, vs, e, q, r⟩ := h
    exact ⟨z, a, vs, e, m rfl a _ e q, r.tr k⟩
  | dict ds =>
    obtain ⟨z, a, ks, vs, e, q, r⟩ := h
    exact ⟨z, a, ks, vs, e, DAt.to q fun o ho => m rfl a o e ho, r.tr k⟩
  | none => exact Rep.tr k h
  | bool _ => exact Rep.tr k h
  | int _ => exact Rep.tr k h
  | str _ => exact Rep.tr k h
  | tuple _ => exact Rep.tr k h
theorem Top.anti {N N' : Ms} {H : Hp} {d : D} {v : V} (h : Top N H d v) (k : ∀ a, N' a → N a) : Top N' H d v := h.tr (fun a o e n => ⟨e, fun z => n (k a z)⟩) fun _ _ _ _ e => e

/-! ### the source -/
def SrcOk (H : Hp) (sa : Addr × Addr) (g : PState) : Prop :=
  H sa.1 = some (.dK [(.inr "cells", .ref sa.2), (.inr "left", .int g.left), (.inr "mixed", .int g.mixed), (.inr "turn", .int g.turn)]) ∧ H sa.2 = some (.lst (g.cells.map V.int)) ∧ sa.1 ≠ sa.2
theorem SrcOk.there {H : Hp} {sa : Addr × Addr} {g : PState} (h : SrcOk H sa g) {a : Addr} (ha : isS sa a) : H a ≠ none := by
  rcases ha with e | e
  · rw [e, h.1]; exact fun z => by cases z
  · rw [e, h.2.1]; exact fun z => by cases z

/-! ### the state of a def's body -/
def SlOk (M0 : Ms) (sa : Addr × Addr) (N : Ms) (H : Hp) : Sl → V → Prop
  | .src, v => v = .ref sa.1
  | .d false x, v => Rep N H x v
  | .d true x, v => Top N H x v ∧ (isMut x = true → ∃ a, v = .ref a ∧ N a ∧ ¬ M0 a)
/-- slot i owns the object at a -/
def Own (ρ : Rho) (σ : St) (i : Nat) (a : Addr) : Prop := ∃ x, ρ[i]? = some (some (.d true x)) ∧ isMut x = true ∧ σ[i]? = some (some (.ref a))
structure StOk (M0 : Ms) (sa : Addr × Addr) (N : Ms) (H : Hp) (σ : St) (ρ : Rho) (g : PState) : Prop where
  len : ρ.length = σ.length
  slot : ∀ (i : Nat) (s : Sl), ρ[i]? = some (some s) → ∃ v, σ[i]? = some (some v) ∧ SlOk M0 sa N H s v
  inj : ∀ (i j : Nat) (a : Addr), Own ρ σ i a → Own ρ σ j a → i = j
  sub : ∀ a, M0 a → N a
  srcIn : ∀ a, isS sa a → M0 a
  mt : ∀ a, N a → H a ≠ none
  src : SrcOk H sa g
/-- N without what the slots own -/
def less (N : Ms) (ρ : Rho) (σ : St) (is : List Nat) : Ms := fun a => N a ∧ ¬ ∃ i, i ∈ is ∧ Own ρ σ i a
theorem less_sub {N : Ms} {ρ : Rho} {σ : St} {is : List Nat} {a : Addr} (h : less N ρ σ is a) : N a := h.1
theorem less_mono {N : Ms} {ρ : Rho} {σ : St} {is js : List Nat} (w : ∀ i, i ∈ is → i ∈ js) {a : Addr} (h : less N ρ σ js a) : less N ρ σ is a := ⟨h.1, fun ⟨i, hi, o⟩ => h.2 ⟨i, w i hi, o⟩⟩
theorem less_nil {N : Ms} {ρ : Rho} {σ : St} {a : Addr} (h : N a) : less N ρ σ [] a := ⟨h, fun ⟨i, hi, _⟩ => by cases hi⟩
section
variable {M0 N : Ms} {sa : Addr × Addr} {H H' : Hp} {σ : St} {ρ : Rho} {g g' : PState}
theorem StOk.own (S : StOk M0 sa N H σ ρ g) {i : Nat} {a : Addr} (o : Own ρ σ i a) : N a ∧ ¬ M0 a := by
  obtain ⟨x, h1, h2, h3⟩ := o
  obtain ⟨v, h4, h5⟩ := S.slot i _ h1
  rw [h3] at h4
  have e : V.ref a = v := Option.some.inj (Option.some.inj h4)
  subst e
  obtain ⟨b, e, q⟩ := h5.2 h2
  cases e
  exact q
theorem StOk.lessSub (S : StOk M0 sa N H σ ρ g) {is : List Nat} {a : Addr} (h : M0 a) : less N ρ σ is a := ⟨S.sub a h, fun ⟨i, _, o⟩ => (S.own o).2 h⟩
theorem StOk.ext (S : StOk M0 sa N H σ ρ g) (k : Keep (isS sa) H H') (q : SrcOk H' sa g') : StOk M0 sa N H' σ ρ g' := by
  have kN : ∀ a o, H a = some o → ¬ N a → H' a = some o ∧ ¬ N a := fun a o e n => ⟨k a o e fun z => n (S.sub a (S.srcIn a z)), n⟩
  refine ⟨S.len, fun i s e => ?_, S.inj, S.sub, S.srcIn, fun a h => ?_, q⟩
  · obtain ⟨v, e1, e2⟩ := S.slot i s e
    refine ⟨v, e1, ?_⟩
    cases s with
    | src => exact e2
    | d b x =>
      cases b with
      | false => exact Rep.tr kN e2
      | true =>
        refine ⟨e2.1.tr kN fun m a o ev ho => ?_, e2.2⟩
        obtain ⟨b, e3, h1, h2⟩ := e2.2 m
        rw [ev] at e3
        cases e3
        exact k a o ho fun z => h2 (S.srcIn a z)
  · by_cases hs : isS sa a
    · exact q.there hs
    · cases e : H a with
      | none => exact absurd e (S.mt a h)
      | some o =>
        rw [k a o e hs]
        exact fun z => by cases z
end
end DT

/-! What an expression is to give; operations on values. -/
namespace DT
open PySem L2 PyProof.Rows

/-! ### results -/
/-- the value of the expression x, at the heap H' -/
structure Vo (sa : Addr × Addr) (N : Ms) (ρ : Rho) (σ : L2.St) (x : Ex) (H' : Hp) (d : D) (v : V) : Prop where
  top : Top (less N ρ σ (esi x)) H' d v
  al : isMut d = true → ∀ a, v = .ref a → N a → ∃ i, i ∈ ael x ∧ Own ρ σ i a
  nos : isMut d = true → ∀ a, v = .ref a → ¬ isS sa a
structure Res (sa : Addr × Addr) (N : Ms) (ρ : Rho) (σ : L2.St) (x : Ex) (H : Hp) (g : PState) (d : D) (v : V) (H' : Hp) : Prop where
  keep : Keep (isS sa) H H'
  src : SrcOk H' sa g
  vo : Vo sa N ρ σ x H' d v
  fr : fresh x = true → isMut d = true → ∃ a, v = .ref a ∧ H a = none ∧ Top (addM (less N ρ σ (esi x)) a) H' d v

section
variable {M0 N : Ms} {sa : Addr × Addr} {H H1 H' : Hp} {σ : L2.St} {ρ : Rho} {g g' : PState} {x y : Ex} {d : D} {v : V} {p : Addr}
theorem Vo.rep (o : Vo sa N ρ σ x H' d v) : Rep (less N ρ σ (esc x)) H' d v :=
  o.top.rep (fun _ h => less_mono (fun _ hi => List.mem_append_left _ hi) h) fun m a e n => by
    obtain ⟨i, hi, w⟩ := o.al m a e n.1
    exact n.2 ⟨i, List.mem_append_right _ hi, w⟩
theorem Vo.keep (o : Vo sa N ρ σ x H d v) (S : ∀ a, isS sa a → N a) (s0 : ∀ i a, Own ρ σ i a → ¬ isS sa a) (k : Keep (isS sa) H H') : Vo sa N ρ σ x H' d v := by
  refine ⟨o.top.tr (fun a u e n => ⟨k a u e fun z => n ⟨S a z, fun ⟨i, _, w⟩ => s0 i a w z⟩, n⟩) fun m a u e hu => k a u hu (o.nos m a e), o.al, o.nos⟩
theorem StOk.nos (S : StOk M0 sa N H σ ρ g) : ∀ i a, Own ρ σ i a → ¬ isS sa a := fun _ a o z => (S.own o).2 (S.srcIn a z)
theorem StOk.sS (S : StOk M0 sa N H σ ρ g) : ∀ a, isS sa a → N a := fun a z => S.sub a (S.srcIn a z)
theorem StOk.vo (S : StOk M0 sa N H σ ρ g) (o : Vo sa N ρ σ x H1 d v) (k : Keep (isS sa) H1 H') : Vo sa N ρ σ x H' d v := o.keep S.sS S.nos k
theorem StOk.noN (S : StOk M0 sa N H σ ρ g) (hp : H p = none) : ¬ N p := fun z => S.mt p z hp
theorem Res.back (r : Res sa N ρ σ x H1 g d v H') (k : Keep (isS sa) H H1) (q : SrcOk H1 sa g') : Res sa N ρ σ x H g d v H' :=
  ⟨k.trans r.keep, r.src, r.vo, fun f m => by
    obtain ⟨a, e, n, t⟩ := r.fr f m
    exact ⟨a, e, k.free n fun z => q.there z n, t⟩⟩
theorem Vo.of_rep (h : Rep (less N ρ σ (esi x)) H' d v) (S : StOk M0 sa N H σ ρ g) (n : isMut d = true → ∀ a, v = .ref a → ¬ N a) : Vo sa N ρ σ x H' d v :=
  ⟨h.top, fun m a e z => (n m a e z).elim, fun m a e z => n m a e (S.sS a z)⟩
theorem Res.atom (S : StOk M0 sa N H σ ρ g) (m : isMut d = false) (r : Rep (less N ρ σ (esi x)) H d v) : Res sa N ρ σ x H g d v H :=
  ⟨.refl, S.src, .of_rep r S fun z => (by rw [m] at z; cases z), fun _ z => (by rw [m] at z; cases z)⟩
theorem Res.bl (S : StOk M0 sa N H σ ρ g) (b : Bool) : Res sa N ρ σ x H g (.bool b) (.bl b) H := .atom S rfl (by rw [Rep])
theorem Res.int (S : StOk M0 sa N H σ ρ g) (i : Int) : Res sa N ρ σ x H g (.int i) (.int i) H := .atom S rfl (by rw [Rep])
theorem Res.str (S : StOk M0 sa N H σ ρ g) (z : Str) : Res sa N ρ σ x H g (.str z) (.str z) H := .atom S rfl (by rw [Rep])
theorem SrcOk.upd {o : HO} (q : SrcOk H sa g) (hp : H p = none) : SrcOk (upd H p o) sa g := by
  refine ⟨?_, ?_, q.2.2⟩
  · rw [upd_ne (ne_of_none q.1 hp)]
    exact q.1
  · rw [upd_ne (ne_of_none q.2.1 hp)]
    exact q.2.1
theorem Res.tup {ds : List D} {vs : List V} {o : Obj} (ho : o.dict = none) (S : StOk M0 sa N H σ ρ g) (hp : H p = none) (r : RepL (less N ρ σ (esi x)) H ds vs) (hl : ds.length ≤ LINE) : Res sa N ρ σ x H g (.tuple ds) (.ref p) (upd H p (tupO o vs)) := by
  refine ⟨.new hp, S.src.upd hp, ⟨?_, fun z => (by cases z), fun z => (by cases z)⟩, fun _ z => (by cases z)⟩
  show Rep _ _ _ _
  rw [Rep]
  exact ⟨hl, p, vs, rfl, fun z => S.noN hp z.1, .new ho, r.keep (.new hp)⟩
theorem Res.lst {ds : List D} {vs : List V} (S : StOk M0 sa N H σ ρ g) (hp : H p = none) (r : RepL (less N ρ σ (esi x)) H ds vs) (hl : ds.length ≤ LINE) : Res sa N ρ σ x H g (.list ds) (.ref p) (upd H p (.lst vs)) := by
  refine ⟨.new hp, S.src.upd hp, ⟨⟨hl, p, vs, rfl, upd_same, r.keep (.new hp)⟩, fun _ a e z => ?_, fun _ a e z => ?_⟩, fun _ _ => ⟨p, rfl, hp, ⟨hl, p, vs, rfl, upd_same, (r.plus hp).keep (.new hp)⟩⟩⟩
  · cases e
    exact (S.noN hp z).elim
  · cases e
    exact S.noN hp (S.sS _ z)
end

/-! ### what is read as data -/
mutual
theorem Rep.dp {K : PySem.W.Frag} {N : Ms} {H : Hp} : ∀ {d : D} {v : V}, d.canLay0 = true → Rep N H d v → Dp K H v d
  | .none, _, _, h => by
    rw [Rep] at h
    subst h
    exact .non
  | .bool _, _, _, h => by
    rw [Rep] at h
    subst h
    exact .bl _
  | .int _, _, _, h => by
    rw [Rep] at h
    subst h
    exact .int _
  | .str _, _, _, h => by
    rw [Rep] at h
    subst h
    exact .str _
  | .list ds, _, c, h => by
    rw [Rep] at h
    obtain ⟨_, a, vs, rfl, _, e, r⟩ := h
    exact .lst (.of e) (RepL.dp (by simpa only [PyData.canLay0] using c) r)
  | .tuple ds, _, c, h => by
    rw [Rep] at h
    obtain ⟨_, a, vs, rfl, _, e, r⟩ := h
    exact .tup e.sq (RepL.dp (by simpa only [PyData.canLay0] using c) r)
  | .dict _, _, c, _ => by simp [PyData.canLay0] at c
theorem RepL.dp {K : PySem.W.Frag} {N : Ms} {H : Hp} : ∀ {ds : List D} {vs : List V}, PyData.canLayAll0 ds = true → RepL N H ds vs → DpAll K H vs ds
  | [], _, _, h => by
    rw [RepL] at h
    subst h
    exact .nil
  | d :: ds, _, c, h => by
    rw [RepL] at h
    obtain ⟨v, r, rfl, h1, h2⟩ := h
    have c' : d.canLay0 = true ∧ PyData.canLayAll0 ds = true := by simpa only [PyData.canLayAll0, Bool.and_eq_true] using c
    exact .cons (Rep.dp c'.1 h1) (RepL.dp c'.2 h2)
end
theorem Top.dp {K : PySem.W.Frag} {N : Ms} {H : Hp} {d : D} {v : V} (c : d.canLay0 = true) (h : Top N H d v) : Dp K H v d := by
  cases d with
  | list ds =>
    obtain ⟨_, a, vs, rfl, e, r⟩ := h
    exact .lst (.of e) (r.dp (by simpa only [PyData.canLay0] using c))
  | dict ds => simp [PyData.canLay0] at c
  | none => exact Rep.dp (N := N) c h
  | bool _ => exact Rep.dp (N := N) c h
  | int _ => exact Rep.dp (N := N) c h
  | str _ => exact Rep.dp (N := N) c h
  | tuple _ => exact Rep.dp (N := N) c h
theorem Top.int {N : Ms} {H : Hp} {i : Int} {v : V} (h : Top N H (.int i) v) : v = .int i := by
  have h' : Rep N H (.int i) v := h
  rw [Rep] at h'
  exact h'
theorem Top.bl {N : Ms} {H : Hp} {i : Bool} {v : V} (h : Top N H (.bool i) v) : v = .bl i := by
  have h' : Rep N H (.bool i) v := h
  rw [Rep] at h'
  exact h'
theorem Top.non {N : Ms} {H : Hp} {v : V} (h : Top N H .none v) : v = .non := by
  have h' : Rep N H .none v := h
  rw [Rep] at h'
  exact h'
theorem Top.str {N : Ms} {H : Hp} {z : Str} {v : V} (h : Top N H (.str z) v) : v = .str z := by
  have h' : Rep N H (.str z) v := h
  rw [Rep] at h'
  exact h'
theorem Top.tup {N : Ms} {H : Hp} {ds : List D} {v : V} (h : Top N H (.tuple ds) v) : ds.length ≤ LINE ∧ ∃ a vs, v = .ref a ∧ ¬ N a ∧ TupAt H a vs ∧ RepL N H ds vs := by
  have h' : Rep N H (.tuple ds) v := h
  rw [Rep] at h'
  exact h'

/-! ### operators by values -/
def bop : BOp → Operator
  | .add => .Add
  | .sub => .Sub
  | .mul => .Mult
  | .fdiv => .FloorDiv
  | .mod => .Mod
  | .pow => .Pow
  | .shl => .LShift
def cop : COp → CmpOp
  | .lt => .Lt
  | .le => .LtE
  | .gt => .Gt
  | .ge => .GtE
  | .eq => .Eq
  | .ne => .NotEq
  | .is => .Is
  | .isnt => .IsNot
  | .mem => .In
  | .nmem => .NotIn
theorem if_some {α : Type} {b : Bool} {x y : α} (h : (if b = true then some x else none) = some y) : b = true ∧ x = y := by
  cases b with
  | false => cases h
  | true => exact ⟨rfl, Option.some.inj h⟩
section
variable {X : Cx} {pins : List (Addr × Obj)} {s : Shared} {M0 N : Ms} {sa : Addr × Addr} {H : Hp} {σ τ : L2.St} {ρ : Rho} {g : PState} {xa xb : Ex} {dx dy d : D} {x y : V} {v u : Value} {Q : VK}
theorem op_fdivX {X : Cx} : OpR X (binaryOp .FloorDiv) (rI (fun i j => j ≠ 0 ∧ j.natAbs < 2 ^ 512) fun i j => .int (i.fdiv j)) := opI fun _ j _ _ _ _ _ hc q => floordiv_int hc.1 q (.inl (PyProof.noPylong_of_log2 (Nat.lt_of_lt_of_le ((Nat.log2_lt (n := j.natAbs) (k := 512) (fun z => hc.1 (Int.natAbs_eq_zero.mp z))).mpr hc.2) (by decide))))
theorem bin_val {o : BOp} (I : Inv X pins τ H s) (rx : RelV x v) (ry : RelV y u) (S : StOk M0 sa N H σ ρ g) (hx : Vo sa N ρ σ xa H dx x) (hy : Vo sa N ρ σ xb H dy y) (e : binD o dx dy = some d)
    (q : ∀ w H', Res sa N ρ σ (.bin o xa xb) H g d w H' → Q w H') : wpAny (model X.prog X.w) X.A (binaryOp (bop o) v u) (EP X pins τ Q) X.xe s := by
  unfold binD at e
  split at e
  · obtain rfl := hx.top.int
    obtain rfl := hy.top.int
    obtain rfl := Option.some.inj e
    exact op_add pins s τ H _ _ v u Q I rx ry ⟨_, _, rfl, rfl, q _ H (.int S _)⟩
  · rename_i xs ys
    obtain ⟨c, rfl⟩ := if_some e
    have hl : (xs ++ ys).length ≤ LINE := of_decide_eq_true c
    obtain ⟨l1, a, vs, rfl, n1, h1, r1⟩ := hx.top.tup
    obtain ⟨l2, b, ws, rfl, n2, h2, r2⟩ := hy.top.tup
    have e1 := r1.length
    have e2 := r2.length
    have r1' : RepL (less N ρ σ (esi (.bin .add xa xb))) H xs vs := r1.anti fun _ h => less_mono (fun _ hi => List.mem_append_left _ hi) h
    have r2' : RepL (less N ρ σ (esi (.bin .add xa xb))) H ys ws := r2.anti fun _ h => less_mono (fun _ hi => List.mem_append_right _ hi) h
    cases rx
    cases ry
    obtain ⟨ia, va, pa, _⟩ := I.tuple (h1.sq (K := X.K))
    obtain ⟨ib, vb, pb, _⟩ := I.tuple (h2.sq (K := X.K))
    have hz : (vs ++ ws).length ≤ sizeLine := by
      rw [List.length_append, e1, e2, ← List.length_append]
      exact hl
    by_cases z : vs = []
    · subst z
      cases va
      have : xs = [] := List.length_eq_zero_iff.mp e1.symm
      subst this
      refine cat_tup0 pa pb ⟨.ref b, H, I, rfl, q _ H (.atom S rfl ?_)⟩
      rw [Rep]
      exact ⟨l2, b, ws, rfl, fun z => n2 (less_mono (fun _ hi => List.mem_append_right _ hi) z), h2, r2'⟩
    refine HT.cat_tup pa pb (fun y => z (va.nil_iff.mp y)) (fun y => ⟨.ref a, H, I, rfl, ?_⟩) (fun y => ?_) (by rw [← va.length, ← vb.length, ← List.length_append]; exact hz)
    · have : ws = [] := vb.nil_iff.mp y
      subst this
      have : ys = [] := List.length_eq_zero_iff.mp e2.symm
      subst this
      refine q _ H (.atom S rfl ?_)
      rw [Rep, List.append_nil]
      exact ⟨l1, a, vs, rfl, fun z => n1 (less_mono (fun _ hi => List.mem_append_left _ hi) z), h1, r1'⟩
    · refine ⟨.ref s.heap.objs.size, _, I.laid (t' := s.toks) (o := tupO (tupN (ia ++ ib)) (vs ++ ws)) (fun b ob q => Heap.get?_push_of_some _ q) (Nat.le_refl _) (objOk_tup hz (va.append vb) (Heap.get?_push_size _ rfl)), rfl, q _ _ (.tup rfl S (I.hok.fresh (Nat.le_refl _)) (RepL.append r2' r1') hl)⟩
  · rename_i xs ys
    obtain ⟨c, rfl⟩ := if_some e
    have hl : (xs ++ ys).length ≤ LINE := of_decide_eq_true c
    obtain ⟨l1, a, vs, rfl, h1, r1⟩ := hx.top
    obtain ⟨l2, b, ws, rfl, h2, r2⟩ := hy.top
    have e1 := r1.length
    have e2 := r2.length
    have r1' : RepL (less N ρ σ (esi (.bin .add xa xb))) H xs vs := r1.anti fun _ h => less_mono (fun _ hi => List.mem_append_left _ hi) h
    have r2' : RepL (less N ρ σ (esi (.bin .add xa xb))) H ys ws := r2.anti fun _ h => less_mono (fun _ hi => List.mem_append_right _ hi) h
    refine op_cat pins s τ H _ _ v u Q I rx ry ⟨a, b, vs, ws, rfl, rfl, h1, h2, ?_, fun p hp => q _ _ (.lst S hp (RepL.append r2' r1') hl)⟩
    rw [e1, e2, ← List.length_append]
    exact hl
  · obtain rfl := hx.top.int
    obtain rfl := hy.top.int
    obtain rfl := Option.some.inj e
    exact op_sub pins s τ H _ _ v u Q I rx ry ⟨_, _, rfl, rfl, q _ H (.int S _)⟩
  · obtain rfl := hx.top.int
    obtain rfl := hy.top.int
    obtain ⟨c, rfl⟩ := if_some e
    refine op_mul pins s τ H _ _ v u Q I rx ry ⟨_, _, rfl, rfl, ?_, q _ H (.int S _)⟩
    simpa [wid, CMul] using c
  · obtain rfl := hx.top.int
    obtain rfl := hy.top.int
    obtain ⟨c, rfl⟩ := if_some e
    refine op_fdivX pins s τ H _ _ v u Q I rx ry ⟨_, _, rfl, rfl, ?_, q _ H (.int S _)⟩
    rw [Bool.and_eq_true] at c
    exact ⟨of_decide_eq_true c.1, of_decide_eq_true c.2⟩
  · rename_i i j
    obtain rfl := hx.top.int
    obtain rfl := hy.top.int
    by_cases c : j ≠ 0
    · rw [if_pos c] at e
      obtain rfl := Option.some.inj e
      exact op_modN pins s τ H _ _ v u Q I rx ry ⟨_, _, rfl, rfl, c, q _ H (.int S _)⟩
    · rw [if_neg c] at e
      cases e
  · obtain rfl := hx.top.int
    obtain rfl := hy.top.int
    obtain ⟨c, rfl⟩ := if_some e
    refine op_pow pins s τ H _ _ v u Q I rx ry ⟨_, _, rfl, rfl, ?_, q _ H (.int S _)⟩
    simpa [CPow] using c
  · obtain rfl := hx.top.int
    obtain rfl := hy.top.int
    obtain ⟨c, rfl⟩ := if_some e
    refine op_shl pins s τ H _ _ v u Q I rx ry ⟨_, _, rfl, rfl, ?_, q _ H (.int S _)⟩
    simpa [CPow] using c
  · cases e
end
end DT

/-! Dicts whose keys are tuples of whole numbers: what stands in the machine's heap. -/
namespace DT
open PySem L2 PyProof.Rows
section
variable {X : Cx} {pins : List (Addr × Obj)} {s : Shared} {N N' : Ms} {H : Hp} {τ : L2.St} {a : Addr} {kvs : List (D × D)} {ks vs : List V}
mutual
theorem rep_key (I : Inv X pins τ H s) : ∀ (d : D) (v : V) (u : Value), keyOk d = true → Rep N H d v → RelV v u → NestedIs s.heap (toKey d) u
  | .int i, v, u, _, h, r => by
    rw [Rep] at h
    subst h
    obtain ⟨t, rfl⟩ := r
    exact .int i t
  | .tuple ds, v, u, k, h, r => by
    rw [Rep] at h
    obtain ⟨_, a, vs, rfl, _, ht, hl⟩ := h
    cases r
    obtain ⟨its, rv, ⟨o, e, c, n, dd⟩, _⟩ := I.tuple (ht.sq (K := X.K))
    have k' : keysOk ds = true := by simpa only [keyOk] using k
    exact .tup e c dd (rep_keys I ds vs its.toArray.toList k' hl (by simpa using rv))
  | .none, _, _, k, _, _ => by cases k
  | .bool _, _, _, k, _, _ => by cases k
  | .str _, _, _, k, _, _ => by cases k
  | .list _, _, _, k, _, _ => by cases k
  | .dict _, _, _, k, _, _ => by cases k
theorem rep_keys (I : Inv X pins τ H s) : ∀ (ds : List D) (vs : List V) (us : List Value), keysOk ds = true → RepL N H ds vs → Vals vs us → NestedAll s.heap (toKeys ds) us
  | [], _, _, _, h, r => by
    rw [RepL] at h
    subst h
    cases r
    exact .nil
  | d :: ds, _, _, k, h, r => by
    rw [RepL] at h
    obtain ⟨v, t, rfl, h1, h2⟩ := h
    cases r with
    | cons r1 r2 =>
      have k' : keyOk d = true ∧ keysOk ds = true := by simpa only [keysOk, Bool.and_eq_true] using k
      exact .cons (rep_key I d v _ k'.1 h1 r1) (rep_keys I ds t _ k'.2 h2 r2)
end
mutual
theorem numK_of : ∀ d : D, keyOk d = true → numK (toKey d) = true
  | .int i, _ => rfl
  | .tuple ds, k => by
    rw [toKey, numK]
    exact numKs_of ds (by simpa only [keyOk] using k)
  | .none, k => by cases k
  | .bool _, k => by cases k
  | .str _, k => by cases k
  | .list _, k => by cases k
  | .dict _, k => by cases k
theorem numKs_of : ∀ ds : List D, keysOk ds = true → numKs (toKeys ds) = true
  | [], _ => rfl
  | d :: ds, k => by
    have k' : keyOk d = true ∧ keysOk ds = true := by simpa only [keysOk, Bool.and_eq_true] using k
    rw [toKeys, numKs, numK_of d k'.1, numKs_of ds k'.2]
    rfl
end
theorem tupKD_ok {d : D} (h : tupKD d = true) : (∃ ds, d = .tuple ds) ∧ keyOk d = true ∧ (toKey d).depth ≤ 8 ∧ tupK (toKey d) = true := by
  obtain ⟨h1, h⟩ := Bool.and_eq_true_iff.mp h
  obtain ⟨h2, h3⟩ := Bool.and_eq_true_iff.mp h
  cases d with
  | tuple ds =>
    refine ⟨⟨ds, rfl⟩, h2, of_decide_eq_true h3, ?_⟩
    have z := numK_of _ h2
    rw [toKey] at z h3 ⊢
    rw [numK] at z
    exact Bool.and_eq_true_iff.mpr ⟨z, h3⟩
  | _ => cases h1
theorem entry_num {P P' : Program} {w w' : World} {x : NestedKey × Addr × Value} (h : numK x.1 = true) : entryOfKey (nestedKind P w) x = entryOfKey (nestedKind P' w') x := by
  unfold entryOfKey
  show (⟨x.1.hash w, _, _⟩ : DictEntry) = ⟨x.1.hash w', _, _⟩
  rw [hash_num w w' x.1 h]
theorem toKeys_map' (l : List D) : toKeys l = l.map toKey := by
  induction l with
  | nil => rfl
  | cons a l ih => rw [toKeys, ih, List.map_cons]
/-- keys and values of a dict, place by place -/
theorem RepK.length : ∀ {kvs : List (D × D)} {ks vs : List V}, RepK N H kvs ks vs → ks.length = kvs.length ∧ vs.length = kvs.length
  | [], _, _, h => by
    rw [RepK] at h
    obtain ⟨rfl, rfl⟩ := h
    exact ⟨rfl, rfl⟩
  | (k, d) :: r, _, _, h => by
    rw [RepK] at h
    obtain ⟨u, t, v, q, rfl, rfl, _, _, h3⟩ := h
    have z := RepK.length h3
    exact ⟨by rw [List.length_cons, List.length_cons, z.1], by rw [List.length_cons, List.length_cons, z.2]⟩
theorem RepK.get : ∀ {kvs : List (D × D)} {ks vs : List V} {i : Nat} {p : D × D}, RepK N H kvs ks vs → kvs[i]? = some p → ∃ u v, ks[i]? = some u ∧ vs[i]? = some v ∧ Rep N H p.1 u ∧ Rep N H p.2 v
  | [], _, _, _, _, _, e => by simp at e
  | (k, d) :: r, _, _, 0, p, h, e => by
    rw [RepK] at h
    obtain ⟨u, t, v, q, rfl, rfl, h1, h2, _⟩ := h
    obtain rfl := Option.some.inj (show some (k, d) = some p from e)
    exact ⟨u, v, rfl, rfl, h1, h2⟩
  | (k, d) :: r, _, _, i + 1, p, h, e => by
    rw [RepK] at h
    obtain ⟨u, t, v, q, rfl, rfl, _, _, h3⟩ := h
    obtain ⟨u', v', e1, e2, e3⟩ := RepK.get (i := i) h3 (by simpa using e)
    exact ⟨u', v', by simpa using e1, by simpa using e2, e3⟩
theorem krel_keys : ∀ {l : List (NestedKey × Addr × V)} {xs : List (NestedKey × Addr × Value)}, Paired KRel l xs → l.map (·.1) = xs.map (·.1) ∧ l.map (fun x => x.2.1) = xs.map (fun x => x.2.1) ∧ Vals (l.map (·.2.2)) (xs.map (·.2.2))
  | _, _, .nil => ⟨rfl, rfl, .nil⟩
  | _, _, .cons h t => by
    obtain ⟨h1, h2, h3⟩ := krel_keys t
    exact ⟨by rw [List.map_cons, List.map_cons, h1, h.1], by rw [List.map_cons, List.map_cons, h2, h.2.1], .cons h.2.2 h3⟩
/-- a dict of tuples in the machine's heap -/
theorem dict_raw (I : Inv X pins τ H s) (h : DAt H a (toKeys (kvs.map (·.1))) ks vs) (r : RepK N H kvs ks vs) (ht : (kvs.all fun p => tupKD p.1) = true) :
    ∃ xs : List (NestedKey × Addr × Value), s.heap.DictOfH (nestedKind X.prog X.w) a xs ∧ xs.map (·.1) = toKeys (kvs.map (·.1)) ∧ xs.map (fun x => V.ref x.2.1) = ks ∧ Vals vs (xs.map (·.2.2)) ∧ xs.length ≤ sizeLine ∧ (a == sysModules) = false := by
  rcases h with ⟨l, e, e1, e2, e3⟩ | ⟨l, e, e1, e2, e3⟩
  · have hk : kvs = [] := by
      cases kvs with
      | nil => rfl
      | cons p q =>
        exfalso
        rw [List.all_cons, Bool.and_eq_true] at ht
        obtain ⟨⟨ds, ed⟩, _⟩ := tupKD_ok ht.1
        rw [List.map_cons, toKeys, ed, toKey] at e1
        cases l with
        | nil => cases e1
        | cons y l =>
          rw [List.map_cons] at e1
          have z := (List.cons.inj e1).1
          cases hy : y.1 with
          | inl i => rw [hy] at z; cases z
          | inr i => rw [hy] at z; cases z
    subst hk
    have el : l = [] := by
      cases l with
      | nil => rfl
      | cons y l => cases e1
    subst el
    subst e2 e3
    obtain ⟨_, hs, ws, rl, o, es, ep, h1, h2, h3, h4, h5, h6⟩ := I.hok a _ e
    cases rl
    refine ⟨[], ⟨o, es, ep, h1, h2, h3, ?_, ⟨fun x hx => absurd hx List.not_mem_nil, List.nodup_nil⟩⟩, rfl, rfl, .nil, Nat.zero_le _, hs⟩
    have z : es.toList.length = 0 := by
      have := h5.length
      simpa using this
    rw [List.length_eq_zero_iff.mp z]
    rfl
  · obtain ⟨⟨hl, hs, o, es, ep, xs, h1, h2, h3, h4, rl, nd, tk⟩, _⟩ := I.hok a _ e
    obtain ⟨k1, k2, k3⟩ := krel_keys rl
    have len : l.length = xs.length := rl.length
    have e2' : xs.map (fun x => V.ref x.2.1) = ks := by
      rw [← e2]
      have := congrArg (List.map V.ref) k2
      rw [List.map_map, List.map_map] at this
      exact this.symm
    refine ⟨xs, ⟨o, es, ep, h1, h2, h3, h4 X.prog X.w, fun x hx => ?_, nd⟩, by rw [← k1, e1], e2', by rw [← e3]; exact k3, by rw [← len]; exact hl, hs⟩
    obtain ⟨i, hi⟩ := List.getElem?_of_mem hx
    have ek : (xs.map (·.1))[i]? = some x.1 := by rw [List.getElem?_map, hi]; rfl
    rw [← k1, e1, toKeys_map', List.getElem?_map] at ek
    obtain ⟨kd, hkd, ekd⟩ := Option.map_eq_some_iff.mp ek
    rw [List.getElem?_map] at hkd
    obtain ⟨p, hp, rfl⟩ := Option.map_eq_some_iff.mp hkd
    obtain ⟨u, v, u1, _, u3, _⟩ := r.get hp
    have u2 : ks[i]? = some (.ref x.2.1) := by
      rw [← e2', List.getElem?_map, hi]
      rfl
    obtain rfl := Option.some.inj (u1.symm.trans u2)
    obtain ⟨_, c1, c2, _⟩ := tupKD_ok (List.all_eq_true.mp ht p (List.mem_of_getElem? hp))
    refine ⟨?_, ?_⟩
    · rw [← ekd]
      exact rep_key I p.1 _ _ c1 u3 rfl
    · rw [← ekd]
      exact c2
/-- what is found under a key -/
theorem dGet_at {k : D} : ∀ {kvs : List (D × D)} {xs : List (NestedKey × Addr × Value)} {ks vs : List V}, RepK N H kvs ks vs → xs.map (·.1) = toKeys (kvs.map (·.1)) → Vals vs (xs.map (·.2.2)) →
    (dGet kvs k = none ∧ atKey xs (toKey k) = none) ∨ ∃ d v p, dGet kvs k = some d ∧ atKey xs (toKey k) = some p ∧ RelV v p.2 ∧ Rep N H d v
  | [], xs, _, _, h, e, _ => by
    cases xs with
    | nil => exact .inl ⟨rfl, rfl⟩
    | cons x xs => cases e
  | (k0, d0) :: r, xs, _, _, h, e, hv => by
    rw [RepK] at h
    obtain ⟨u, t, v, q, rfl, rfl, h1, h2, h3⟩ := h
    cases xs with
    | nil => cases e
    | cons x xs =>
      rw [List.map_cons, List.map_cons, toKeys] at e
      obtain ⟨e1, e2⟩ := List.cons.inj e
      rw [List.map_cons] at hv
      cases hv with
      | cons v1 v2 =>
        have e1' : x.1 = toKey k0 := e1
        by_cases c : toKey k0 = toKey k
        · refine .inr ⟨d0, v, x.2, ?_, ?_, v1, h2⟩
          · unfold dGet
            rw [List.find?_cons, decide_eq_true c]
            rfl
          · unfold atKey
            rw [List.find?_cons, decide_eq_true (e1'.trans c)]
            rfl
        · have := dGet_at (k := k) h3 e2 v2
          have g1 : dGet ((k0, d0) :: r) k = dGet r k := by
            unfold dGet
            rw [List.find?_cons, decide_eq_false c]
          have g2 : atKey (x :: xs) (toKey k) = atKey xs (toKey k) := by
            unfold atKey
            rw [List.find?_cons, decide_eq_false (fun z => c (e1'.symm.trans z))]
          rw [g1, g2]
          exact this
end
end DT

/-! Dicts: what is found under a key. -/
namespace DT
open PySem L2 PyProof.Rows
def keyI : D → Key
  | .int i => .inl i
  | .str x => .inr x
  | _ => .inl 0
section
variable {X : Cx} {pins : List (Addr × Obj)} {s : Shared} {N N' : Ms} {H : Hp} {τ : L2.St} {a : Addr} {kvs : List (D × D)} {ks vs : List V}
theorem kv_vals : ∀ {l : List (Key × V)} {ws : List (Key × Value)}, KV l ws → Vals (l.map (·.2)) (ws.map (·.2))
  | _, _, .nil => .nil
  | _, _, .cons h t => .cons h.2 (kv_vals t)
theorem kn_keys : ∀ {l : List (Key × V)} {kvs : List (D × D)}, l.map (fun p => kN p.1) = toKeys (kvs.map (·.1)) → (kvs.all fun p => isInt p.1) = true → l.map (·.1) = kvs.map fun p => keyI p.1
  | [], [], _, _ => rfl
  | [], _ :: _, e, _ => by cases e
  | _ :: _, [], e, _ => by cases e
  | y :: l, (k, d) :: r, e, h => by
    rw [List.all_cons, Bool.and_eq_true] at h
    rw [List.map_cons, List.map_cons, toKeys] at e
    obtain ⟨e1, e2⟩ := List.cons.inj e
    rw [List.map_cons, List.map_cons, kn_keys e2 h.2]
    congr 1
    cases k with
    | int i =>
      cases hy : y.1 with
      | inl j =>
        rw [hy] at e1
        have z : NestedKey.num j = NestedKey.num i := e1
        injection z with z
        rw [z]
        rfl
      | inr j =>
        rw [hy] at e1
        cases e1
    | _ => cases h.1
/-- a dict of whole numbers in the machine's heap -/
theorem dict_rawI (I : Inv X pins τ H s) (h : DAt H a (toKeys (kvs.map (·.1))) ks vs) (ht : (kvs.all fun p => isInt p.1) = true) :
    ∃ ws : List (Key × Value), s.heap.DictOf (mixKind X.prog X.w) a ws ∧ ws.map (·.1) = (kvs.map fun p => keyI p.1) ∧ Vals vs (ws.map (·.2)) ∧ ws.length ≤ sizeLine ∧ (a == sysModules) = false := by
  rcases h with ⟨l, e, e1, e2, e3⟩ | ⟨l, e, e1, e2, e3⟩
  · obtain ⟨z, hd, ws, rel, dd⟩ := I.hok a _ e
    refine ⟨ws, dd, ?_, ?_, ?_, hd⟩
    · rw [← rel.keys]
      exact kn_keys e1 ht
    · rw [← e3]
      exact kv_vals rel
    · rw [← rel.length]
      exact z
  · have hk : kvs = [] := by
      cases kvs with
      | nil => rfl
      | cons p q =>
        exfalso
        obtain ⟨⟨_, _, _, _, _, _, _, _, _, _, _, _, tk⟩, _⟩ := I.hok a _ e
        cases l with
        | nil => cases e1
        | cons y l =>
          rw [List.map_cons, List.map_cons, toKeys] at e1
          have z := (List.cons.inj e1).1
          have t := tk y List.mem_cons_self
          rw [List.all_cons, Bool.and_eq_true] at ht
          rw [z] at t
          cases hp : p.1 with
          | int i => rw [hp] at t; cases t
          | _ => rw [hp] at ht; cases ht.1
    subst hk
    have el : l = [] := by
      cases l with
      | nil => rfl
      | cons y l => cases e1
    subst el
    subst e3
    obtain ⟨⟨_, hs, o, es, ep, xs, h1, h2, h3, h4, rl, _⟩, _⟩ := I.hok a _ e
    cases rl
    refine ⟨[], ?_, rfl, .nil, Nat.zero_le _, hs⟩
    have z : es = #[] := by
      have := h4 X.prog X.w
      exact Array.toList_inj.mp (by rw [this]; rfl)
    subst z
    exact ⟨o, #[], ep, h1, h2, h3, fun _ he => by simp at he, Pairs.nil, List.nodup_nil⟩
theorem dGet_atI {k : D} (hk : isInt k = true) : ∀ {kvs : List (D × D)} {ws : List (Key × Value)} {ks vs : List V}, (kvs.all fun p => isInt p.1) = true → RepK N H kvs ks vs → ws.map (·.1) = (kvs.map fun p => keyI p.1) → Vals vs (ws.map (·.2)) →
    (dGet kvs k = none ∧ valueAt ws (keyI k) = none) ∨ ∃ d v w, dGet kvs k = some d ∧ valueAt ws (keyI k) = some w ∧ RelV v w ∧ Rep N H d v
  | [], ws, _, _, _, h, e, _ => by
    cases ws with
    | nil => exact .inl ⟨rfl, rfl⟩
    | cons x xs => cases e
  | (k0, d0) :: r, ws, _, _, hi, h, e, hv => by
    rw [List.all_cons, Bool.and_eq_true] at hi
    rw [RepK] at h
    obtain ⟨u, t, v, q, rfl, rfl, h1, h2, h3⟩ := h
    cases ws with
    | nil => cases e
    | cons x xs =>
      rw [List.map_cons, List.map_cons] at e
      obtain ⟨e1, e2⟩ := List.cons.inj e
      rw [List.map_cons] at hv
      cases hv with
      | cons v1 v2 =>
        have e1' : x.1 = keyI k0 := e1
        have iff : toKey k0 = toKey k ↔ keyI k0 = keyI k := by
          cases k0 with
          | int i =>
            cases k with
            | int j =>
              constructor
              · intro z
                have z' : NestedKey.num i = NestedKey.num j := z
                injection z' with z'
                rw [z']
              · intro z
                have z' : (Sum.inl i : Key) = Sum.inl j := z
                injection z' with z'
                rw [z']
            | _ => cases hk
          | _ => cases hi.1
        by_cases c : toKey k0 = toKey k
        · refine .inr ⟨d0, v, x.2, ?_, ?_, v1, h2⟩
          · unfold dGet
            rw [List.find?_cons, decide_eq_true c]
            rfl
          · unfold valueAt
            rw [List.find?_cons, decide_eq_true (e1'.trans (iff.mp c))]
            rfl
        · have := dGet_atI hk hi.2 h3 e2 v2
          have g1 : dGet ((k0, d0) :: r) k = dGet r k := by
            unfold dGet
            rw [List.find?_cons, decide_eq_false c]
          have g2 : valueAt (x :: xs) (keyI k) = valueAt xs (keyI k) := by
            unfold valueAt
            rw [List.find?_cons, decide_eq_false (fun z => c (iff.mpr (e1'.symm.trans z)))]
          rw [g1, g2]
          exact this
theorem int_key {k : D} {y : V} {u : Value} (hk : isInt k = true) (r : Rep N H k y) (ry : RelV y u) : keyIs (keyI k) u = true := by
  cases k with
  | int i =>
    rw [Rep] at r
    subst r
    obtain ⟨t, rfl⟩ := ry
    exact keyIs_int i t
  | _ => cases hk
theorem tup_ref {k : D} {y : V} {u : Value} (hk : tupKD k = true) (r : Rep N H k y) (ry : RelV y u) : ∃ b, y = .ref b ∧ u = .ref b := by
  obtain ⟨⟨ds, rfl⟩, _⟩ := tupKD_ok hk
  rw [Rep] at r
  obtain ⟨_, b, _, rfl, _⟩ := r
  exact ⟨b, rfl, ry⟩
theorem tup_is (I : Inv X pins τ H s) {k : D} {b : Addr} (hk : tupKD k = true) (r : Rep N H k (.ref b)) : (nestedKind X.prog X.w).is s.heap (toKey k) b := by
  obtain ⟨_, h2, h3, _⟩ := tupKD_ok hk
  exact ⟨rep_key I k _ _ h2 r rfl, h3⟩
theorem dict_type (I : Inv X pins τ H s) {nk : List NestedKey} (h : DAt H a nk ks vs) : s.TypeIs (.ref a) "dict" := by
  rcases h with ⟨l, e, _⟩ | ⟨l, e, _⟩
  · obtain ⟨_, _, _, _, o, es, ep, h1, h2, _⟩ := I.hok a _ e
    exact ⟨o, h1, h2.1⟩
  · obtain ⟨⟨_, _, o, es, ep, xs, h1, h2, _⟩, _⟩ := I.hok a _ e
    exact ⟨o, h1, h2.1⟩
theorem dOk_two {k : D} (h : dOk kvs k = true) : (tupKD k = true ∧ (kvs.all fun p => tupKD p.1) = true) ∨ (isInt k = true ∧ (kvs.all fun p => isInt p.1) = true) := by
  rcases Bool.or_eq_true_iff.mp h with h | h
  · exact .inl (Bool.and_eq_true_iff.mp h)
  · exact .inr (Bool.and_eq_true_iff.mp h)
/-- d[k] -/
theorem dict_get {k d : D} {y : V} {u : Value} {Q : Value → Shared → Prop} {E : Value → Shared → Prop} (hu : X.A.units + 65 < cLine) (I : Inv X pins τ H s) (h : DAt H a (toKeys (kvs.map (·.1))) ks vs) (r : RepK N H kvs ks vs) (ok : dOk kvs k = true) (e : dGet kvs k = some d) (rk : Rep N' H k y) (ry : RelV y u)
    (q : ∀ v w s', Inv X pins τ H s' → RelV v w → Rep N H d v → Q w s') : wpAny (model X.prog X.w) X.A (getItem (.ref a) u) Q E s := by
  rcases dOk_two ok with ⟨k1, k2⟩ | ⟨k1, k2⟩
  · obtain ⟨b, rfl, rfl⟩ := tup_ref k1 rk ry
    obtain ⟨xs, dd, x1, x2, x3, x4, x5⟩ := dict_raw I h r k2
    rcases dGet_at (k := k) r x1 x3 with ⟨z, _⟩ | ⟨d', v, p, z1, z2, z3, z4⟩
    · rw [z] at e
      cases e
    · obtain rfl := Option.some.inj (z1.symm.trans e)
      exact wpAny_getItem_heap (knd := nestedKind X.prog X.w) (by show X.A.units + 1 + 8 < cLine; omega) (tup_is I k1 rk) dd z2 (q v p.2 _ (I.tok _) z3 z4)
  · obtain ⟨ws, dd, x1, x2, x3, x4⟩ := dict_rawI I h k2
    rcases dGet_atI k1 k2 r x1 x2 with ⟨z, _⟩ | ⟨d', v, w, z1, z2, z3, z4⟩
    · rw [z] at e
      cases e
    · obtain rfl := Option.some.inj (z1.symm.trans e)
      exact wpAny_getItem_of (knd := mixKind X.prog X.w) (int_key k1 rk ry) dd.mapOf z2 (q v w _ (I.tok _) z3 z4)
/-- k in d -/
theorem dict_in {k : D} {y : V} {u : Value} {Q : Value → Shared → Prop} {E : Value → Shared → Prop} (hu : X.A.units + 65 < cLine) (I : Inv X pins τ H s) (h : DAt H a (toKeys (kvs.map (·.1))) ks vs) (r : RepK N H kvs ks vs) (ok : dOk kvs k = true) (rk : Rep N' H k y) (ry : RelV y u)
    (q : ∀ s', Inv X pins τ H s' → Q (.bool (dGet kvs k).isSome) s') : wpAny (model X.prog X.w) X.A (compareOp .In u (.ref a)) Q E s := by
  rcases dOk_two ok with ⟨k1, k2⟩ | ⟨k1, k2⟩
  · obtain ⟨b, rfl, rfl⟩ := tup_ref k1 rk ry
    obtain ⟨xs, dd, x1, x2, x3, x4, x5⟩ := dict_raw I h r k2
    have same : (atKey xs (toKey k)).isSome = (dGet kvs k).isSome := by
      rcases dGet_at (k := k) r x1 x3 with ⟨z, z'⟩ | ⟨d', v, p, z1, z2, z3, z4⟩
      · rw [z, z']
        rfl
      · rw [z1, z2]
        rfl
    refine wpAny_in_heap (knd := nestedKind X.prog X.w) (by show X.A.units + 1 + 8 < cLine; omega) (tup_is I k1 rk) x5 dd ?_
    rw [same]
    exact q _ (I.tok _)
  · obtain ⟨ws, dd, x1, x2, x3, x4⟩ := dict_rawI I h k2
    have same : (valueAt ws (keyI k)).isSome = (dGet kvs k).isSome := by
      rcases dGet_atI k1 k2 r x1 x2 with ⟨z, z'⟩ | ⟨d', v, p, z1, z2, z3, z4⟩
      · rw [z, z']
        rfl
      · rw [z1, z2]
        rfl
    refine wpAny_in_of (knd := mixKind X.prog X.w) (int_key k1 rk ry) x4 dd.mapOf ?_
    rw [same]
    exact q _ (I.tok _)
/-- k not in d -/
theorem dict_notIn {k : D} {y : V} {u : Value} {Q : Value → Shared → Prop} {E : Value → Shared → Prop} (hu : X.A.units + 65 < cLine) (I : Inv X pins τ H s) (h : DAt H a (toKeys (kvs.map (·.1))) ks vs) (r : RepK N H kvs ks vs) (ok : dOk kvs k = true) (rk : Rep N' H k y) (ry : RelV y u)
    (q : ∀ s', Inv X pins τ H s' → Q (.bool (!(dGet kvs k).isSome)) s') : wpAny (model X.prog X.w) X.A (compareOp .NotIn u (.ref a)) Q E s := by
  rcases dOk_two ok with ⟨k1, k2⟩ | ⟨k1, k2⟩
  · obtain ⟨b, rfl, rfl⟩ := tup_ref k1 rk ry
    obtain ⟨xs, dd, x1, x2, x3, x4, x5⟩ := dict_raw I h r k2
    have same : (atKey xs (toKey k)).isSome = (dGet kvs k).isSome := by
      rcases dGet_at (k := k) r x1 x3 with ⟨z, z'⟩ | ⟨d', v, p, z1, z2, z3, z4⟩
      · rw [z, z']
        rfl
      · rw [z1, z2]
        rfl
    refine wpAny_notIn_heap (knd := nestedKind X.prog X.w) (by show X.A.units + 1 + 8 < cLine; omega) (tup_is I k1 rk) x5 dd ?_
    rw [same]
    exact q _ (I.tok _)
  · obtain ⟨ws, dd, x1, x2, x3, x4⟩ := dict_rawI I h k2
    have same : (valueAt ws (keyI k)).isSome = (dGet kvs k).isSome := by
      rcases dGet_atI k1 k2 r x1 x2 with ⟨z, z'⟩ | ⟨d', v, p, z1, z2, z3, z4⟩
      · rw [z, z']
        rfl
      · rw [z1, z2]
        rfl
    refine wpAny_notIn_of (knd := mixKind X.prog X.w) (int_key k1 rk ry) x4 dd.mapOf ?_
    rw [same]
    exact q _ (I.tok _)
end
end DT

/-! Dicts whose keys are tuples: a store. -/
namespace DT
open PySem L2 PyProof.Rows
def lPut (l : List (NestedKey × Addr × V)) (k : NestedKey) (b : Addr) (v : V) : List (NestedKey × Addr × V) :=
  if (l.any fun x => decide (x.1 = k)) = true then l.map (fun x => if x.1 = k then (x.1, x.2.1, v) else x) else l ++ [(k, b, v)]
section
variable {X : Cx} {pins : List (Addr × Obj)} {s : Shared} {N N' : Ms} {H : Hp} {τ : L2.St} {a : Addr} {kvs : List (D × D)} {ks vs : List V}
theorem lPut_le (l : List (NestedKey × Addr × V)) (k : NestedKey) (b : Addr) (v : V) : (lPut l k b v).length ≤ l.length + 1 := by
  unfold lPut
  split
  · rw [List.length_map]
    omega
  · rw [List.length_append]
    simp
theorem krel_any {k : NestedKey} : ∀ {l : List (NestedKey × Addr × V)} {xs : List (NestedKey × Addr × Value)}, Paired KRel l xs → (l.any fun x => decide (x.1 = k)) = (atKey xs k).isSome
  | _, _, .nil => rfl
  | x :: l, y :: xs, .cons h t => by
    rw [List.any_cons, krel_any t]
    unfold atKey
    rw [List.find?_cons]
    have e : y.1 = x.1 := h.1.symm
    by_cases c : x.1 = k
    · rw [decide_eq_true c, decide_eq_true (e.trans c)]
      rfl
    · rw [decide_eq_false c, decide_eq_false (fun z => c (e.symm.trans z))]
      rfl
theorem krel_map {k : NestedKey} {v : V} {r : Value} (rv : RelV v r) : ∀ {l : List (NestedKey × Addr × V)} {xs : List (NestedKey × Addr × Value)}, Paired KRel l xs → Paired KRel (l.map fun x => if x.1 = k then (x.1, x.2.1, v) else x) (xs.map (putAt k r))
  | _, _, .nil => .nil
  | x :: l, y :: xs, .cons h t => by
    rw [List.map_cons, List.map_cons]
    refine .cons ?_ (krel_map rv t)
    unfold putAt
    by_cases c : x.1 = k
    · rw [if_pos c, if_pos (h.1.symm.trans c)]
      exact ⟨h.1, h.2.1, rv⟩
    · rw [if_neg c, if_neg (fun z => c (h.1.trans z))]
      exact h
theorem krel_app {l : List (NestedKey × Addr × V)} {xs : List (NestedKey × Addr × Value)} {x : NestedKey × Addr × V} {y : NestedKey × Addr × Value} (h : KRel x y) (t : Paired KRel l xs) : Paired KRel (l ++ [x]) (xs ++ [y]) := by
  induction t with
  | nil => exact .cons h .nil
  | cons h' _ ih => exact .cons h' ih
theorem krel_put {k : NestedKey} {b : Addr} {v : V} {r : Value} (rv : RelV v r) {l : List (NestedKey × Addr × V)} {xs : List (NestedKey × Addr × Value)} (h : Paired KRel l xs) : Paired KRel (lPut l k b v) (storedH xs k b r) := by
  unfold lPut storedH
  rw [krel_any h]
  split
  · exact krel_map rv h
  · exact krel_app ⟨rfl, rfl, rv⟩ h
theorem repK_any {k : D} : ∀ {kvs : List (D × D)} {l : List (NestedKey × Addr × V)}, l.map (·.1) = toKeys (kvs.map (·.1)) → (kvs.any fun p => decide (toKey p.1 = toKey k)) = (l.any fun x => decide (x.1 = toKey k))
  | [], [], _ => rfl
  | [], _ :: _, e => by cases e
  | _ :: _, [], e => by cases e
  | p :: kvs, x :: l, e => by
    rw [List.map_cons, List.map_cons, toKeys] at e
    obtain ⟨e1, e2⟩ := List.cons.inj e
    have e1' : x.1 = toKey p.1 := e1
    rw [List.any_cons, List.any_cons, repK_any e2, e1']
theorem repK_map {k d : D} {v : V} (rd : Rep N H d v) : ∀ {kvs : List (D × D)} {l : List (NestedKey × Addr × V)}, l.map (·.1) = toKeys (kvs.map (·.1)) → RepK N H kvs (l.map fun x => V.ref x.2.1) (l.map (·.2.2)) →
    RepK N H (kvs.map fun p => if toKey p.1 = toKey k then (p.1, d) else p) ((l.map fun x => if x.1 = toKey k then (x.1, x.2.1, v) else x).map fun x => V.ref x.2.1) ((l.map fun x => if x.1 = toKey k then (x.1, x.2.1, v) else x).map (·.2.2)) ∧
    (l.map fun x => if x.1 = toKey k then (x.1, x.2.1, v) else x).map (·.1) = toKeys ((kvs.map fun p => if toKey p.1 = toKey k then (p.1, d) else p).map (·.1))
  | [], [], _, h => ⟨h, rfl⟩
  | [], _ :: _, e, _ => by cases e
  | _ :: _, [], e, _ => by cases e
  | p :: kvs, x :: l, e, h => by
    rw [List.map_cons, List.map_cons, toKeys] at e
    obtain ⟨e1, e2⟩ := List.cons.inj e
    have e1' : x.1 = toKey p.1 := e1
    obtain ⟨pk, pd⟩ := p
    rw [List.map_cons, List.map_cons, RepK] at h
    obtain ⟨u, t, w, r, c1, c2, h1, h2, h3⟩ := h
    obtain ⟨rfl, rfl⟩ := List.cons.inj c1
    obtain ⟨rfl, rfl⟩ := List.cons.inj c2
    obtain ⟨i1, i2⟩ := repK_map (k := k) rd e2 h3
    simp only [List.map_cons]
    by_cases c : toKey pk = toKey k
    · rw [if_pos c, if_pos (e1'.trans c)]
      refine ⟨?_, ?_⟩
      · rw [RepK]
        exact ⟨_, _, _, _, rfl, rfl, h1, rd, i1⟩
      · rw [toKeys, i2, e1']
    · rw [if_neg c, if_neg (fun z => c (e1'.symm.trans z))]
      refine ⟨?_, ?_⟩
      · rw [RepK]
        exact ⟨_, _, _, _, rfl, rfl, h1, h2, i1⟩
      · rw [toKeys, i2, e1']
theorem repK_app {k d : D} {u v : V} (rk : Rep N H k u) (rd : Rep N H d v) : ∀ {kvs : List (D × D)} {ks vs : List V}, RepK N H kvs ks vs → RepK N H (kvs ++ [(k, d)]) (ks ++ [u]) (vs ++ [v])
  | [], _, _, h => by
    rw [RepK] at h
    obtain ⟨rfl, rfl⟩ := h
    show RepK N H [(k, d)] [u] [v]
    rw [RepK]
    exact ⟨u, [], v, [], rfl, rfl, rk, rd, by rw [RepK]; exact ⟨rfl, rfl⟩⟩
  | (pk, pd) :: r, _, _, h => by
    rw [RepK] at h
    obtain ⟨u', t, v', q, rfl, rfl, h1, h2, h3⟩ := h
    show RepK N H ((pk, pd) :: (r ++ [(k, d)])) _ _
    rw [RepK]
    exact ⟨u', t ++ [u], v', q ++ [v], rfl, rfl, h1, h2, repK_app rk rd h3⟩
/-- the data of the dict behind the store -/
theorem repK_put {k d : D} {b : Addr} {v : V} (rk : Rep N H k (.ref b)) (rd : Rep N H d v) {kvs : List (D × D)} {l : List (NestedKey × Addr × V)} (e : l.map (·.1) = toKeys (kvs.map (·.1))) (h : RepK N H kvs (l.map fun x => V.ref x.2.1) (l.map (·.2.2))) :
    RepK N H (dPut kvs k d) ((lPut l (toKey k) b v).map fun x => V.ref x.2.1) ((lPut l (toKey k) b v).map (·.2.2)) ∧ (lPut l (toKey k) b v).map (·.1) = toKeys ((dPut kvs k d).map (·.1)) := by
  unfold dPut lPut
  rw [repK_any e]
  split
  · exact repK_map rd e h
  · rw [List.map_append, List.map_append, List.map_append, List.map_append, toKeys_map', List.map_append, e, toKeys_map']
    exact ⟨repK_app rk rd h, rfl⟩
/-- d[k] = v -/
theorem dict_put {k : D} {y v : V} {u r : Value} {Q : Unit → Shared → Prop} {E : Value → Shared → Prop} (hu : X.A.units + 65 < cLine) (I : Inv X pins τ H s) (h : DAt H a (toKeys (kvs.map (·.1))) ks vs) (rK : RepK N H kvs ks vs) (k1 : tupKD k = true) (k2 : (kvs.all fun p => tupKD p.1) = true) (hl : kvs.length < LINE) (rk : Rep N' H k y) (ry : RelV y u) (rv : RelV v r)
    (q : ∀ (l : List (NestedKey × Addr × V)) (b : Addr) s', y = .ref b → l.map (·.1) = toKeys (kvs.map (·.1)) → l.map (fun x => V.ref x.2.1) = ks → l.map (·.2.2) = vs → Inv X pins τ (upd H a (.ext (DRaw a (lPut l (toKey k) b v)))) s' → Q () s') :
    wpAny (model X.prog X.w) X.A (setItem (.ref a) u r) Q E s := by
  obtain ⟨b, rfl, rfl⟩ := tup_ref k1 rk ry
  obtain ⟨_, _, _, tk⟩ := tupKD_ok k1
  obtain ⟨xs, dd, x1, x2, x3, x4, x5⟩ := dict_raw I h rK k2
  have lk := rK.length
  have hkv : ∃ l : List (NestedKey × Addr × V), Paired KRel l xs ∧ l.map (·.1) = toKeys (kvs.map (·.1)) ∧ l.map (fun x => V.ref x.2.1) = ks ∧ l.map (·.2.2) = vs := by
    have go : ∀ {xs : List (NestedKey × Addr × Value)} {vs : List V}, Vals vs (xs.map (·.2.2)) → ∃ l : List (NestedKey × Addr × V), Paired KRel l xs ∧ l.map (·.1) = xs.map (·.1) ∧ l.map (fun x => V.ref x.2.1) = xs.map (fun x => V.ref x.2.1) ∧ l.map (·.2.2) = vs := by
      intro xs
      induction xs with
      | nil =>
        intro vs h
        cases h
        exact ⟨[], .nil, rfl, rfl, rfl⟩
      | cons x xs ih =>
        intro vs h
        rw [List.map_cons] at h
        cases h with
        | cons h1 h2 =>
          obtain ⟨l, p, e1, e2, e3⟩ := ih h2
          exact ⟨(x.1, x.2.1, _) :: l, .cons ⟨rfl, rfl, h1⟩ p, by rw [List.map_cons, List.map_cons, e1], by rw [List.map_cons, List.map_cons, e2], by rw [List.map_cons, e3]⟩
    obtain ⟨l, p, e1, e2, e3⟩ := go x3
    exact ⟨l, p, e1.trans x1, e2.trans x2, e3⟩
  obtain ⟨l, p, l1, l2, l3⟩ := hkv
  have ll : l.length = xs.length := p.length
  have len : xs.length = kvs.length := by
    have := congrArg List.length x1
    rw [toKeys_map', List.length_map, List.length_map, List.length_map] at this
    exact this
  have hL := sizeLine_eq
  refine wpAny_setItem_heap (knd := nestedKind X.prog X.w) (hsz := x4) (by show X.A.units + 1 + 8 < cLine; omega) (tup_is I k1 rk) dd fun h' dd' hs => ?_
  obtain ⟨o, es, ep, g1, g2, g3, g4, g5, g6⟩ := dd'
  have tkl : ∀ x ∈ l, tupK x.1 = true := fun x hx => by
    have : x.1 ∈ l.map (·.1) := List.mem_map_of_mem hx
    rw [l1, toKeys_map', List.map_map] at this
    obtain ⟨pp, hp, e⟩ := List.mem_map.mp this
    rw [← e]
    exact (tupKD_ok (List.all_eq_true.mp k2 pp hp)).2.2.2
  have tkp : ∀ x ∈ lPut l (toKey k) b v, tupK x.1 = true := fun x hx => by
    unfold lPut at hx
    split at hx
    · obtain ⟨x0, h0, rfl⟩ := List.mem_map.mp hx
      split
      · exact tkl x0 h0
      · exact tkl x0 h0
    · rcases List.mem_append.mp hx with z | z
      · exact tkl x z
      · rw [List.mem_singleton.mp z]
        exact tk
  have pr := krel_put (k := toKey k) (b := b) rv p
  have ok : DRaw a (lPut l (toKey k) b v) h' := by
    refine ⟨?_, x5, o, es, ep, _, g1, g2, g3, fun P' w' => ?_, pr, g6, tkp⟩
    · have := lPut_le l (toKey k) b v
      unfold LINE at hl
      omega
    · rw [g4]
      refine List.map_congr_left fun x hx => entry_num ?_
      obtain ⟨kk, _, _⟩ := krel_keys pr
      have : x.1 ∈ (lPut l (toKey k) b v).map (·.1) := by
        rw [kk]
        exact List.mem_map_of_mem hx
      obtain ⟨x0, h0, e⟩ := List.mem_map.mp this
      rw [← e]
      exact (tupK_num (tkp x0 h0)).1
  refine q l b _ rfl l1 l2 l3 (d_write I ?_ hs ⟨o, g1⟩ ⟨ok, ⟨o, g1⟩, fun h1 h2 z hk => ?_⟩)
  · rcases h with ⟨_, e, _⟩ | ⟨_, e, _⟩
    · rw [e]
      exact True.intro
    · rw [e]
      exact True.intro
  · obtain ⟨z1, z2, o', es', ep', xs', z3, z4⟩ := z
    exact ⟨z1, z2, o', es', ep', xs', hk _ z3, z4⟩
end
end DT

/-! A dict's keys, as they stand in the machine's heap. -/
namespace DT
open PySem L2 PyProof.Rows
theorem vals_of_get : ∀ {vs : List V} {us : List Value}, vs.length = us.length → (∀ (i : Nat) v u, vs[i]? = some v → us[i]? = some u → RelV v u) → Vals vs us
  | [], [], _, _ => .nil
  | [], _ :: _, e, _ => by cases e
  | _ :: _, [], e, _ => by cases e
  | v :: vs, u :: us, e, h => .cons (h 0 v u rfl rfl) (vals_of_get (by simpa using e) fun i v' u' h1 h2 => h (i + 1) v' u' (by simpa using h1) (by simpa using h2))
theorem paired_get {α β : Type} {R : α → β → Prop} : ∀ {l : List α} {r : List β}, Paired R l r → ∀ {i : Nat} {a : α}, l[i]? = some a → ∃ b, r[i]? = some b ∧ R a b
  | _, _, .nil, i, a, h => by simp at h
  | _, _, .cons h t, 0, a, e => by
    obtain rfl := Option.some.inj e
    exact ⟨_, rfl, h⟩
  | _, _, .cons h t, i + 1, a, e => by
    obtain ⟨b, e1, e2⟩ := paired_get t (i := i) (by simpa using e)
    exact ⟨b, by simpa using e1, e2⟩
section
variable {X : Cx} {pins : List (Addr × Obj)} {s : Shared} {N N' : Ms} {H : Hp} {τ : L2.St} {a : Addr} {kvs : List (D × D)} {ks vs : List V}
/-- a dict's entries -/
theorem dict_es (I : Inv X pins τ H s) {nk : List NestedKey} (h : DAt H a nk ks vs) : ∃ (es : Array DictEntry) (ep : Nat), s.heap.DictRaw a es ep ∧ (a == sysModules) = false ∧ es.size ≤ sizeLine ∧ es.size = ks.length ∧ es.size = vs.length ∧
    (∀ (i : Nat) (hi : i < es.size) v, ks[i]? = some v → RelV v es[i].key) ∧ ∀ (i : Nat) (hi : i < es.size) v, vs[i]? = some v → RelV v es[i].val := by
  rcases h with ⟨l, e, e1, e2, e3⟩ | ⟨l, e, e1, e2, e3⟩
  · obtain ⟨z, hd, ws, rel, dd⟩ := I.hok a _ e
    obtain ⟨es, ep, hr, hs, hk⟩ := dd.raw
    have hl : l.length = ws.length := rel.length
    have z' : l.length ≤ sizeLine := z
    have get : ∀ i (hi : i < es.size), ∃ p q, l[i]? = some p ∧ ws[i]? = some q ∧ p.1 = q.1 ∧ RelV p.2 q.2 ∧ keyIs q.1 es[i].key = true ∧ es[i].val = q.2 := fun i hi => by
      have hi2 : i < ws.length := by omega
      have hi1 : i < l.length := by omega
      obtain ⟨q, e5, r1⟩ := paired_get rel (List.getElem?_eq_getElem hi1)
      have := hk i hi q.1 q.2 e5
      exact ⟨l[i], q, List.getElem?_eq_getElem hi1, e5, r1.1, r1.2, this⟩
    refine ⟨es, ep, hr, hd, by omega, ?_, ?_, fun i hi v hv => ?_, fun i hi v hv => ?_⟩
    · rw [← e2, List.length_map]; omega
    · rw [← e3, List.length_map]; omega
    · obtain ⟨p, q, g1, g2, g3, g4, g5, g6⟩ := get i hi
      rw [← e2, List.getElem?_map, g1] at hv
      obtain rfl := Option.some.inj hv
      rw [← g3] at g5
      exact relV_key g5
    · obtain ⟨p, q, g1, g2, g3, g4, g5, g6⟩ := get i hi
      rw [← e3, List.getElem?_map, g1] at hv
      obtain rfl := Option.some.inj hv
      rw [g6]
      exact g4
  · obtain ⟨⟨hl, hs, o, es, ep, xs, h1, h2, h3, h4, rl, nd, tk⟩, _⟩ := I.hok a _ e
    have hl2 : l.length = xs.length := rl.length
    have h4' := h4 X.prog X.w
    have hes := size_of_entries h4'
    have get : ∀ i (hi : i < es.size), ∃ p q, l[i]? = some p ∧ KRel p q ∧ es[i].key = .ref q.2.1 ∧ es[i].val = q.2.2 := fun i hi => by
      have hi2 : i < xs.length := by omega
      have hi1 : i < l.length := by omega
      obtain ⟨q, e5, r1⟩ := paired_get rl (List.getElem?_eq_getElem hi1)
      have z := entry_at h4' i
      rw [Array.getElem?_eq_getElem hi, e5, Option.map_some] at z
      have z' := Option.some.inj z
      exact ⟨l[i], q, List.getElem?_eq_getElem hi1, r1, by rw [z']; rfl, by rw [z']; rfl⟩
    refine ⟨es, ep, ⟨o, h1, h2, h3⟩, hs, by omega, ?_, ?_, fun i hi v hv => ?_, fun i hi v hv => ?_⟩
    · rw [← e2, List.length_map]; omega
    · rw [← e3, List.length_map]; omega
    · obtain ⟨p, q, g1, g3, g5, g6⟩ := get i hi
      rw [← e2, List.getElem?_map, g1] at hv
      obtain rfl := Option.some.inj hv
      rw [g5]
      show Value.ref q.2.1 = Value.ref p.2.1
      rw [g3.2.1]
    · obtain ⟨p, q, g1, g3, g5, g6⟩ := get i hi
      rw [← e3, List.getElem?_map, g1] at hv
      obtain rfl := Option.some.inj hv
      rw [g6]
      exact g3.2.2
theorem RepK.keys : ∀ {kvs : List (D × D)} {ks vs : List V}, RepK N H kvs ks vs → RepL N H (kvs.map (·.1)) ks ∧ RepL N H (kvs.map (·.2)) vs
  | [], _, _, h => by
    rw [RepK] at h
    obtain ⟨rfl, rfl⟩ := h
    exact ⟨.nil, .nil⟩
  | (k, d) :: r, _, _, h => by
    rw [RepK] at h
    obtain ⟨u, t, v, q, rfl, rfl, h1, h2, h3⟩ := h
    obtain ⟨z1, z2⟩ := RepK.keys h3
    exact ⟨.cons h1 z1, .cons h2 z2⟩
theorem keys_vals {P : Nat → Value → Prop} {es : Array DictEntry} {acc : Array Value} (hP : ∀ i v, P i v → ∃ hi : i < es.size, v = es[i].key) (hl : es.size = ks.length) (hk : ∀ (i : Nat) (hi : i < es.size) v, ks[i]? = some v → RelV v es[i].key) (hi : ItemsOf P acc es.size) : Vals ks acc.toList := by
  refine vals_of_get (by have h0 := hi.1; have h1 : acc.toList.length = acc.size := Array.length_toList; omega) fun i v u h1 h2 => ?_
  rw [Array.getElem?_toList] at h2
  obtain ⟨hlt, e⟩ := hP i u (hi.2 i u h2)
  rw [e]
  exact hk i hlt v h1
end
end DT

namespace DT
open PySem L2 PyProof.Rows
section
variable {X : Cx} {pins : List (Addr × Obj)} {s : Shared} {N N' : Ms} {sa : Addr × Addr} {H : Hp} {σ : L2.St} {dx dy d : D} {x y : V} {v u : Value} {Q : VK}
theorem Top.notnon {z : V} (h : Top N H d z) (n : d ≠ .none) : z ≠ .non := by
  cases d with
  | none => exact absurd rfl n
  | bool b =>
    rw [h.bl]
    exact fun q => by cases q
  | int b =>
    rw [h.int]
    exact fun q => by cases q
  | str b =>
    rw [h.str]
    exact fun q => by cases q
  | list b =>
    obtain ⟨_, a, vs, rfl, _⟩ := h
    exact fun q => by cases q
  | tuple b =>
    obtain ⟨_, a, vs, rfl, _⟩ := h.tup
    exact fun q => by cases q
  | dict b =>
    obtain ⟨_, a, ks, vs, rfl, _⟩ := h
    exact fun q => by cases q
theorem isO_none {c : Bool} (e : isO dx .none = some c) (hx : Top N H dx x) : decide (x = V.non) = c := by
  cases dx with
  | none =>
    obtain rfl := Option.some.inj (show some true = some c from e)
    rw [hx.non]
    rfl
  | bool b =>
    obtain rfl := Option.some.inj (show some false = some c from e)
    exact decide_eq_false (hx.notnon fun z => by cases z)
  | int b =>
    obtain rfl := Option.some.inj (show some false = some c from e)
    exact decide_eq_false (hx.notnon fun z => by cases z)
  | str b =>
    obtain rfl := Option.some.inj (show some false = some c from e)
    exact decide_eq_false (hx.notnon fun z => by cases z)
  | list b =>
    obtain rfl := Option.some.inj (show some false = some c from e)
    exact decide_eq_false (hx.notnon fun z => by cases z)
  | tuple b =>
    obtain rfl := Option.some.inj (show some false = some c from e)
    exact decide_eq_false (hx.notnon fun z => by cases z)
  | dict b =>
    obtain rfl := Option.some.inj (show some false = some c from e)
    exact decide_eq_false (hx.notnon fun z => by cases z)
theorem is_val {c : Bool} (I : Inv X pins σ H s) (rx : RelV x v) (ry : RelV y u) (hx : Top N H dx x) (hy : Top N' H dy y) (e : isO dx dy = some c) :
    (Q (.bl c) H → wpAny (model X.prog X.w) X.A (compareOp .Is v u) (EP X pins σ Q) X.xe s) ∧ (Q (.bl !c) H → wpAny (model X.prog X.w) X.A (compareOp .IsNot v u) (EP X pins σ Q) X.xe s) := by
  cases dy with
  | none =>
    obtain rfl := hy.non
    have k := isO_none e hx
    refine ⟨fun q => op_isN pins s σ H x _ v u Q I rx ry ⟨rfl, ?_⟩, fun q => op_notN pins s σ H x _ v u Q I rx ry ⟨rfl, ?_⟩⟩
    · rw [k]
      exact q
    · rw [k]
      exact q
  | bool b =>
    cases dx with
    | bool a =>
      have e' : decide (a = b) = c := Option.some.inj e
      obtain rfl := hx.bl
      obtain rfl := hy.bl
      refine ⟨fun q => op_isBl pins s σ H _ _ v u Q I rx ry ⟨a, b, rfl, rfl, ?_⟩, fun q => op_notBl pins s σ H _ _ v u Q I rx ry ⟨a, b, rfl, rfl, ?_⟩⟩
      · rw [e']
        exact q
      · rw [e']
        exact q
    | _ => cases e
  | _ => cases dx <;> cases e
theorem eq_val {c : Bool} (hu : X.A.units + 65 < cLine) (I : Inv X pins σ H s) (rx : RelV x v) (ry : RelV y u) (hx : Top N H dx x) (hy : Top N' H dy y) (e : eqO dx dy = some c) :
    (Q (.bl c) H → wpAny (model X.prog X.w) X.A (compareOp .Eq v u) (EP X pins σ Q) X.xe s) ∧ (Q (.bl !c) H → wpAny (model X.prog X.w) X.A (compareOp .NotEq v u) (EP X pins σ Q) X.xe s) := by
  unfold eqO at e
  split at e
  · obtain rfl := Option.some.inj e
    obtain rfl := hx.str
    obtain rfl := hy.str
    refine ⟨fun q => op_eq pins s σ H _ _ v u Q I rx ry ⟨rfl, ?_⟩, fun q => op_ne pins s σ H _ _ v u Q I rx ry ⟨rfl, ?_⟩⟩
    · simpa using q
    · simpa using q
  obtain ⟨c1, rfl⟩ := if_some e
  obtain ⟨s1, s2⟩ := Bool.and_eq_true_iff.mp c1
  have d1 := hx.dp (K := X.K) (SeqAt.canLay_of_shaped s1)
  have d2 := hy.dp (K := X.K) (SeqAt.canLay_of_shaped s2)
  exact ⟨fun q => op_eqD (by omega) pins s σ H x y v u Q I rx ry ⟨dx, dy, d1, d2, s1, s2, q⟩, fun q => op_neD (by omega) pins s σ H x y v u Q I rx ry ⟨dx, dy, d1, d2, s1, s2, q⟩⟩
theorem mem_val {c : Bool} (hu : X.A.units + 65 < cLine) (I : Inv X pins σ H s) (rx : RelV x v) (ry : RelV y u) (hx : Top N H dx x) (hy : Top N' H dy y) (e : memO dx dy = some c) :
    (Q (.bl c) H → wpAny (model X.prog X.w) X.A (compareOp .In v u) (EP X pins σ Q) X.xe s) ∧ (Q (.bl !c) H → wpAny (model X.prog X.w) X.A (compareOp .NotIn v u) (EP X pins σ Q) X.xe s) := by
  unfold memO at e
  split at e
  · obtain ⟨c1, rfl⟩ := if_some e
    obtain ⟨s1, s2⟩ := Bool.and_eq_true_iff.mp c1
    have d1 := hx.dp (K := X.K) (SeqAt.canLay_of_shaped s1)
    have d2 := hy.dp (K := X.K) (SeqAt.canLay_of_shaped s2)
    exact ⟨fun q => op_inD hu pins s σ H x y v u Q I rx ry ⟨dx, _, d1, d2, s1, s2, q⟩, fun q => op_notInD hu pins s σ H x y v u Q I rx ry ⟨dx, _, d1, d2, s1, s2, q⟩⟩
  · obtain ⟨c1, rfl⟩ := if_some e
    obtain ⟨s1, s2⟩ := Bool.and_eq_true_iff.mp c1
    have d1 := hx.dp (K := X.K) (SeqAt.canLay_of_shaped s1)
    have d2 := hy.dp (K := X.K) (SeqAt.canLay_of_shaped s2)
    obtain ⟨as, r1⟩ := Dp.reads I _ x v d1 rx
    obtain ⟨bs, r2⟩ := Dp.reads I _ y u d2 ry
    have c2 := SeqAt.canLay_of_shaped s2
    have c2' := (show PyData.canLayAll0 _ = true by simpa only [PyData.canLay0] using c2)
    exact ⟨fun q => SeqAt.in_tuple_reads r2 r1 c2' (SeqAt.canLay_of_shaped s1) (room_in_shaped s1 hu) ⟨.bl _, H, I, rfl, q⟩, fun q => SeqAt.notIn_tuple_reads r2 r1 c2' (SeqAt.canLay_of_shaped s1) (room_in_shaped s1 hu) ⟨.bl _, H, I, rfl, q⟩⟩
  · obtain ⟨c1, rfl⟩ := if_some e
    obtain ⟨_, a, ks, vs, rfl, hA, rK⟩ := hy
    cases ry
    have rk : Rep N H dx x := by
      rcases dOk_two c1 with ⟨k1, _⟩ | ⟨k1, _⟩
      · obtain ⟨⟨ds, rfl⟩, _⟩ := tupKD_ok k1
        exact hx
      · cases dx with
        | int i => exact hx
        | _ => cases k1
    exact ⟨fun q => dict_in hu I hA rK c1 rk rx fun s' I' => ⟨.bl _, H, I', rfl, q⟩, fun q => dict_notIn hu I hA rK c1 rk rx fun s' I' => ⟨.bl _, H, I', rfl, q⟩⟩
  · cases e
theorem lt_val {c : Bool} (hu : X.A.units + 65 < cLine) (I : Inv X pins σ H s) (rx : RelV x v) (ry : RelV y u) (hx : Top N H dx x) (hy : Top N' H dy y) (e : ltO dx dy = some c) (q : Q (.bl c) H) : wpAny (model X.prog X.w) X.A (compareOp .Lt v u) (EP X pins σ Q) X.xe s := by
  unfold ltO at e
  split at e
  · obtain rfl := hx.int
    obtain rfl := hy.int
    obtain rfl := Option.some.inj e
    exact op_lt pins s σ H _ _ v u Q I rx ry ⟨_, _, rfl, rfl, q⟩
  · rename_i xs ys
    obtain ⟨_, a, vs, rfl, _, h1, r1⟩ := hx.tup
    obtain ⟨_, b, ws, rfl, _, h2, r2⟩ := hy.tup
    cases e1 : intsOf xs with
    | none =>
      rw [e1] at e
      cases e
    | some ns =>
      cases e2 : intsOf ys with
      | none =>
        rw [e1, e2] at e
        cases e
      | some ms =>
        rw [e1, e2] at e
        obtain rfl := Option.some.inj e
        obtain ⟨rfl, _⟩ := r1.ints e1
        obtain ⟨rfl, _⟩ := r2.ints e2
        exact op_ltT (by omega) pins s σ H _ _ v u Q I rx ry ⟨a, b, ns, ms, rfl, rfl, h1.sq, h2.sq, q⟩
  · cases e
theorem cmp_val {o : COp} {c : Bool} (hu : X.A.units + 65 < cLine) (I : Inv X pins σ H s) (rx : RelV x v) (ry : RelV y u) (hx : Top N H dx x) (hy : Top N' H dy y) (e : cmpO o dx dy = some c) (q : Q (.bl c) H) : wpAny (model X.prog X.w) X.A (compareOp (cop o) v u) (EP X pins σ Q) X.xe s := by
  unfold cmpO at e
  split at e
  · exact (eq_val hu I rx ry hx hy e).1 q
  · obtain ⟨b, e1, rfl⟩ := Option.map_eq_some_iff.mp e
    exact (eq_val hu I rx ry hx hy e1).2 q
  · exact lt_val hu I rx ry hx hy e q
  · obtain rfl := hx.int
    obtain rfl := hy.int
    obtain rfl := Option.some.inj e
    exact op_gt pins s σ H _ _ v u Q I rx ry ⟨_, _, rfl, rfl, q⟩
  · obtain rfl := hx.int
    obtain rfl := hy.int
    obtain rfl := Option.some.inj e
    exact op_le pins s σ H _ _ v u Q I rx ry ⟨_, _, rfl, rfl, q⟩
  · obtain rfl := hx.int
    obtain rfl := hy.int
    obtain rfl := Option.some.inj e
    exact op_ge pins s σ H _ _ v u Q I rx ry ⟨_, _, rfl, rfl, q⟩
  · exact (is_val I rx ry hx hy e).1 q
  · obtain ⟨b, e1, rfl⟩ := Option.map_eq_some_iff.mp e
    exact (is_val I rx ry hx hy e1).2 q
  · exact (mem_val hu I rx ry hx hy e).1 q
  · obtain ⟨b, e1, rfl⟩ := Option.map_eq_some_iff.mp e
    exact (mem_val hu I rx ry hx hy e1).2 q
  · cases e
end
end DT

namespace DT
open PySem L2 PyProof.Rows
section
variable {X : Cx} {pins : List (Addr × Obj)} {s : Shared} {M0 N N' : Ms} {sa : Addr × Addr} {H H1 H' : Hp} {σ τ : L2.St} {ρ : Rho} {g : PState} {xe xa xb : Ex} {dx dy d : D} {x y : V} {v u : Value} {Q : VK} {is : List Nat}
/-! ### items -/
theorem owned_of (n : ¬ less N ρ σ is a) (h : N a) : ∃ i, i ∈ is ∧ Own ρ σ i a := Classical.byContradiction fun z => n ⟨h, z⟩
theorem Rep.addr {a : Addr} (h : Rep N H d v') (m : isMut d = true) (e : v' = V.ref a) : ¬ N a := by
  subst e
  cases d with
  | list ds =>
    rw [Rep] at h
    obtain ⟨_, b, _, e, n, _⟩ := h
    cases e
    exact n
  | dict ds =>
    rw [Rep] at h
    obtain ⟨_, b, _, _, e, n, _⟩ := h
    cases e
    exact n
  | _ => cases m
theorem Vo.item (S : StOk M0 sa N H1 σ ρ g) (h : Rep (less N ρ σ is) H' d x) (h1 : ∀ i, i ∈ is → i ∈ esi xe) (h2 : ∀ i, i ∈ is → i ∈ ael xe) : Vo sa N ρ σ xe H' d x :=
  ⟨(h.anti fun _ z => less_mono h1 z).top, fun m a e n => by
      obtain ⟨i, hi, o⟩ := owned_of (h.addr m e) n
      exact ⟨i, h2 i hi, o⟩, fun m a e z => h.addr m e (S.lessSub (S.srcIn a z))⟩
theorem Res.same (S : StOk M0 sa N H σ ρ g) (h : Vo sa N ρ σ xe H d x) (f : fresh xe = false) : Res sa N ρ σ xe H g d x H :=
  ⟨.refl, S.src, h, fun z => (by rw [f] at z; cases z)⟩
theorem ixN_len {n : Nat} {i : Int} : ixN n i = ixN n i := rfl
theorem RepL.at {ds : List D} {vs : List V} {i : Int} (r : RepL N H ds vs) (e : atI ds i = some d) : ∃ w, atI vs i = some w ∧ Rep N H d w := by
  unfold atI at e ⊢
  rw [r.length]
  cases h : ixN ds.length i with
  | none =>
    rw [h] at e
    cases e
  | some j =>
    rw [h] at e
    obtain ⟨w, h1, h2⟩ := r.get (show ds[j]? = some d from e)
    exact ⟨w, h1, h2⟩
theorem ifN_some' {α : Type} {b : Bool} {x : Option α} {y : α} (h : (if b = true then x else none) = some y) : b = true ∧ x = some y := by
  cases b with
  | false => cases h
  | true => exact ⟨rfl, h⟩
theorem ix_val {value slice : Expr} (hu : X.A.units + 65 < cLine) (I : Inv X pins τ H s) (rx : RelV x v) (ry : RelV y u) (S : StOk M0 sa N H σ ρ g) (hx : Vo sa N ρ σ xa H dx x) (hy : Vo sa N ρ σ xb H dy y) (e : ixO dx dy = some d)
    (hs : subscripted slice false v u = operate [v, u] (getItem v u)) (q : ∀ w H', Res sa N ρ σ (.ix xa xb) H g d w H' → Q w H') : wpAny (model X.prog X.w) X.A (subscriptTail value slice v u) (EP X pins τ Q) X.xe s := by
  unfold ixO at e
  split at e
  · obtain rfl := hy.top.int
    obtain ⟨_, a, vs, rfl, h1, r1⟩ := hx.top
    obtain ⟨w, h2, h3⟩ := r1.at e
    exact ix_list value slice pins s τ H _ _ v u Q I rx ry ⟨a, vs, _, w, rfl, rfl, .of h1, h2, q w H (.same S (.item S h3 (fun _ z => z) fun _ z => z) rfl)⟩ hs
  · obtain rfl := hy.top.int
    obtain ⟨_, a, vs, rfl, _, h1, r1⟩ := hx.top.tup
    obtain ⟨w, h2, h3⟩ := r1.at e
    exact ix_tup value slice pins s τ H _ _ v u Q I rx ry ⟨a, vs, _, w, rfl, rfl, h1.sq, h2, q w H (.same S (.item S h3 (fun _ z => z) fun _ z => z) rfl)⟩ hs
  · obtain ⟨c, e'⟩ := ifN_some' e
    obtain ⟨_, a, ks, vs, rfl, hA, rK⟩ := hx.top
    cases rx
    exact PyProof.Rows.tail_any (dict_type I hA) PySem.F.slot_dict_getitem.lookup (dict_get hu I hA rK c e' hy.rep ry fun w v' s' I' rv rd => ⟨w, H, I', rv, q w H (.same S (.item S rd (fun _ z => z) fun _ z => z) rfl)⟩) hs
  · cases e

/-! ### slices -/
theorem RepL.cut {ds : List D} {vs : List V} (lo hi : Option Int) (r : RepL N H ds vs) : RepL N H (cutL ds lo hi) (cutV vs lo hi) := by
  unfold cutL cutV
  rw [r.length]
  exact (r.drop _).take _
theorem cutL_len {α : Type} (xs : List α) (lo hi : Option Int) : (cutL xs lo hi).length ≤ xs.length := by
  unfold cutL
  rw [List.length_take, List.length_drop]
  omega
theorem cutL_all {α : Type} {xs : List α} {lo hi : Option Int} (h : HT.sIx xs.length 0 lo = 0 ∧ HT.sIx xs.length xs.length hi = xs.length) : cutL xs lo hi = xs := by
  unfold cutL
  rw [h.1, h.2, List.drop_zero, Nat.sub_zero]
  exact List.take_of_length_le (Nat.le_refl _)
/-- a slice's reading, by values -/
theorem sl_val {vl vu : Value} {lo hi : Option Int} {sl : Addr} {xl xh : Ex} (I : Inv X pins τ H s) (rx : RelV x v) (S : StOk M0 sa N H σ ρ g) (hx : Vo sa N ρ σ xa H dx x) (hs : s.heap.IsSliceOf sl vl vu .none) (pl : IsPart vl lo) (pu : IsPart vu hi)
    (e : slO dx lo hi = some d) (q : ∀ w H', Res sa N ρ σ (.sl xa xl xh) H g d w H' → Q w H') :
    ∃ T id, typeLookup (.type T) "__getitem__" = pure (some (.builtin id)) ∧ s.TypeIs v T ∧ wpAny (model X.prog X.w) X.A (getItem v (.ref sl)) (EP X pins τ Q) X.xe s := by
  unfold slO at e
  split at e
  · obtain rfl := Option.some.inj e
    obtain ⟨l, a, vs, rfl, h1, r1⟩ := hx.top
    exact sl_list pins s τ H _ v vl vu lo hi sl Q I rx hs pl pu ⟨a, vs, rfl, .of h1, fun p hp => q _ _ (.lst S hp (r1.cut lo hi) (Nat.le_trans (cutL_len _ _ _) l))⟩
  · obtain rfl := Option.some.inj e
    obtain ⟨l, a, vs, rfl, n, h1, r1⟩ := hx.top.tup
    cases rx
    obtain ⟨its, rv, ht, hz⟩ := I.tuple (h1.sq (K := X.K))
    have hlen : its.toArray.size = vs.length := by rw [List.size_toArray]; exact rv.length.symm
    refine ⟨"tuple", _, PyProof.Rows.slot_tuple_getitem.lookup, ht.typeIs, ?_⟩
    by_cases z : HT.sIx vs.length 0 lo = 0 ∧ HT.sIx vs.length vs.length hi = vs.length
    · have z' := z
      rw [r1.length] at z'
      rw [cutL_all z'] at q
      refine L2.getItem_tuple_whole ht hs pl pu (by rw [hlen]; exact z) ⟨.ref a, H, I, rfl, q _ H (.atom S rfl ?_)⟩
      rw [Rep]
      exact ⟨l, a, vs, rfl, n, h1, r1⟩
    · refine HT.getItem_tuple_cut ht hs pl pu (by rw [hlen]; exact z) ?_ (by rw [hlen]; exact hz)
      rw [hlen]
      exact ⟨.ref s.heap.objs.size, _, I.laid (t' := s.toks) (o := tupO (tupN _) (cutV vs lo hi)) (fun b ob q => Heap.get?_push_of_some _ q) (Nat.le_refl _) (objOk_tup (Nat.le_trans (cutV_length vs lo hi) hz) ((rv.drop (HT.sIx vs.length 0 lo)).take (HT.sIx vs.length vs.length hi - HT.sIx vs.length 0 lo)) (Heap.get?_push_size _ rfl)), rfl,
        q _ _ (.tup rfl S (I.hok.fresh (Nat.le_refl _)) (r1.cut lo hi) (Nat.le_trans (cutL_len _ _ _) l))⟩
  · cases e

/-! ### built-in functions -/
def VoL (sa : Addr × Addr) (N : Ms) (ρ : Rho) (σ : L2.St) (H : Hp) : Exs → List D → List V → Prop
  | .nil, ds, vs => ds = [] ∧ vs = []
  | .cons e r, ds, vs => ∃ d t v w, ds = d :: t ∧ vs = v :: w ∧ Vo sa N ρ σ e H d v ∧ VoL sa N ρ σ H r t w
theorem VoL.length : ∀ {es : Exs} {ds : List D} {vs : List V}, VoL sa N ρ σ H es ds vs → vs.length = ds.length
  | .nil, _, _, h => by
    obtain ⟨rfl, rfl⟩ := h
    rfl
  | .cons _ _, _, _, h => by
    obtain ⟨d, t, v, w, rfl, rfl, _, h⟩ := h
    rw [List.length_cons, List.length_cons, VoL.length h]
theorem VoL.one {es : Exs} {d : D} {vs : List V} (h : VoL sa N ρ σ H es [d] vs) : ∃ e v, es = .cons e .nil ∧ vs = [v] ∧ Vo sa N ρ σ e H d v := by
  cases es with
  | nil => cases h.1
  | cons e r =>
    obtain ⟨d', t, v, w, e1, rfl, o, h2⟩ := h
    cases e1
    cases r with
    | nil =>
      obtain ⟨_, rfl⟩ := h2
      exact ⟨e, v, rfl, rfl, o⟩
    | cons e' r' =>
      obtain ⟨_, _, _, _, z, _⟩ := h2
      cases z
theorem VoL.two {es : Exs} {d d' : D} {vs : List V} (h : VoL sa N ρ σ H es [d, d'] vs) : ∃ e e' v v', es = .cons e (.cons e' .nil) ∧ vs = [v, v'] ∧ Vo sa N ρ σ e H d v ∧ Vo sa N ρ σ e' H d' v' := by
  cases es with
  | nil => cases h.1
  | cons e r =>
    obtain ⟨d', t, v, w, e1, rfl, o, h2⟩ := h
    cases e1
    obtain ⟨e', v', rfl, rfl, o'⟩ := h2.one
    exact ⟨e, e', v, v', rfl, rfl, o, o'⟩
theorem VoL.reps : ∀ {es : Exs} {ds : List D} {vs : List V}, VoL sa N ρ σ H es ds vs → RepL (less N ρ σ (escs es)) H ds vs
  | .nil, _, _, h => by
    obtain ⟨rfl, rfl⟩ := h
    exact .nil
  | .cons e r, _, _, h => by
    obtain ⟨d, t, v, w, rfl, rfl, o, h⟩ := h
    exact .cons (o.rep.anti fun _ z => less_mono (fun i hi => List.mem_append_left _ hi) z) ((VoL.reps h).anti fun _ z => less_mono (fun i hi => List.mem_append_right _ hi) z)
theorem VoL.keep (S : StOk M0 sa N H1 σ ρ g) (k : Keep (isS sa) H H') : ∀ {es : Exs} {ds : List D} {vs : List V}, VoL sa N ρ σ H es ds vs → VoL sa N ρ σ H' es ds vs
  | .nil, _, _, h => h
  | .cons _ _, _, _, h => by
    obtain ⟨d, t, v, w, e1, e2, o, h⟩ := h
    exact ⟨d, t, v, w, e1, e2, S.vo o k, VoL.keep S k h⟩
/-- a list or a tuple that is read -/
theorem seq_val {xs : List D} (h : Top N H d v') (e : seqO d = some xs) : xs.length ≤ LINE ∧ ∃ a vs, v' = .ref a ∧ RepL N H xs vs ∧ (H a = some (.lst vs) ∨ (TupAt H a vs ∧ ¬ N a ∧ d = .tuple xs)) := by
  cases d with
  | list ds =>
    obtain rfl := Option.some.inj e
    obtain ⟨l, a, vs, rfl, h1, r⟩ := h
    exact ⟨l, a, vs, rfl, r, .inl h1⟩
  | tuple ds =>
    obtain rfl := Option.some.inj e
    obtain ⟨l, a, vs, rfl, n, h1, r⟩ := h.tup
    exact ⟨l, a, vs, rfl, r, .inr ⟨h1, n, rfl⟩⟩
  | _ => cases e
theorem seq_read {K : PySem.W.Frag} {a : Addr} {vs : List V} {p : Prop} (h : H a = some (.lst vs) ∨ (TupAt H a vs ∧ p)) : SqL K H a vs ∨ SqT K H a vs := h.elim (fun z => .inl (.of z)) fun z => .inr z.1.sq
theorem maxI_le : ∀ {ns : List Int} {n y : Int}, y ∈ n :: ns → y ≤ maxI (n :: ns)
  | [], n, y, h => by
    have e : y = n := by simpa using h
    subst e
    exact Int.le_refl _
  | m :: ms, n, y, h => by
    show y ≤ max n (maxI (m :: ms))
    rcases List.mem_cons.mp h with e | h
    · subst e
      exact Int.le_max_left _ _
    · exact Int.le_trans (maxI_le h) (Int.le_max_right _ _)
theorem maxI_mem : ∀ {ns : List Int} {n : Int}, maxI (n :: ns) ∈ n :: ns
  | [], n => List.mem_cons_self
  | m :: ms, n => by
    show max n (maxI (m :: ms)) ∈ _
    by_cases h : n ≤ maxI (m :: ms)
    · rw [Int.max_eq_right h]
      exact List.mem_cons_of_mem _ maxI_mem
    · rw [Int.max_eq_left (by omega)]
      exact List.mem_cons_self
theorem minI_le : ∀ {ns : List Int} {n y : Int}, y ∈ n :: ns → minI (n :: ns) ≤ y
  | [], n, y, h => by
    have e : y = n := by simpa using h
    subst e
    exact Int.le_refl _
  | m :: ms, n, y, h => by
    show min n (minI (m :: ms)) ≤ y
    rcases List.mem_cons.mp h with e | h
    · subst e
      exact Int.min_le_left _ _
    · exact Int.le_trans (Int.min_le_right _ _) (minI_le h)
theorem minI_mem : ∀ {ns : List Int} {n : Int}, minI (n :: ns) ∈ n :: ns
  | [], n => List.mem_cons_self
  | m :: ms, n => by
    show min n (minI (m :: ms)) ∈ _
    by_cases h : minI (m :: ms) ≤ n
    · rw [Int.min_eq_right h]
      exact List.mem_cons_of_mem _ minI_mem
    · rw [Int.min_eq_left (by omega)]
      exact List.mem_cons_self
end
end DT

namespace DT
open PySem L2 PyProof.Rows

/-! ### what a value reads as, in the machine's heap -/
mutual
theorem Reads.below {h : Heap} : ∀ {v : Value} {d : D} {as : List Addr}, Reads h v d as → ∀ a, a ∈ as → a < h.objs.size
  | _, _, _, .none, a, m => by cases m
  | _, _, _, .bool _, a, m => by cases m
  | _, _, _, .int _ _, a, m => by cases m
  | _, _, _, .str _ _, a, m => by cases m
  | _, _, _, .list e _ _ r, a, m => by
    rcases List.mem_cons.mp m with z | m
    · rw [z]
      exact Heap.lt_size e
    · exact ReadsAll.below r a m
  | _, _, _, .tuple e _ _ r, a, m => ReadsAll.below r a m
  | _, _, _, .dict e _ _ r r', a, m => by
    rcases List.mem_append.mp m with m | m
    · rcases List.mem_cons.mp m with z | m
      · rw [z]
        exact Heap.lt_size e
      · exact ReadsAll.below r a m
    · exact ReadsAll.below r' a m
theorem ReadsAll.below {h : Heap} : ∀ {vs : List Value} {ds : List D} {as : List Addr}, ReadsAll h vs ds as → ∀ a, a ∈ as → a < h.objs.size
  | _, _, _, .nil, a, m => by cases m
  | _, _, _, .cons r t, a, m => by
    rcases List.mem_append.mp m with m | m
    · exact Reads.below r a m
    · exact ReadsAll.below t a m
end
section
variable {X : Cx} {pins : List (Addr × Obj)} {s : Shared} {M0 N N' : Ms} {sa : Addr × Addr} {H H1 H' : Hp} {σ τ : L2.St} {ρ : Rho} {g : PState} {xe xa xb : Ex} {es : Exs} {dx dy d : D} {ds : List D} {vs : List V} {us : List Value} {x y : V} {v u : Value} {Q : VK} {is : List Nat}
/-! ### sorted -/
theorem pairs_each (rv : Vals vs us) : ∀ {ds : List D}, ds.length = vs.length → PySem.W.EachIs (fun (u : Value) (p : D × V) => RelV p.2 u) us (ds.zip vs) := by
  induction rv with
  | nil => intro ds _; cases ds <;> exact .nil
  | cons r _ ih =>
    intro ds e
    cases ds with
    | nil => cases e
    | cons d t => exact .cons r (ih (by simpa using e))
theorem pairs_reads (I : Inv X pins τ H s) (rv : Vals vs us) : ∀ {ds : List D}, PyData.canLayAll0 ds = true → RepL N H ds vs → PySem.W.EachIs (fun (u : Value) (p : D × V) => ∃ as, Reads s.heap u p.1 as) us (ds.zip vs) := by
  induction rv with
  | nil => intro ds _ _; cases ds <;> exact .nil
  | cons r _ ih =>
    intro ds c e
    cases ds with
    | nil =>
      rw [RepL] at e
      cases e
    | cons d t =>
      rw [RepL] at e
      obtain ⟨_, _, e1, h1, h2⟩ := e
      cases e1
      have c' : d.canLay0 = true ∧ PyData.canLayAll0 t = true := by simpa only [PyData.canLayAll0, Bool.and_eq_true] using c
      exact .cons (Dp.reads I d _ _ (h1.dp c'.1) r) (ih c'.2 h2)
theorem vals_each : ∀ {us : List Value} {ps : List (D × V)}, PySem.W.EachIs (fun (u : Value) (p : D × V) => RelV p.2 u) us ps → Vals (ps.map (·.2)) us
  | _, _, .nil => .nil
  | _, _, .cons r t => .cons r (vals_each t)
theorem repL_pairs : ∀ {ps : List (D × V)}, (∀ p, p ∈ ps → Rep N H p.1 p.2) → RepL N H (ps.map (·.1)) (ps.map (·.2))
  | [], _ => .nil
  | p :: r, h => .cons (h p List.mem_cons_self) (repL_pairs fun q hq => h q (List.mem_cons_of_mem _ hq))
theorem zip_rep : ∀ {ds : List D} {vs : List V}, RepL N H ds vs → ∀ p, p ∈ ds.zip vs → Rep N H p.1 p.2
  | [], _, _, p, m => by simp at m
  | d :: ds, _, h, p, m => by
    rw [RepL] at h
    obtain ⟨v, r, rfl, h1, h2⟩ := h
    rw [List.zip_cons_cons] at m
    rcases List.mem_cons.mp m with e | m
    · rw [e]
      exact h1
    · exact zip_rep h2 p m
theorem zip_fst : ∀ {ds : List D} {vs : List V}, ds.length = vs.length → (ds.zip vs).map (·.1) = ds
  | [], _, _ => by simp
  | d :: ds, [], e => by cases e
  | d :: ds, v :: vs, e => by
    rw [List.zip_cons_cons, List.map_cons, zip_fst (by simpa using e)]
theorem sort_fst (ps : List (D × V)) : (ps.mergeSort (PySem.W.dataLe false Prod.fst)).map (·.1) = (ps.map (·.1)).mergeSort (PySem.W.dataLe false id) :=
  List.map_mergeSort (fun _ _ _ _ => rfl)
theorem sortOk_all {xs : List D} (h : sortOk xs = true) : PySem.W.AllAlike xs ∧ PySem.W.Sortable xs ∧ PyData.canLayAll0 xs = true ∧ ∀ d, d ∈ xs → d.depth ≤ 64 := by
  unfold sortOk at h
  rw [Bool.and_eq_true, Bool.and_eq_true, Bool.and_eq_true] at h
  obtain ⟨⟨h1, h2⟩, h3, h4⟩ := h
  refine ⟨fun d hd e he => List.all_eq_true.mp (List.all_eq_true.mp h1 d hd) e he, ?_, h3, fun d hd => of_decide_eq_true (List.all_eq_true.mp h4 d hd)⟩
  rcases Bool.or_eq_true_iff.mp h2 with h2 | h2
  · refine .inl fun d hd => ?_
    have z := List.all_eq_true.mp h2 d hd
    split at z
    · exact ⟨_, _, rfl⟩
    · cases z
  · refine .inr fun d hd => ?_
    have z := List.all_eq_true.mp h2 d hd
    split at z
    · cases z
    · cases z
    · rename_i n1 n2
      exact ⟨n1, n2⟩
theorem seq_obj (I : Inv X pins τ H s) {a : Addr} {p : Prop} (h : H a = some (.lst vs) ∨ (TupAt H a vs ∧ p)) : vs.length ≤ sizeLine ∧ ∃ T o its n, (T = "list" ∨ T = "tuple") ∧ s.heap.get? a = some o ∧ o.cls = .type T ∧ o.data = .seq (List.toArray its) n ∧ Vals vs its := by
  rcases h with h | ⟨h, _⟩
  · obtain ⟨z, its, n, r, e⟩ := I.hok a _ h
    exact ⟨z, "list", _, its, n, .inl rfl, e, rfl, rfl, r⟩
  · obtain ⟨z, its, r, o, e, c, n, dd⟩ := h.rd.ok I.hok
    exact ⟨z, "tuple", o, its, n, .inr rfl, e, c, dd, r⟩
theorem sorted_val {lev : Nat} {xs ys : List D} (hr : Room lev X.A) (I : Inv X pins τ H s) (rx : RelV x v) (S : StOk M0 sa N H σ ρ g) (hx : Vo sa N ρ σ xe H dx x) (e : seqO dx = some xs) (e2 : sortO xs = some ys)
    (q : ∀ w H', Res sa N ρ σ (.blt .sorted (.cons xe .nil)) H g (.list ys) w H' → Q w H') : wpAny (model X.prog X.w) X.A (PySem.call (.builtin "sorted") [v]) (EP X pins τ Q) X.xe s := by
  obtain ⟨l, a, vs, rfl, r, hh⟩ := seq_val hx.top e
  cases rx
  obtain ⟨z, T, o, its, n, hT, ho, hc, hd, rv⟩ := seq_obj I hh
  obtain ⟨hok, rfl⟩ := if_some e2
  obtain ⟨hal, hso, hcl, hdp⟩ := sortOk_all hok
  have hun := hr.un
  have lenr := r.length
  have lenv := rv.length
  refine Calls.call_function_entry kind_sorted plain_sorted entry_sorted (args_sorted1 _) ?_
  unfold Builtin.«sorted»
  refine wpAny_bind (m := checkCount "sorted" 1 1 _) (wpAny_pure ?_)
  refine wpAny_bind (wpAny_collect_seq a hT ho hc hd (fun h1 k1 => ?_) (by rw [List.size_toArray]; omega))
  have I1 : Inv X pins τ H { s with heap := h1 } := I.kept (t' := s.toks) k1
  refine wpAny_bind (wpAny_newList ?_ (by simp; omega))
  have I2 : Inv X pins τ H { s with heap := h1.push { cls := .type "list", data := .seq its.toArray } } := I1.kept (t' := s.toks) fun b u e => Heap.get?_push_of_some _ e
  have ho2 : (h1.push { cls := .type "list", data := .seq its.toArray }).get? h1.objs.size = some (seqObj "list" its.toArray 0) := Heap.get?_push_size _ rfl
  have er := pairs_reads I1 rv hcl r
  have zf := zip_fst (vs := vs) (ds := xs) lenr.symm
  have er2 : PySem.W.EachIs (fun (u : Value) (p : D × V) => ∃ as, Reads (h1.push { cls := .type "list", data := .seq its.toArray }) u p.1 as ∧ h1.objs.size ∉ as) its (xs.zip vs) := er.mono fun u p ⟨as, h⟩ =>
    ⟨as, PyProof.Rows.Reads.keeps (fun b u e => Heap.get?_push_of_some _ e) h, fun m => absurd (Reads.below h _ m) (Nat.lt_irrefl _)⟩
  refine wpAny_bind (wpAny_holding (PySem.W.list_sort_data (enc := Prod.fst) (R := fun (u : Value) (p : D × V) => RelV p.2 u) (bs := xs.zip vs) (s := { s with heap := h1.push { cls := .type "list", data := .seq its.toArray } }) (n := 0) (a := h1.objs.size) ?_ (pairs_each rv lenr.symm) er2 ?_ ?_ ?_ ?_ fun out ol oe => ?_))
  · exact ho2
  · rw [zf]
    exact hal
  · rw [zf]
    exact hso
  · rw [List.length_zip]
    omega
  · intro b hb
    have hm : b.1 ∈ xs := by
      rw [← zf]
      exact List.mem_map_of_mem hb
    have := hdp b.1 hm
    show X.A.units + 1 + 1 + b.1.depth < cLine
    omega
  · refine wpAny_pure ⟨_, rfl, ?_⟩
    have rv2 := vals_each oe
    have rl2 : RepL (less N ρ σ (esi xe)) H ((((xs.zip vs).mergeSort (PySem.W.dataLe false Prod.fst))).map (·.1)) ((((xs.zip vs).mergeSort (PySem.W.dataLe false Prod.fst))).map (·.2)) :=
      repL_pairs fun p hp => zip_rep r p (List.mem_mergeSort.mp hp)
    rw [sort_fst, zf] at rl2
    obtain ⟨en, hat⟩ := sortedHeap_at (vs := its) (out := out.toArray) ho2
    have hnone : H h1.objs.size = none := I1.hok.fresh (Nat.le_refl _)
    have hlen2 : ((((xs.zip vs).mergeSort (PySem.W.dataLe false Prod.fst))).map (·.2)).length ≤ sizeLine := by
      rw [List.length_map, List.length_mergeSort, List.length_zip]
      omega
    refine ⟨.ref h1.objs.size, upd H h1.objs.size (.lst ((((xs.zip vs).mergeSort (PySem.W.dataLe false Prod.fst))).map (·.2))), ?_, rfl, q _ _ (.lst S hnone (rl2.anti fun _ z => less_mono (fun i hi => List.mem_append_left _ hi) z) ?_)⟩
    · refine I1.laid (t' := s.toks) (fun b u e => ?_) (Nat.le_refl _) ⟨hlen2, out, en, rv2, hat⟩
      rw [sortedHeap_old (Nat.ne_of_lt (Heap.lt_size e)) (by
        show b < (h1.push { cls := .type "list", data := .seq its.toArray }).objs.size
        rw [Heap.size_push]
        exact Nat.lt_succ_of_lt (Heap.lt_size e))]
      exact Heap.get?_push_of_some _ e
    · rw [List.length_mergeSort]
      exact l
/-- list(d), d a dict -/
theorem listD_val {kvs : List (D × D)} (hc : X.calm = true) (I : Inv X pins τ H s) (rx : RelV x v) (S : StOk M0 sa N H σ ρ g) (hx : Vo sa N ρ σ xe H (.dict kvs) x)
    (q : ∀ w H', Res sa N ρ σ (.blt .list (.cons xe .nil)) H g (.list (kvs.map (·.1))) w H' → Q w H') : wpAny (model X.prog X.w) X.A (PySem.call (.type "list") [v]) (EP X pins τ Q) X.xe s := by
  obtain ⟨l, a, ks, vs, rfl, hA, rK⟩ := hx.top
  cases rx
  obtain ⟨es, ep, hraw, hsys, hz, hk, hv', hks, _⟩ := dict_es I hA
  refine PySem.W.kdl_call (KdlSrc.rawDict (es := es) (ep := ep) hsys) (I.ok.hd hc) hraw hz fun h' tk acc c hkp hget hit => ?_
  have rv : Vals ks acc.toList := keys_vals (fun i v z => z) hk hks hit
  have hlen : ks.length ≤ sizeLine := by omega
  have hat : h'.get? s.heap.objs.size = some (seqObj "list" acc.toList.toArray c) := by
    rw [Array.toArray_toList]
    exact hget
  refine ⟨.ref s.heap.objs.size, upd H s.heap.objs.size (.lst ks), I.laid (t' := tk) hkp (Nat.le_refl _) ⟨hlen, acc.toList, c, rv, hat⟩, rfl, q _ _ (.lst S (I.hok.fresh (Nat.le_refl _)) (rK.keys.1.anti fun _ z => less_mono (fun i hi => List.mem_append_left _ hi) z) ?_)⟩
  rw [List.length_map]
  exact l
theorem sortedD_val {lev : Nat} {kvs : List (D × D)} {ys : List D} (hc : X.calm = true) (hr : Room lev X.A) (I : Inv X pins τ H s) (rx : RelV x v) (S : StOk M0 sa N H σ ρ g) (hx : Vo sa N ρ σ xe H (.dict kvs) x) (e2 : sortO (kvs.map (·.1)) = some ys)
    (q : ∀ w H', Res sa N ρ σ (.blt .sorted (.cons xe .nil)) H g (.list ys) w H' → Q w H') : wpAny (model X.prog X.w) X.A (PySem.call (.builtin "sorted") [v]) (EP X pins τ Q) X.xe s := by
  obtain ⟨l, a, ks, vs, rfl, hA, rK⟩ := hx.top
  cases rx
  obtain ⟨es, ep, hraw, hsys, hz, hk, hv', hks, _⟩ := dict_es I hA
  obtain ⟨hok, rfl⟩ := if_some e2
  obtain ⟨hal, hso, hcl, hdp⟩ := sortOk_all hok
  have r := rK.keys.1
  have lenr := r.length
  have hun := hr.un
  refine Calls.call_function_entry kind_sorted plain_sorted entry_sorted (args_sorted1 _) ?_
  unfold Builtin.«sorted»
  refine wpAny_bind (m := checkCount "sorted" 1 1 _) (wpAny_pure ?_)
  refine wpAny_bind (PySem.W.kdu_collect (KdlSrc.rawDict (es := es) (ep := ep) hsys) (I.ok.hd hc) hraw hz fun h1 tk acc k1 hit => ?_)
  have rv : Vals ks acc.toList := keys_vals (fun i v z => z) hk hks hit
  have lenv := rv.length
  have I1 : Inv X pins τ H { s with heap := h1, toks := tk } := I.kept (t' := tk) k1
  refine wpAny_bind (wpAny_newList ?_ (by rw [← lenv]; omega))
  generalize acc.toList = its at *
  have I2 : Inv X pins τ H { s with heap := h1.push { cls := .type "list", data := .seq its.toArray }, toks := tk } := I1.kept (t' := tk) fun b u e => Heap.get?_push_of_some _ e
  have ho2 : (h1.push { cls := .type "list", data := .seq its.toArray }).get? h1.objs.size = some (seqObj "list" its.toArray 0) := Heap.get?_push_size _ rfl
  have er := pairs_reads I1 rv hcl r
  have zf := zip_fst (vs := ks) (ds := kvs.map (·.1)) lenr.symm
  have hxl : (kvs.map (·.1)).length ≤ LINE := by
    rw [List.length_map]
    exact l
  generalize kvs.map (·.1) = xs at *
  have er2 : PySem.W.EachIs (fun (u : Value) (p : D × V) => ∃ as, Reads (h1.push { cls := .type "list", data := .seq its.toArray }) u p.1 as ∧ h1.objs.size ∉ as) its (xs.zip ks) := er.mono fun u p ⟨as, h⟩ =>
    ⟨as, PyProof.Rows.Reads.keeps (fun b u e => Heap.get?_push_of_some _ e) h, fun m => absurd (Reads.below h _ m) (Nat.lt_irrefl _)⟩
  refine wpAny_bind (wpAny_holding (PySem.W.list_sort_data (enc := Prod.fst) (R := fun (u : Value) (p : D × V) => RelV p.2 u) (bs := xs.zip ks) (s := { s with heap := h1.push { cls := .type "list", data := .seq its.toArray }, toks := tk }) (n := 0) (a := h1.objs.size) ?_ (pairs_each rv lenr.symm) er2 ?_ ?_ ?_ ?_ fun out ol oe => ?_))
  · exact ho2
  · rw [zf]
    exact hal
  · rw [zf]
    exact hso
  · rw [List.length_zip]
    omega
  · intro b hb
    have hm : b.1 ∈ xs := by
      rw [← zf]
      exact List.mem_map_of_mem hb
    have := hdp b.1 hm
    show X.A.units + 1 + 1 + b.1.depth < cLine
    omega
  · refine wpAny_pure ⟨_, rfl, ?_⟩
    have rv2 := vals_each oe
    have rl2 : RepL (less N ρ σ (esi xe)) H ((((xs.zip ks).mergeSort (PySem.W.dataLe false Prod.fst))).map (·.1)) ((((xs.zip ks).mergeSort (PySem.W.dataLe false Prod.fst))).map (·.2)) :=
      repL_pairs fun p hp => zip_rep r p (List.mem_mergeSort.mp hp)
    rw [sort_fst, zf] at rl2
    obtain ⟨en, hat⟩ := sortedHeap_at (vs := its) (out := out.toArray) ho2
    have hnone : H h1.objs.size = none := I1.hok.fresh (Nat.le_refl _)
    have hlen2 : ((((xs.zip ks).mergeSort (PySem.W.dataLe false Prod.fst))).map (·.2)).length ≤ sizeLine := by
      rw [List.length_map, List.length_mergeSort, List.length_zip]
      omega
    refine ⟨.ref h1.objs.size, upd H h1.objs.size (.lst ((((xs.zip ks).mergeSort (PySem.W.dataLe false Prod.fst))).map (·.2))), ?_, rfl, q _ _ (.lst S hnone (rl2.anti fun _ z => less_mono (fun i hi => List.mem_append_left _ hi) z) ?_)⟩
    · refine I1.laid (t' := tk) (fun b u e => ?_) (Nat.le_refl _) ⟨hlen2, out, en, rv2, hat⟩
      rw [sortedHeap_old (Nat.ne_of_lt (Heap.lt_size e)) (by
        show b < (h1.push { cls := .type "list", data := .seq its.toArray }).objs.size
        rw [Heap.size_push]
        exact Nat.lt_succ_of_lt (Heap.lt_size e))]
      exact Heap.get?_push_of_some _ e
    · rw [List.length_mergeSort]
      exact hxl
end
end DT

/-! The greatest of a list of tuples. -/
namespace DT
open PySem L2 PyProof.Rows
section
variable {X : Cx} {pins : List (Addr × Obj)} {s : Shared} {M0 N N' : Ms} {sa : Addr × Addr} {H H1 H' : Hp} {σ τ : L2.St} {ρ : Rho} {g : PState} {xe xa xb : Ex} {es : Exs} {dx dy d : D} {ds : List D} {vs : List V} {us : List Value} {x y : V} {v u : Value} {Q : VK} {is : List Nat}
theorem maxD_mem : ∀ (xs : List D) (x : D), PySem.W.maxD x xs ∈ x :: xs
  | [], x => List.mem_cons_self
  | y :: ys, x => by
    show PySem.W.maxD (if PySem.W.dataLt x y then y else x) ys ∈ _
    have h := maxD_mem ys (if PySem.W.dataLt x y then y else x)
    rcases List.mem_cons.mp h with e | e
    · rw [e]
      split
      · exact List.mem_cons_of_mem _ List.mem_cons_self
      · exact List.mem_cons_self
    · exact List.mem_cons_of_mem _ (List.mem_cons_of_mem _ e)
theorem reads_all (I : Inv X pins τ H s) (rv : Vals vs us) : ∀ {ds : List D}, PyData.canLayAll0 ds = true → RepL N H ds vs → ∃ as, ReadsAll s.heap us ds as := by
  induction rv with
  | nil =>
    intro ds _ e
    cases ds with
    | nil => exact ⟨_, .nil⟩
    | cons d t =>
      rw [RepL] at e
      obtain ⟨_, _, e1, _⟩ := e
      cases e1
  | cons r _ ih =>
    intro ds c e
    cases ds with
    | nil =>
      rw [RepL] at e
      cases e
    | cons d t =>
      rw [RepL] at e
      obtain ⟨_, _, e1, h1, h2⟩ := e
      cases e1
      have c' : d.canLay0 = true ∧ PyData.canLayAll0 t = true := by simpa only [PyData.canLayAll0, Bool.and_eq_true] using c
      obtain ⟨as, q⟩ := Dp.reads I d _ _ (h1.dp c'.1) r
      obtain ⟨bs, q'⟩ := ih c'.2 h2
      exact ⟨_, .cons q q'⟩
theorem canLay_mem : ∀ {ds : List D}, PyData.canLayAll0 ds = true → ∀ {d : D}, d ∈ ds → d.canLay0 = true
  | [], _, _, h => by cases h
  | e :: r, c, d, h => by
    have c' : e.canLay0 = true ∧ PyData.canLayAll0 r = true := by simpa only [PyData.canLayAll0, Bool.and_eq_true] using c
    rcases List.mem_cons.mp h with z | z
    · rw [z]
      exact c'.1
    · exact canLay_mem c'.2 z
theorem depthAll_le {n : Nat} : ∀ {ds : List D}, (∀ d, d ∈ ds → d.depth ≤ n) → PyData.depthAll ds ≤ n
  | [], _ => Nat.zero_le _
  | d :: ds, h => by
    simp only [PyData.depthAll]
    exact Nat.max_le.mpr ⟨h d List.mem_cons_self, depthAll_le fun e he => h e (List.mem_cons_of_mem _ he)⟩
theorem maxT_val {lev : Nat} {z : D} {xs : List D} (hc : X.calm = true) (hr : Room lev X.A) (I : Inv X pins τ H s) (rx : RelV x v) (S : StOk M0 sa N H σ ρ g) (hx : Vo sa N ρ σ xe H (.list (z :: xs)) x) (e2 : maxTOk (z :: xs) = true)
    (q : ∀ w H', Res sa N ρ σ (.blt .maxT (.cons xe .nil)) H g (PySem.W.maxD z xs) w H' → Q w H') : wpAny (model X.prog X.w) X.A (PySem.call (.builtin "max") [v]) (EP X pins τ Q) X.xe s := by
  obtain ⟨l, a, vs, rfl, h, r⟩ := hx.top
  cases rx
  obtain ⟨its, rv, pl, hz⟩ := I.list (SqL.of (K := X.K) h)
  obtain ⟨hal, h2⟩ := Bool.and_eq_true_iff.mp e2
  obtain ⟨htd, hcl⟩ := Bool.and_eq_true_iff.mp h2
  have hal' : ∀ d ∈ z :: xs, ∀ e ∈ z :: xs, PySem.W.alike d e = true := fun d hd e he => List.all_eq_true.mp (List.all_eq_true.mp hal d hd) e he
  have ht : ∀ d ∈ z :: xs, isTup d = true ∧ d.depth ≤ 64 := fun d hd => by
    obtain ⟨p, q⟩ := Bool.and_eq_true_iff.mp (List.all_eq_true.mp htd d hd)
    exact ⟨p, of_decide_eq_true q⟩
  have hun := hr.un
  obtain ⟨as, ra⟩ := reads_all I rv hcl r
  have hd := depthAll_le fun d hd => (ht d hd).2
  have aa : PySem.W.AlikeAll (z :: xs) := ⟨hal', fun d hd e => by
    have t := (ht d hd).1
    rw [e] at t
    cases t⟩
  refine PySem.W.max_list_data (as := as) (I.ok.hd hc) pl.isList (by rw [List.toList_toArray]; exact ra) aa (by omega) fun i w h' tk bs hw hrd hk => ?_
  have I1 : Inv X pins τ H { s with heap := h', toks := tk } := I.kept hk
  have hw' : its[i]? = some w := by simpa using hw
  have hi : i < its.length := (List.getElem?_eq_some_iff.mp hw').1
  have lenv := rv.length
  have lenr := r.length
  obtain ⟨y, hy⟩ : ∃ y, vs[i]? = some y := ⟨vs[i], List.getElem?_eq_getElem (by omega)⟩
  obtain ⟨u, hu, ru⟩ := rv.get hy
  obtain rfl := Option.some.inj (hw'.symm.trans hu)
  obtain ⟨di, hdi⟩ : ∃ d, (z :: xs)[i]? = some d := ⟨(z :: xs)[i]'(by omega), List.getElem?_eq_getElem (by omega)⟩
  obtain ⟨y', hy', rep⟩ := r.get hdi
  obtain rfl := Option.some.inj (hy.symm.trans hy')
  have mi : di ∈ z :: xs := List.mem_of_getElem? hdi
  have cl : di.canLay0 = true := canLay_mem hcl mi
  obtain ⟨cs, q2⟩ := Dp.reads I1 di _ _ (rep.dp cl) ru
  have mm := maxD_mem xs z
  have eq : di = PySem.W.maxD z xs := PySem.W.alike_unique _ _ _ _ _ (hal' _ mi _ mm) q2 hrd
  refine ⟨y, H, I1, ru, q y H (.atom S ?_ ?_)⟩
  · have := (ht _ mm).1
    revert this
    cases PySem.W.maxD z xs <;> intro h <;> first | rfl | cases h
  · rw [← eq]
    exact rep.anti fun _ z => less_mono (fun i hi => List.mem_append_left _ hi) z
end
end DT

namespace DT
open PySem L2 PyProof.Rows
section
variable {X : Cx} {pins : List (Addr × Obj)} {s : Shared} {M0 N N' : Ms} {sa : Addr × Addr} {H H1 H' : Hp} {σ τ : L2.St} {ρ : Rho} {g : PState} {xe xa xb : Ex} {es : Exs} {dx dy d : D} {ds : List D} {vs : List V} {us : List Value} {x y : V} {v u : Value} {Q : VK} {is : List Nat}
theorem lineEq : (LINE : Nat) = sizeLine := sizeLine_eq.symm
/-- the empty dict -/
theorem empty_reads (I : Inv X pins τ H s) {a : Addr} {nk : List NestedKey} {ks : List V} (hn : nk = []) (h : DAt H a nk ks vs) : (∃ as, Reads s.heap (.ref a) (.dict []) as ∧ sysModules ∉ as) := by
  have fin : (a == sysModules) = false → ∀ (o : Obj) (es : Array DictEntry) (ep : Nat), s.heap.get? a = some o → o.ExactDict → o.data = .dict es ep → es.toList = [] → ∃ as, Reads s.heap (.ref a) (.dict []) as ∧ sysModules ∉ as := by
    intro hs o es ep h1 h2 h3 h4
    have r : Reads s.heap (.ref a) (.dict []) (a :: [] ++ []) := .dict (kvs := []) h1 h2.1 h3 (by rw [h4]; exact .nil) (by rw [h4]; exact .nil)
    refine ⟨_, r, fun m => ?_⟩
    have e : sysModules = a := by simpa using m
    rw [e] at hs
    simp at hs
  subst hn
  rcases h with ⟨l, e, q1, _⟩ | ⟨l, e, q1, _⟩
  · have el : l = [] := by simpa using q1
    subst el
    obtain ⟨_, hs, ws, r, o, es, ep, h1, h2, h3, h4, h5, _⟩ := I.hok a _ e
    cases r
    refine fin hs o es ep h1 h2 h3 ?_
    have z : es.toList.length = 0 := by
      have := h5.length
      simpa using this
    exact List.length_eq_zero_iff.mp z
  · have el : l = [] := by simpa using q1
    subst el
    obtain ⟨⟨_, hs, o, es, ep, xs, h1, h2, h3, h4, r, _⟩, _⟩ := I.hok a _ e
    cases r
    exact fin hs o es ep h1 h2 h3 (by rw [h4 X.prog X.w]; rfl)
theorem repr_val {lev : Nat} (hg : X.A.guards = some []) (hr : Room lev X.A) (I : Inv X pins τ H s) (rx : RelV x v) (S : StOk M0 sa N H σ ρ g) (hx : Vo sa N ρ σ xe H dx x) (e : reprO dx = some d)
    (q : ∀ w H', Res sa N ρ σ (.blt .repr (.cons xe .nil)) H g d w H' → Q w H') : wpAny (model X.prog X.w) X.A (PySem.call (.builtin "repr") [v]) (EP X pins τ Q) X.xe s := by
  obtain ⟨c, rfl⟩ := if_some e
  rw [Bool.and_eq_true, Bool.and_eq_true, Bool.and_eq_true] at c
  obtain ⟨c1, c2, c3, c4⟩ := c
  have hl : dx.shown.length ≤ sizeLine := by
    rw [← lineEq]
    exact of_decide_eq_true c3
  have hd : dx.depth ≤ 64 := of_decide_eq_true c4
  have hun := hr.un
  have fin : ∀ (h' : Heap) (t : Tok) (tk : Nat), (∀ b o, s.heap.get? b = some o → h'.get? b = some o) → EP X pins τ Q (.str dx.shown t) { s with heap := h', toks := tk } := fun h' t tk k => ⟨.str dx.shown, H, I.kept k, ⟨_, rfl⟩, q _ H (.str S _)⟩
  have road : ∀ a, x = .ref a → (∃ as, Reads s.heap (.ref a) dx as ∧ (dx.hasDict = true → sysModules ∉ as)) → wpAny (model X.prog X.w) X.A (PySem.call (.builtin "repr") [v]) (EP X pins τ Q) X.xe s := by
    rintro a rfl ⟨as, r, hs⟩
    cases rx
    exact repr_of_reads' r c2 hs hg (by omega) (fun _ _ z => z) (fun h' t tk k => fin h' t tk k) hl
  have lay : dx.canLay0 = true → ∀ a, x = .ref a → ∃ as, Reads s.heap (.ref a) dx as ∧ (dx.hasDict = true → sysModules ∉ as) := by
    rintro cl a rfl
    cases rx
    obtain ⟨as, r⟩ := Dp.reads I dx _ _ (hx.top.dp cl) (show RelV (.ref a) (.ref a) from rfl)
    exact ⟨as, r, PyData.noDict_hsm (PyData.hasDict_of_canLay _ cl)⟩
  cases dx with
  | none =>
    obtain rfl := hx.top.non
    cases rx
    refine PySem.P.repr_of_none ?_
    simp only [PyData.shown] at fin
    exact fin s.heap _ _ fun _ _ z => z
  | bool b =>
    obtain rfl := hx.top.bl
    cases rx
    refine PySem.P.repr_of_bool ?_
    simp only [PyData.shown] at fin
    exact fin s.heap _ _ fun _ _ z => z
  | int i =>
    obtain rfl := hx.top.int
    obtain ⟨t, rfl⟩ := rx
    refine PySem.P.repr_of_int (by simpa [PyData.showable] using c2) ?_
    simp only [PyData.shown] at fin
    exact fin s.heap _ _ fun _ _ z => z
  | str z =>
    obtain rfl := hx.top.str
    obtain ⟨t, rfl⟩ := rx
    refine PySem.P.repr_of_str ?_ (by simpa only [PyData.shown] using hl)
    simp only [PyData.shown] at fin
    exact fin s.heap _ _ fun _ _ z => z
  | list ds =>
    obtain ⟨_, a, vs, rfl, _⟩ := id hx.top
    exact road a rfl (lay c1 a rfl)
  | tuple ds =>
    obtain ⟨_, a, vs, rfl, _⟩ := hx.top.tup
    exact road a rfl (lay c1 a rfl)
  | dict kvs =>
    obtain ⟨_, a, ks, vs, rfl, h, _⟩ := id hx.top
    cases kvs with
    | nil =>
      obtain ⟨as, r, n⟩ := empty_reads I rfl h
      exact road a rfl ⟨as, r, fun _ => n⟩
    | cons p r => exact road a rfl (lay c1 a rfl)
end
end DT
namespace DT
open PySem L2 PyProof.Rows
/-- what a built-in is called as -/
def blF : Bl → Option Value
  | .len => some (.builtin "len")
  | .tuple => some (.type "tuple")
  | .list => some (.type "list")
  | .int => some (.type "int")
  | .abs => some (.builtin "abs")
  | .sorted => some (.builtin "sorted")
  | .all => some (.builtin "all")
  | .any => some (.builtin "any")
  | .sum => some (.builtin "sum")
  | .max => some (.builtin "max")
  | .max2 => some (.builtin "max")
  | .maxT => some (.builtin "max")
  | .min => some (.builtin "min")
  | .min2 => some (.builtin "min")
  | .repr => some (.builtin "repr")
  | _ => none
section
variable {X : Cx} {pins : List (Addr × Obj)} {s : Shared} {M0 N N' : Ms} {sa : Addr × Addr} {H H1 H' : Hp} {σ τ : L2.St} {ρ : Rho} {g : PState} {xe xa xb : Ex} {es : Exs} {dx dy d : D} {ds : List D} {vs : List V} {us : List Value} {x y : V} {v u f : Value} {Q : VK} {is : List Nat}
theorem vals_one (r : Vals [x] us) : ∃ u, us = [u] ∧ RelV x u := vals1 r
theorem esi_one {b : Bl} (hb : b = .tuple ∨ b = .list ∨ b = .sorted) {i : Nat} (h : i ∈ esi xe) : i ∈ esi (.blt b (.cons xe .nil)) := by
  rcases hb with rfl | rfl | rfl <;> exact List.mem_append_left _ h
theorem blt_val {lev : Nat} {b : Bl} (hc : X.calm = true) (hg : X.A.guards = some []) (hr : Room lev X.A) (hf : blF b = some f) (I : Inv X pins τ H s) (rv : Vals vs us) (S : StOk M0 sa N H σ ρ g) (hv : VoL sa N ρ σ H es ds vs) (e : bltO b ds = some d)
    (q : ∀ w H', Res sa N ρ σ (.blt b es) H g d w H' → Q w H') : wpAny (model X.prog X.w) X.A (PySem.call f us) (EP X pins τ Q) X.xe s := by
  unfold bltO at e
  split at e
  · obtain rfl := Option.some.inj hf
    obtain rfl := Option.some.inj e
    obtain ⟨xe, x, rfl, rfl, o⟩ := hv.one
    obtain ⟨_, a, ws, rfl, h, r⟩ := o.top
    refine call_len_seq pins s τ H _ us Q I rv ⟨a, ws, rfl, .inl (.of h), ?_⟩
    rw [r.length]
    exact q _ H (.int S _)
  · obtain rfl := Option.some.inj hf
    obtain rfl := Option.some.inj e
    obtain ⟨xe, x, rfl, rfl, o⟩ := hv.one
    obtain ⟨_, a, ws, rfl, _, h, r⟩ := o.top.tup
    refine call_len_seq pins s τ H _ us Q I rv ⟨a, ws, rfl, .inr h.sq, ?_⟩
    rw [r.length]
    exact q _ H (.int S _)
  · obtain rfl := Option.some.inj hf
    obtain ⟨xs, e1, rfl⟩ := Option.map_eq_some_iff.mp e
    obtain ⟨xe, x, rfl, rfl, o⟩ := hv.one
    obtain ⟨l, a, ws, rfl, r, h⟩ := seq_val o.top e1
    have r' := r.anti (N' := less N ρ σ (esi (.blt .tuple (.cons xe .nil)))) fun _ z => less_mono (fun i hi => esi_one (.inl rfl) hi) z
    rcases h with h | ⟨h, n, rfl⟩
    · obtain ⟨u, rfl, rx⟩ := vals_one rv
      cases rx
      obtain ⟨its, vi, pl, hz⟩ := I.list (.of h)
      have hlen := vi.length
      refine call_tuple_list pl.isList (fun h' kp => ?_) (by simp only [List.size_toArray] <;> omega)
      have J : Inv X pins τ H { s with heap := h' } := I.kept (t' := s.toks) kp
      exact ⟨.ref h'.objs.size, _, J.laid (t' := s.toks) (o := tupO (tupN its) ws) (fun b o e => Heap.get?_push_of_some _ e) (Nat.le_refl _) (objOk_tup hz vi (Heap.get?_push_size _ rfl)), rfl, q _ _ (.tup rfl S (J.hok.fresh (Nat.le_refl _)) r' l)⟩
    · refine call_tuple_of pins s τ H _ us Q I rv ⟨a, ws, rfl, .inr ⟨h.sq, q _ H (.atom S rfl ?_)⟩⟩
      rw [Rep]
      exact ⟨l, a, ws, rfl, fun z => n (less_mono (fun i hi => esi_one (.inl rfl) hi) z), h, r'⟩
  · obtain rfl := Option.some.inj hf
    obtain rfl := Option.some.inj e
    obtain ⟨xe, x, rfl, rfl, o⟩ := hv.one
    obtain ⟨u, rfl, rx⟩ := vals_one rv
    exact listD_val hc I rx S o q
  · obtain rfl := Option.some.inj hf
    obtain ⟨xs, e1, rfl⟩ := Option.map_eq_some_iff.mp e
    obtain ⟨xe, x, rfl, rfl, o⟩ := hv.one
    obtain ⟨l, a, ws, rfl, r, h⟩ := seq_val o.top e1
    have r' := r.anti (N' := less N ρ σ (esi (.blt .list (.cons xe .nil)))) fun _ z => less_mono (fun i hi => esi_one (.inr (.inl rfl)) hi) z
    exact call_list_of pins s τ H _ us Q I rv ⟨a, ws, rfl, seq_read h, fun p hp => q _ _ (.lst S hp r' l)⟩
  · obtain rfl := Option.some.inj hf
    obtain rfl := Option.some.inj e
    obtain ⟨xe, x, rfl, rfl, o⟩ := hv.one
    obtain rfl := o.top.int
    exact call_int1 pins s τ H _ us Q I rv (.inl ⟨_, rfl, q _ H (.int S _)⟩)
  · obtain rfl := Option.some.inj hf
    obtain rfl := Option.some.inj e
    obtain ⟨xe, x, rfl, rfl, o⟩ := hv.one
    obtain rfl := o.top.bl
    exact call_int1 pins s τ H _ us Q I rv (.inr ⟨_, rfl, q _ H (.int S _)⟩)
  · obtain rfl := Option.some.inj hf
    obtain rfl := Option.some.inj e
    obtain ⟨xe, x, rfl, rfl, o⟩ := hv.one
    obtain rfl := o.top.int
    exact call_abs pins s τ H _ us Q I rv ⟨_, rfl, q _ H (.int S _)⟩
  · obtain rfl := Option.some.inj hf
    obtain ⟨ys, e2, rfl⟩ := Option.map_eq_some_iff.mp e
    obtain ⟨xe, x, rfl, rfl, o⟩ := hv.one
    obtain ⟨u, rfl, rx⟩ := vals_one rv
    exact sortedD_val hc hr I rx S o e2 q
  · obtain rfl := Option.some.inj hf
    obtain ⟨xe, x, rfl, rfl, o⟩ := hv.one
    obtain ⟨u, rfl, rx⟩ := vals_one rv
    split at e
    · rename_i xs e1
      obtain ⟨ys, e2, rfl⟩ := Option.map_eq_some_iff.mp e
      exact sorted_val hr I rx S o e1 e2 q
    · cases e
  · obtain rfl := Option.some.inj hf
    obtain ⟨bs, e1, rfl⟩ := Option.map_eq_some_iff.mp e
    obtain ⟨xe, x, rfl, rfl, o⟩ := hv.one
    obtain ⟨_, a, ws, rfl, h, r⟩ := o.top
    obtain rfl := r.bools e1
    exact cr_all hc pins s τ H _ us Q I rv ⟨a, bs, rfl, .of h, q _ H (.bl S _)⟩
  · obtain rfl := Option.some.inj hf
    obtain ⟨bs, e1, rfl⟩ := Option.map_eq_some_iff.mp e
    obtain ⟨xe, x, rfl, rfl, o⟩ := hv.one
    obtain ⟨_, a, ws, rfl, h, r⟩ := o.top
    obtain rfl := r.bools e1
    exact cr_any hc pins s τ H _ us Q I rv ⟨a, bs, rfl, .of h, q _ H (.bl S _)⟩
  · obtain rfl := Option.some.inj hf
    obtain ⟨ns, e1, rfl⟩ := Option.map_eq_some_iff.mp e
    obtain ⟨xe, x, rfl, rfl, o⟩ := hv.one
    obtain ⟨_, a, ws, rfl, h, r⟩ := o.top
    obtain ⟨rfl, _⟩ := r.ints e1
    exact cr_sum hc pins s τ H _ us Q I rv ⟨a, ns, rfl, .of h, q _ H (.int S _)⟩
  · obtain rfl := Option.some.inj hf
    obtain ⟨ns, e1, rfl⟩ := Option.map_eq_some_iff.mp e
    obtain ⟨xe, x, rfl, rfl, o⟩ := hv.one
    obtain ⟨_, a, ws, rfl, _, h, r⟩ := o.top.tup
    obtain ⟨rfl, _⟩ := r.ints e1
    obtain ⟨its, vi, pl, hz⟩ := I.tuple h.sq
    obtain ⟨u, rfl, rx⟩ := vals_one rv
    cases rx
    obtain ⟨xs, hx⟩ := vi.ints.allInts.items
    have hn : numsOf its.toArray.toList = ns := vi.ints.numsOf
    have pl' : s.heap.IsTuple a its.toArray := pl
    rw [hx] at pl' hn
    rw [nums_intItems] at hn
    refine PySem.W.ktm_sumG (I.ok.hd hc) pl' fun h' tk t' hk => ⟨.int _, H, I.kept hk, ⟨_, rfl⟩, ?_⟩
    have e2 : preSum (numAt xs) xs.size = ns.sum := by rw [preSum_eq, List.take_of_length_le (by simp), hn]
    rw [e2]
    exact q _ H (.int S _)
  · obtain rfl := Option.some.inj hf
    split at e
    · rename_i n ns e1
      obtain rfl := Option.some.inj e
      obtain ⟨xe, x, rfl, rfl, o⟩ := hv.one
      obtain ⟨_, a, ws, rfl, h, r⟩ := o.top
      obtain ⟨rfl, _⟩ := r.ints e1
      refine cr_max hc pins s τ H _ us Q I rv ⟨a, n :: ns, rfl, .of h, Nat.zero_lt_succ _, fun m hm hle => ?_⟩
      have : m = maxI (n :: ns) := Int.le_antisymm (maxI_le hm) (hle _ maxI_mem)
      subst this
      exact q _ H (.int S _)
    · cases e
  · obtain rfl := Option.some.inj hf
    split at e
    · rename_i n ns e1
      obtain rfl := Option.some.inj e
      obtain ⟨xe, x, rfl, rfl, o⟩ := hv.one
      obtain ⟨_, a, ws, rfl, h, r⟩ := o.top
      obtain ⟨rfl, _⟩ := r.ints e1
      refine cr_min hc pins s τ H _ us Q I rv ⟨a, n :: ns, rfl, .of h, Nat.zero_lt_succ _, fun m hm hle => ?_⟩
      have : m = minI (n :: ns) := Int.le_antisymm (hle _ minI_mem) (minI_le hm)
      subst this
      exact q _ H (.int S _)
    · cases e
  · obtain rfl := Option.some.inj hf
    obtain rfl := Option.some.inj e
    obtain ⟨xe, xe', x, y, rfl, rfl, o, o'⟩ := hv.two
    obtain rfl := o.top.int
    obtain rfl := o'.top.int
    exact call_max2 hc pins s τ H _ us Q I rv ⟨_, _, rfl, q _ H (.int S _)⟩
  · obtain rfl := Option.some.inj hf
    obtain rfl := Option.some.inj e
    obtain ⟨xe, xe', x, y, rfl, rfl, o, o'⟩ := hv.two
    obtain rfl := o.top.int
    obtain rfl := o'.top.int
    exact call_min2 hc pins s τ H _ us Q I rv ⟨_, _, rfl, q _ H (.int S _)⟩
  · obtain rfl := Option.some.inj hf
    obtain ⟨xe, x, rfl, rfl, o⟩ := hv.one
    obtain ⟨u, rfl, rx⟩ := vals_one rv
    exact repr_val hg hr I rx S o e q
  all_goals first
    | (cases hf; done)
    | (cases e; done)
    | (obtain rfl := Option.some.inj hf
       obtain ⟨e2, rfl⟩ := if_some e
       obtain ⟨xe, x, rfl, rfl, o⟩ := hv.one
       obtain ⟨u, rfl, rx⟩ := vals_one rv
       exact maxT_val hc hr I rx S o e2 q)
end
end DT

/-! Walks that hand out new tuples. -/
namespace DT
open PySem L2 PyProof.Rows

/-- n turns while Sh stands; each gives a new tuple -/
def ItP (n : Nat) (Sh : Hp → Prop) (Yv : Nat → List V → Prop) : It :=
  ⟨fun i H => i < n ∧ Sh H, fun i H x H' => ∃ T ys, x = .ref T ∧ H T = none ∧ H' = upd H T (.tup ys) ∧ Yv i ys, fun i H => i = n ∧ Sh H⟩
theorem goesN_st {P : Program} {w : World} {A : Around} {tg : Expr} {I : Addr} {fp wr : List Addr} {n : Nat} {Y : Nat → Heap → Value → Heap → Prop} {St St' : Nat → Heap → Prop} (W : GoesN P w A tg I fp wr n Y St) (e : ∀ i h, St i h ↔ St' i h) : GoesN P w A tg I fp wr n Y St' := by
  have z : St = St' := funext fun i => funext fun h => propext (e i h)
  rw [← z]
  exact W
theorem turn_pairs {P : Program} {w : World} {K : PySem.W.Frag} {tg : Expr} (I : Addr) (fp fpG wr : List Addr) (n : Nat) {C : Type} (Gd : C → Prop) (Y : C → Nat → Heap → Value → Heap → Prop) (tn : Nat → Heap → Prop) (So : C → Heap → Prop) (Sh : Hp → Prop) (Yv : Nat → List V → Prop)
    (W : ∀ A : Around, A.handled = none → ∀ c, Gd c → GoesN P w A tg I fpG wr n (Y c) (fun i h => tn i h ∧ So c h)) (hI : I ∈ fp) (hw : ∀ b, b ∈ wr → b ∈ fp)
    (obj : ∀ i h, tn i h → ∀ b, b ∈ fp → ∃ o, h.get? b = some o ∧ ∀ v, o.data ≠ .cell v)
    (keep : ∀ i h h', tn i h → (∀ b, b ∈ fp → ∀ o, h.get? b = some o → h'.get? b = some o) → tn i h')
    (self : ∀ (A : Around) (i : Nat) (s : Shared) (Q : Value → Shared → Prop) (E : Value → Shared → Prop), tn i s.heap → Q (.ref I) s → wpAny (model P w) A (pyIter (.ref I)) Q E s)
    (so : ∀ (X : Cx) pins σ H s, L2.Inv X pins σ H s → Sh H → ∃ c, Gd c ∧ So c s.heap)
    (yv : ∀ (X : Cx) pins σ H s i v h' c, L2.Inv X pins σ H s → Sh H → Gd c → i < n → Y c i s.heap v h' → ∃ T ys us, v = .ref T ∧ s.heap.objs.size ≤ T ∧ IsTup h' T (List.toArray us) ∧ Vals ys us ∧ ys.length ≤ sizeLine ∧ Yv i ys) :
    Turn P w K tg (ItP n Sh Yv) fp I tn where
  mem := hI
  obj := obj
  keep := keep
  item := by
    intro X hP hW hK hc i pins s σ H E J hf st hg
    subst hP hW hK
    obtain ⟨c, gc, sO⟩ := so X pins σ H s J hg.2
    have Wx := W X.A (J.ok.hd hc) c gc
    refine Wx.goes i s (fun v s2 => ∃ x H', L2.Inv X pins σ H' s2 ∧ RelV x v ∧ (ItP n Sh Yv).yld i H x H' ∧ tn (i + 1) s2.heap ∧ ∀ b ∈ fp, H' b = none) E hg.1 ⟨st, sO⟩ fun v h' tk hY st' hk htk => ?_
    obtain ⟨T, ys, us, rfl, hT, ht, rv, hz, hy⟩ := yv X pins σ H s i v h' c J hg.2 gc hg.1 hY
    have hn : H T = none := J.hok.fresh hT
    have new : ObjOk X.prog X.w (upd H T (.tup ys)) h' T (.tup ys) := ⟨hz, us, rv, ht⟩
    refine ⟨.ref T, upd H T (.tup ys), J.turnedNew (t' := tk) (ch := wr) hk (fun b hb => hf b (hw b hb)) hT new, rfl, ⟨T, ys, rfl, hn, rfl, hy⟩, st'.1, fun b hb => ?_⟩
    obtain ⟨o, ho, _⟩ := obj i _ st b hb
    rw [upd_ne (Nat.ne_of_lt (Nat.lt_of_lt_of_le (Heap.lt_size ho) hT))]
    exact (hf b hb).1
  done := by
    intro X hP hW hK hc i pins s σ H E J hf st hg
    subst hP hW hK
    obtain ⟨rfl, hs⟩ := hg
    obtain ⟨c, gc, sO⟩ := so X pins σ H s J hs
    refine (W X.A (J.ok.hd hc) c gc).stops s (fun s1 => L2.Inv X pins σ H s1) E ⟨st, sO⟩ fun h' tk hk htk => ?_
    exact J.turnedL (t' := tk) (ch := wr) hk fun b hb => hf b (hw b hb)
  self := self

/-! ### what enumerate and zip draw from -/
def ItOn (h : Heap) (it a : Addr) (i : Nat) (b : Bool) : Prop := if b = true then h.IsListIter it a i else h.IsTupleIter it a i
def SoOn (h : Heap) (a : Addr) (us : List Value) (b : Bool) : Prop := if b = true then h.IsList a us.toArray else h.IsTuple a us.toArray
def itObj (a : Addr) (b : Bool) : Obj := if b = true then { cls := .type "list_iterator", data := .fields #[.ref a, .int 0 0] } else { cls := .type "tuple_iterator", data := .fields #[.ref a, .int 0 0] }
/-- what is tracked at a -/
def ShOn (H : Hp) (a : Addr) (vs : List V) (b : Bool) : Prop := if b = true then H a = some (.lst vs) else TupAt H a vs
theorem draws_on {P : Program} {w : World} {A : Around} (hh : A.handled = none) (it a : Addr) (hne : a ≠ it) (us : List Value) (b : Bool) :
    Draws P w A it [it, a] us.length (fun i v => us[i]? = some v) (fun i h => ItOn h it a i b ∧ SoOn h a us b) := by
  cases b with
  | true =>
    have D := Draws.list (prog := P) (w := w) hh it a hne us.toArray
    simpa [ItOn, SoOn] using D
  | false =>
    have D := Draws.tuple (prog := P) (w := w) hh it a hne us.toArray
    simpa [ItOn, SoOn] using D
theorem begins_on (a : Addr) (us : List Value) (b : Bool) : Begins (.ref a) (itObj a b) fun h => SoOn h a us b := by
  cases b with
  | true => exact begins_list a us.toArray
  | false => exact begins_tuple a us.toArray
theorem itOn_new {h : Heap} {it a : Addr} {b : Bool} (e : h.get? it = some (itObj a b)) : ItOn h it a 0 b := by
  cases b with
  | true => exact ⟨_, e, rfl, rfl⟩
  | false => exact ⟨_, e, rfl, rfl⟩
theorem itOn_obj {h : Heap} {it a : Addr} {b : Bool} {i : Nat} (e : ItOn h it a i b) : ∃ o, h.get? it = some o ∧ ∀ v, o.data ≠ .cell v := by
  cases b with
  | true =>
    obtain ⟨o, q, _, d⟩ := (show h.IsListIter it a i from e)
    exact ⟨o, q, fun v z => by rw [d] at z; cases z⟩
  | false =>
    obtain ⟨o, q, _, d⟩ := (show h.IsTupleIter it a i from e)
    exact ⟨o, q, fun v z => by rw [d] at z; cases z⟩
theorem itOn_keep {h h' : Heap} {it a : Addr} {b : Bool} {i : Nat} (e : ItOn h it a i b) (k : ∀ o, h.get? it = some o → h'.get? it = some o) : ItOn h' it a i b := by
  cases b with
  | true => exact (show h.IsListIter it a i from e).at k
  | false => exact (show h.IsTupleIter it a i from e).at k
section
variable {X : Cx} {pins : List (Addr × Obj)} {s : Shared} {σ : L2.St} {H : Hp} {a : Addr} {vs : List V} {b : Bool}
theorem shOn_items (I : L2.Inv X pins σ H s) (h : ShOn H a vs b) : vs.length ≤ sizeLine ∧ ∃ us, Vals vs us ∧ SoOn s.heap a us b := by
  cases b with
  | true =>
    obtain ⟨its, r, p, z⟩ := I.list (.of (show H a = some (.lst vs) from h))
    exact ⟨z, its, r, p.isList⟩
  | false =>
    obtain ⟨its, r, p, z⟩ := I.tuple (show TupAt H a vs from h).sq
    exact ⟨z, its, r, p⟩
theorem soOn_inj {h : Heap} {us us' : List Value} (e : SoOn h a us b) (e' : SoOn h a us' b) : us = us' := by
  cases b with
  | true =>
    obtain ⟨o, h1, _, n, d1⟩ := (show h.IsList a us.toArray from e)
    obtain ⟨o', h2, _, n', d2⟩ := (show h.IsList a us'.toArray from e')
    rw [h1] at h2
    cases h2
    rw [d1] at d2
    injection d2 with d2
    simpa using congrArg Array.toList d2
  | false =>
    obtain ⟨o, h1, _, n, d1⟩ := (show h.IsTuple a us.toArray from e)
    obtain ⟨o', h2, _, n', d2⟩ := (show h.IsTuple a us'.toArray from e')
    rw [h1] at h2
    cases h2
    rw [d1] at d2
    injection d2 with d2
    simpa using congrArg Array.toList d2
end

/-! ### enumerate -/
theorem turn_enumD {P : Program} {w : World} {K : PySem.W.Frag} {elts : List Expr} {kk : Nat} {tpos : Pos} (e it a : Addr) (hne : e ≠ it) (ha : a ≠ it) (hae : e ≠ a) (vs : List V) (b : Bool) :
    Turn P w K (.Tuple elts kk tpos) (ItP vs.length (fun H => ShOn H a vs b) (fun i ys => ∃ x, vs[i]? = some x ∧ ys = [.int (i : Nat), x])) [e, it] e (fun i h => (∃ old, IsEnum h e it ((0 : Int) + (i : Nat)) old) ∧ ItOn h it a i b) := by
  refine turn_pairs (C := List Value) (Gd := fun us => Vals vs us) e [e, it] (e :: [it, a]) [e, it] vs.length (fun us i h0 v h => ∃ T t x, v = .ref T ∧ h0.objs.size ≤ T ∧ us[i]? = some x ∧ h.IsTuple T #[.int ((0 : Int) + (i : Nat)) t, x]) _ (fun us h => SoOn h a us b) _ _ ?_ ?_ ?_ ?_ ?_ ?_ ?_ ?_
  · intro A hh us rv
    have D := draws_on (P := P) (w := w) (A := A.in1) hh it a ha us b
    rw [← rv.length] at D
    exact goesN_st (GoesN.enumFrom (0 : Int) D e hne (by simp [hne, hae]) (by simp)) fun i h => ⟨fun ⟨x, y, z⟩ => ⟨⟨x, y⟩, z⟩, fun ⟨⟨x, y⟩, z⟩ => ⟨x, y, z⟩⟩
  · simp
  · intro c h
    exact h
  · rintro i h ⟨⟨old, h1⟩, h2⟩ c hc
    have hc' : c = e ∨ c = it := by simpa using hc
    rcases hc' with rfl | rfl
    · exact ⟨_, h1, fun v z => nomatch z⟩
    · exact itOn_obj h2
  · rintro i h h' ⟨⟨old, h1⟩, h2⟩ k
    exact ⟨⟨old, k e (by simp) _ h1⟩, itOn_keep h2 fun o z => k it (by simp) o z⟩
  · rintro A i s Q E ⟨⟨old, h1⟩, _⟩ h
    exact wpAny_pyIter_enum h1 h
  · intro X pins σ H s J h
    obtain ⟨_, us, rv, so⟩ := shOn_items J h
    exact ⟨us, rv, so⟩
  · rintro X pins σ H s i v h' us J h rv hi ⟨T, t, u, rfl, hT, hu, ht⟩
    have hx : vs[i]? = some vs[i] := List.getElem?_eq_getElem hi
    obtain ⟨u', e1, r⟩ := rv.get hx
    rw [hu] at e1
    cases e1
    refine ⟨T, [.int ((0 : Int) + (i : Nat)), vs[i]], [.int ((0 : Int) + (i : Nat)) t, u], rfl, hT, ht, .cons ⟨_, rfl⟩ (.cons r .nil), ?_, vs[i], hx, ?_⟩
    · show 2 ≤ sizeLine
      decide
    · rw [Int.zero_add]

/-! ### zip of two -/
theorem turn_zipD {P : Program} {w : World} {K : PySem.W.Frag} {elts : List Expr} {kk : Nat} {tpos : Pos} {z TI TO i1 i2 a1 a2 : Addr} (S : ZipSep2 z TI TO i1 i2 [i1, a1] [i2, a2]) (h1 : a1 ≠ i1) (h2 : a2 ≠ i2) (vs ws : List V) (b1 b2 : Bool) :
    Turn P w K (.Tuple elts kk tpos) (ItP (min vs.length ws.length) (fun H => ShOn H a1 vs b1 ∧ ShOn H a2 ws b2) (fun i ys => ∃ x y, vs[i]? = some x ∧ ws[i]? = some y ∧ ys = [x, y])) [z, TI, TO, i1, i2] z
      (fun i h => IsZip h z TI TO .none ∧ IsTupOf2 h TI (.ref i1) (.ref i2) ∧ (∃ c1 c2, IsTupOf2 h TO c1 c2) ∧ ItOn h i1 a1 i b1 ∧ ItOn h i2 a2 i b2) := by
  refine turn_pairs (C := List Value × List Value) (Gd := fun c => Vals vs c.1 ∧ Vals ws c.2) z [z, TI, TO, i1, i2] (z :: TI :: TO :: ([i1, a1] ++ [i2, a2])) [z, TO, i1, i2] (min vs.length ws.length)
    (fun c i h0 v h => ∃ T x y, v = .ref T ∧ h0.objs.size ≤ T ∧ c.1[i]? = some x ∧ c.2[i]? = some y ∧ h.IsTuple T #[x, y]) _ (fun c h => SoOn h a1 c.1 b1 ∧ SoOn h a2 c.2 b2) _ _ ?_ ?_ ?_ ?_ ?_ ?_ ?_ ?_
  · rintro A hh ⟨us, xs⟩ ⟨r1, r2⟩
    have D1 := draws_on (P := P) (w := w) (A := A.in1) hh i1 a1 h1 us b1
    have D2 := draws_on (P := P) (w := w) (A := A.in1) hh i2 a2 h2 xs b2
    rw [← r1.length] at D1
    rw [← r2.length] at D2
    exact goesN_st (GoesN.zip2 S D1 D2) fun i h => ⟨fun ⟨q1, q2, q3, ⟨q4, q5⟩, q6, q7⟩ => ⟨⟨q1, q2, q3, q4, q6⟩, q5, q7⟩, fun ⟨⟨q1, q2, q3, q4, q6⟩, q5, q7⟩ => ⟨q1, q2, q3, ⟨q4, q5⟩, q6, q7⟩⟩
  · simp
  · intro c h
    have h' : c = z ∨ c = TO ∨ c = i1 ∨ c = i2 := by simpa using h
    rcases h' with rfl | rfl | rfl | rfl <;> simp
  · rintro i h ⟨q1, q2, ⟨c1, c2, q3⟩, q4, q5⟩ c hc
    have hc' : c = z ∨ c = TI ∨ c = TO ∨ c = i1 ∨ c = i2 := by simpa using hc
    rcases hc' with rfl | rfl | rfl | rfl | rfl
    · exact ⟨_, q1, fun v z => nomatch z⟩
    · exact ⟨_, q2, fun v z => nomatch z⟩
    · exact ⟨_, q3, fun v z => nomatch z⟩
    · exact itOn_obj q4
    · exact itOn_obj q5
  · rintro i h h' ⟨q1, q2, ⟨c1, c2, q3⟩, q4, q5⟩ k
    exact ⟨k z (by simp) _ q1, k TI (by simp) _ q2, ⟨c1, c2, k TO (by simp) _ q3⟩, itOn_keep q4 fun o y => k i1 (by simp) o y, itOn_keep q5 fun o y => k i2 (by simp) o y⟩
  · rintro A i s Q E ⟨q1, _⟩ h
    exact wpAny_pyIter_zip q1 h
  · rintro X pins σ H s J ⟨h, h'⟩
    obtain ⟨_, us, rv, so⟩ := shOn_items J h
    obtain ⟨_, us', rv', so'⟩ := shOn_items J h'
    exact ⟨(us, us'), ⟨rv, rv'⟩, so, so'⟩
  · rintro X pins σ H s i v h' ⟨us, xs⟩ J h ⟨r1, r2⟩ hi ⟨T, u, t, rfl, hT, hu, ht, hh⟩
    have l1 : i < vs.length := by omega
    have l2 : i < ws.length := by omega
    have hx : vs[i]? = some vs[i] := List.getElem?_eq_getElem l1
    have hy : ws[i]? = some ws[i] := List.getElem?_eq_getElem l2
    obtain ⟨u', e1, r⟩ := r1.get hx
    obtain ⟨t', e2, r'⟩ := r2.get hy
    rw [show us[i]? = some u from hu] at e1
    rw [show xs[i]? = some t from ht] at e2
    cases e1
    cases e2
    refine ⟨T, [vs[i], ws[i]], [u, t], rfl, hT, hh, .cons r (.cons r' .nil), ?_, vs[i], ws[i], hx, hy, rfl⟩
    show 2 ≤ sizeLine
    decide
end DT

/-! Expressions, one form after another. -/
namespace DT
open PySem L2 PyProof.Rows
theorem bnd_some {α β : Type} {m : M α} {f : α → M β} {g : PState} {r : β × PState} (h : bnd m f g = some r) : ∃ a g1, m g = some (a, g1) ∧ f a g1 = some r := by
  unfold bnd at h
  cases e : m g with
  | none =>
    rw [e] at h
    cases h
  | some p =>
    obtain ⟨a, g1⟩ := p
    rw [e] at h
    exact ⟨a, g1, rfl, h⟩
theorem ofO_some {α : Type} {o : Option α} {g : PState} {a : α} {g' : PState} (h : ofO o g = some (a, g')) : o = some a ∧ g' = g := by
  cases o with
  | none => cases h
  | some b =>
    cases h
    exact ⟨rfl, rfl⟩
theorem ret_some {α : Type} {b : α} {g : PState} {a : α} {g' : PState} (h : ret b g = some (a, g')) : b = a ∧ g' = g := by
  cases h
  exact ⟨rfl, rfl⟩
theorem toB_some {d : D} {g : PState} {b : Bool} {g' : PState} (h : toB d g = some (b, g')) : d = .bool b ∧ g' = g := by
  cases d with
  | bool c =>
    cases h
    exact ⟨rfl, rfl⟩
  | _ => cases h

def tX (F : List Fn) (x : Ex) : TE := fun σ H Q => ∃ M0 sa N ρ g d g', StOk M0 sa N H σ ρ g ∧ ev F x ρ g = some (d, g') ∧ ∀ v H', Res sa N ρ σ x H g' d v H' → Q v H'
def tC (F : List Fn) (x : Ex) : TT := fun σ H Q => ∃ M0 sa N ρ g b g', StOk M0 sa N H σ ρ g ∧ ev F x ρ g = some (.bool b, g') ∧ ∀ H', Keep (isS sa) H H' → SrcOk H' sa g' → Q b H'
def tA (F : List Fn) (xs : Exs) : TA := fun σ H Q => ∃ M0 sa N ρ g ds g', StOk M0 sa N H σ ρ g ∧ evs F xs ρ g = some (ds, g') ∧ ∀ vs H', Keep (isS sa) H H' → SrcOk H' sa g' → VoL sa N ρ σ H' xs ds vs → Q vs H'

section
variable {X : Cx} {F : List Fn} {M0 N : Ms} {sa : Addr × Addr} {H : Hp} {σ : L2.St} {ρ : Rho} {g g1 g2 : PState} {a b : Expr} {xa xb : Ex} {x y : D} {pos : Pos}
/-- two expressions in a row -/
theorem two (S : StOk M0 sa N H σ ρ g) (e1 : ev F xa ρ g = some (x, g1)) (e2 : ev F xb ρ g1 = some (y, g2)) :
    tX F xa σ H fun v H1 => tX F xb σ H1 fun w H2 => StOk M0 sa N H2 σ ρ g2 ∧ Vo sa N ρ σ xa H2 x v ∧ Vo sa N ρ σ xb H2 y w ∧ Keep (isS sa) H H2 ∧ SrcOk H2 sa g2 :=
  ⟨M0, sa, N, ρ, g, x, g1, S, e1, fun v H1 r1 => ⟨M0, sa, N, ρ, g1, y, g2, S.ext r1.keep r1.src, e2, fun w H2 r2 =>
    ⟨(S.ext r1.keep r1.src).ext r2.keep r2.src, S.vo r1.vo r2.keep, r2.vo, r1.keep.trans r2.keep, r2.src⟩⟩⟩
theorem pe_vD {i : Nat} {nm : Str} (hN : X.N[i]? = some nm) (hv : Vis X.env.scope nm) (hd : (nm == ("__debug__" : Str)) = false) (hcd : (nm == ("__classdict__" : Str)) = false) : PE X (.Name nm pos) (tX F (.v i)) := by
  refine ⟨fun pins s σ H Q I h => ?_⟩
  obtain ⟨M0, sa, N, ρ, g, d, g', S, e, q⟩ := h
  rw [ev] at e
  obtain ⟨e0, rfl⟩ := ofO_some e
  unfold getV at e0
  split at e0
  · rename_i own z e1
    obtain rfl := Option.some.inj e0
    obtain ⟨v, e2, o⟩ := S.slot i _ e1
    refine (pe_var hN hv hd hcd).run pins s σ H Q I ⟨v, e2, q v H ⟨.refl, S.src, ?_, fun f => (by cases f)⟩⟩
    cases own with
    | false =>
      have o' : Rep N H z v := o
      exact ⟨(o'.anti fun _ h => h.1).top, fun m a ev n => (o'.addr m ev n).elim, fun m a ev n => o'.addr m ev (S.sS a n)⟩
    | true =>
      refine ⟨o.1.anti fun _ h => h.1, fun m a ev n => ⟨i, List.mem_singleton.mpr rfl, z, e1, m, by rw [e2, ev]⟩, fun m a ev n => ?_⟩
      obtain ⟨b, e3, _, n3⟩ := o.2 m
      rw [ev] at e3
      cases e3
      exact n3 (S.srcIn a n)
  · cases e0
theorem pe_kD {c : D} {k : Const} {j : Nat} (h : (∃ i, c = .int i ∧ k = .int i) ∨ (∃ b, c = .bool b ∧ k = .bool b) ∨ (c = .none ∧ k = .none) ∨ ∃ z, c = .str z ∧ k = .str z) : PE X (.Constant k j pos) (tX F (.k c)) := by
  refine ⟨fun pins s σ H Q I h' => ?_⟩
  obtain ⟨M0, sa, N, ρ, g, d, g', S, e, q⟩ := h'
  rw [ev] at e
  obtain ⟨rfl, rfl⟩ := ret_some e
  rcases h with ⟨i, rfl, rfl⟩ | ⟨b, rfl, rfl⟩ | ⟨rfl, rfl⟩ | ⟨z, rfl, rfl⟩
  · exact pe_int.run pins s σ H Q I (q _ H (.int S i))
  · exact pe_bl.run pins s σ H Q I (q _ H (.bl S b))
  · exact pe_non.run pins s σ H Q I (q _ H (.atom S rfl (by rw [Rep])))
  · exact pe_str.run pins s σ H Q I (q _ H (.str S z))
theorem pe_binD {o : BOp} (ha : PE X a (tX F xa)) (hb : PE X b (tX F xb)) : PE X (.BinOp a (bop o) b pos) (tX F (.bin o xa xb)) := by
  refine ⟨fun pins s σ H Q I h => ?_⟩
  obtain ⟨M0, sa, N, ρ, g, d, g', S, e, q⟩ := h
  rw [ev] at e
  obtain ⟨x, g1, e1, e⟩ := bnd_some e
  obtain ⟨y, g2, e2, e⟩ := bnd_some e
  obtain ⟨e3, rfl⟩ := ofO_some e
  refine wpAny_BinOp (binT ha hb I (two S e1 e2) fun v u s2 x' y' H2 I2 rx ry ⟨S2, o1, o2, k, r⟩ => ?_)
  exact bin_val I2 rx ry S2 o1 o2 e3 fun w H' z => q w H' (z.back k r)
theorem pe_negD (ha : PE X a (tX F xa)) : PE X (.UnaryOp .USub a pos) (tX F (.neg xa)) := by
  refine ⟨fun pins s σ H Q I h => ?_⟩
  obtain ⟨M0, sa, N, ρ, g, d, g', S, e, q⟩ := h
  rw [ev] at e
  obtain ⟨x, g1, e1, e⟩ := bnd_some e
  refine (pe_un un_neg ha).run pins s σ H Q I ⟨M0, sa, N, ρ, g, x, g1, S, e1, fun v H1 r1 => ?_⟩
  cases x with
  | int i =>
    obtain ⟨rfl, rfl⟩ := ret_some e
    obtain rfl := r1.vo.top.int
    exact ⟨i, rfl, q _ H1 (Res.back (.int (S.ext r1.keep r1.src) _) r1.keep r1.src)⟩
  | _ => cases e
theorem pe_notD (ha : PE X a (tX F xa)) : PE X (.UnaryOp .Not a pos) (tX F (.not xa)) := by
  refine ⟨fun pins s σ H Q I h => ?_⟩
  obtain ⟨M0, sa, N, ρ, g, d, g', S, e, q⟩ := h
  rw [ev] at e
  obtain ⟨x, g1, e1, e⟩ := bnd_some e
  obtain ⟨c, g2, e2, e⟩ := bnd_some e
  obtain ⟨rfl, rfl⟩ := toB_some e2
  obtain ⟨rfl, rfl⟩ := ret_some e
  refine (pe_not ha).run pins s σ H Q I ⟨M0, sa, N, ρ, g, _, _, S, e1, fun v H1 r1 => ?_⟩
  obtain rfl := r1.vo.top.bl
  exact ⟨c, rfl, q _ H1 (Res.back (.bl (S.ext r1.keep r1.src) _) r1.keep r1.src)⟩
/-- an expression that gives True or False, as a test -/
theorem pt_D (ha : PE X a (tX F xa)) (he : ∀ whole, isTrue a X.env whole = (do let v ← whole; standAt a.pos; holding [v] (truthy v))) : PT X a (tC F xa) := by
  refine ⟨fun pins s σ H Q I h => ?_⟩
  obtain ⟨M0, sa, N, ρ, g, c, g', S, e, q⟩ := h
  refine (pt_val ha he).run pins s σ H Q I ⟨M0, sa, N, ρ, g, _, g', S, e, fun v H1 r1 => ?_⟩
  obtain rfl := r1.vo.top.bl
  exact ⟨c, rfl, q H1 r1.keep r1.src⟩
theorem pt_notD (ha : PT X a (tC F xa)) : PT X (.UnaryOp .Not a pos) (tC F (.not xa)) := by
  refine ⟨fun pins s σ H Q I h => ?_⟩
  obtain ⟨M0, sa, N, ρ, g, c, g', S, e, q⟩ := h
  rw [ev] at e
  obtain ⟨x, g1, e1, e⟩ := bnd_some e
  obtain ⟨c', g2, e2, e⟩ := bnd_some e
  obtain ⟨rfl, rfl⟩ := toB_some e2
  obtain ⟨e3, rfl⟩ := ret_some e
  cases e3
  exact (pt_not ha).run pins s σ H Q I ⟨M0, sa, N, ρ, g, c', _, S, e1, fun H1 k r => q H1 k r⟩
theorem pe_iteD {t : Expr} {xt : Ex} (ht : PT X t (tC F xt)) (ha : PE X a (tX F xa)) (hb : PE X b (tX F xb)) : PE X (.IfExp t a b pos) (tX F (.ite xt xa xb)) := by
  refine ⟨fun pins s σ H Q I h => ?_⟩
  obtain ⟨M0, sa, N, ρ, g, d, g', S, e, q⟩ := h
  rw [ev] at e
  obtain ⟨x, g1, e1, e⟩ := bnd_some e
  obtain ⟨c, g2, e2, e⟩ := bnd_some e
  obtain ⟨rfl, rfl⟩ := toB_some e2
  refine (pe_ifExp ht ha hb).run pins s σ H Q I ⟨M0, sa, N, ρ, g, c, _, S, e1, fun H1 k r => ?_⟩
  have wide : ∀ (z : Ex) (w : V) (H' : Hp), Res sa N ρ σ z H1 g' d w H' → (∀ i, i ∈ esi z → i ∈ esi (.ite xt xa xb)) → (∀ i, i ∈ ael z → i ∈ ael (.ite xt xa xb)) → Res sa N ρ σ (.ite xt xa xb) H g' d w H' := fun z w H' r2 w1 w2 => by
    refine ⟨k.trans r2.keep, r2.src, ⟨r2.vo.top.anti fun _ h => less_mono w1 h, fun m a ev n => ?_, r2.vo.nos⟩, fun f => (by cases f)⟩
    obtain ⟨i, hi, o⟩ := r2.vo.al m a ev n
    exact ⟨i, w2 i hi, o⟩
  cases c with
  | true => exact iteT ⟨M0, sa, N, ρ, _, d, g', S.ext k r, e, fun w H' r2 => q w H' (wide xa w H' r2 (fun _ h => List.mem_append_left _ h) fun _ h => List.mem_append_left _ h)⟩
  | false => exact iteF ⟨M0, sa, N, ρ, _, d, g', S.ext k r, e, fun w H' r2 => q w H' (wide xb w H' r2 (fun _ h => List.mem_append_right _ h) fun _ h => List.mem_append_right _ h)⟩
theorem pe_ixD (hu : X.A.units + 65 < cLine) (ha : PE X a (tX F xa)) (hb : PE X b (tX F xb)) (hs : PlainIx b) : PE X (.Subscript a b pos) (tX F (.ix xa xb)) := by
  refine ⟨fun pins s σ H Q I h => ?_⟩
  obtain ⟨M0, sa, N, ρ, g, d, g', S, e, q⟩ := h
  rw [ev] at e
  obtain ⟨x, g1, e1, e⟩ := bnd_some e
  obtain ⟨y, g2, e2, e⟩ := bnd_some e
  obtain ⟨e3, rfl⟩ := ofO_some e
  refine Subscript_ (binT ha hb I (two S e1 e2) fun v u s2 x' y' H2 I2 rx ry ⟨S2, o1, o2, k, r⟩ => ?_)
  exact ix_val hu I2 rx ry S2 o1 o2 e3 (hs _ _) fun w H' z => q w H' (z.back k r)

/-! ### displays, arguments -/
theorem pa_nilD : PA X [] (tA F .nil) := by
  refine ⟨fun pos pins s σ H Q I h => ?_⟩
  obtain ⟨M0, sa, N, ρ, g, ds, g', S, e, q⟩ := h
  rw [evs] at e
  obtain ⟨rfl, rfl⟩ := ret_some e
  exact pa_nil.run pos pins s σ H Q I (q [] H .refl S.src ⟨rfl, rfl⟩)
theorem pa_consD {es : List Expr} {xr : Exs} (ha : PE X a (tX F xa)) (hr : PA X es (tA F xr)) (hs : starEach (a :: es) X.env = (false, eval a X.env) :: starEach es X.env) : PA X (a :: es) (tA F (.cons xa xr)) := by
  refine ⟨fun pos pins s σ H Q I h => ?_⟩
  obtain ⟨M0, sa, N, ρ, g, ds, g', S, e, q⟩ := h
  rw [evs] at e
  obtain ⟨x, g1, e1, e⟩ := bnd_some e
  obtain ⟨xs, g2, e2, e⟩ := bnd_some e
  obtain ⟨rfl, rfl⟩ := ret_some e
  refine (pa_cons ha hr hs).run pos pins s σ H Q I ⟨M0, sa, N, ρ, g, x, g1, S, e1, fun v H1 r1 => ⟨M0, sa, N, ρ, g1, xs, _, S.ext r1.keep r1.src, e2, fun vs H2 k r2 o => ?_⟩⟩
  exact q _ H2 (r1.keep.trans k) r2 ⟨x, xs, v, vs, rfl, rfl, S.vo r1.vo k, o⟩
def lenE : Exs → Nat
  | .nil => 0
  | .cons _ r => lenE r + 1
theorem evs_len : ∀ {xs : Exs} {ρ : Rho} {g g' : PState} {ds : List D}, evs F xs ρ g = some (ds, g') → ds.length = lenE xs
  | .nil, _, _, _, _, e => by
    rw [evs] at e
    obtain ⟨rfl, _⟩ := ret_some e
    rfl
  | .cons x r, _, _, _, _, e => by
    rw [evs] at e
    obtain ⟨x, g1, e1, e⟩ := bnd_some e
    obtain ⟨xs, g2, e2, e⟩ := bnd_some e
    obtain ⟨rfl, rfl⟩ := ret_some e
    rw [List.length_cons, evs_len e2]
    rfl
theorem pe_tupD {es : List Expr} {xs : Exs} {k : Nat} (h : PA X es (tA F xs)) (hl : lenE xs ≤ 1000) : PE X (.Tuple es k pos) (tX F (.tup xs)) := by
  refine ⟨fun pins s σ H Q I h' => ?_⟩
  obtain ⟨M0, sa, N, ρ, g, d, g', S, e, q⟩ := h'
  rw [ev] at e
  obtain ⟨ds, g1, e1, e⟩ := bnd_some e
  obtain ⟨rfl, rfl⟩ := ret_some e
  have hz : ds.length ≤ LINE := by
    rw [evs_len e1]
    exact Nat.le_trans hl (by decide)
  refine wpAny_Tuple_spliced (thn (h.run pos pins s σ H (fun vs H1 => Keep (isS sa) H H1 ∧ SrcOk H1 sa g' ∧ VoL sa N ρ σ H1 xs ds vs) I ⟨M0, sa, N, ρ, g, ds, _, S, e1, fun vs H1 k r o => ⟨k, r, o⟩⟩) fun us s1 ⟨vs, H1, I1, rv, k, r, o⟩ => ?_)
  have hl : vs.length ≤ sizeLine := by
    rw [o.length, ← lineEq]
    exact hz
  have hf : H1 s1.heap.objs.size = none := I1.hok.fresh (Nat.le_refl _)
  refine ⟨by rw [← rv.length]; exact hl, .ref s1.heap.objs.size, _, I1.laid (t' := s1.toks) (o := tupO (tupN us) vs) (fun b u e => Heap.get?_push_of_some _ e) (Nat.le_refl _) (objOk_tup hl rv (Heap.get?_push_size _ rfl)), rfl, q _ _ (Res.back (.tup rfl (S.ext k r) hf o.reps hz) k r)⟩
theorem pe_lstD {es : List Expr} {xs : Exs} (h : PA X es (tA F xs)) (hl : lenE xs ≤ 1000) : PE X (.List es pos) (tX F (.lst xs)) := by
  refine ⟨fun pins s σ H Q I h' => ?_⟩
  obtain ⟨M0, sa, N, ρ, g, d, g', S, e, q⟩ := h'
  rw [ev] at e
  obtain ⟨ds, g1, e1, e⟩ := bnd_some e
  obtain ⟨rfl, rfl⟩ := ret_some e
  have hz : ds.length ≤ LINE := by
    rw [evs_len e1]
    exact Nat.le_trans hl (by decide)
  refine (pe_lst h).run pins s σ H Q I ⟨M0, sa, N, ρ, g, ds, _, S, e1, fun vs H1 k r o => ⟨?_, fun p hp => q _ _ (Res.back (.lst (S.ext k r) hp o.reps hz) k r)⟩⟩
  rw [o.length, ← lineEq]
  exact hz
end
end DT

/-! and, or, comparisons, slices. -/
namespace DT
open PySem L2 PyProof.Rows
def tXA (F : List Fn) (xs : Exs) : TE := fun σ H Q => ∃ M0 sa N ρ g b g', StOk M0 sa N H σ ρ g ∧ evA F xs ρ g = some (b, g') ∧ ∀ H', Keep (isS sa) H H' → SrcOk H' sa g' → Q (.bl b) H'
def tXO (F : List Fn) (xs : Exs) : TE := fun σ H Q => ∃ M0 sa N ρ g b g', StOk M0 sa N H σ ρ g ∧ evO F xs ρ g = some (b, g') ∧ ∀ H', Keep (isS sa) H H' → SrcOk H' sa g' → Q (.bl b) H'
def tCA (F : List Fn) (xs : Exs) : TT := fun σ H Q => ∃ M0 sa N ρ g b g', StOk M0 sa N H σ ρ g ∧ evA F xs ρ g = some (b, g') ∧ ∀ H', Keep (isS sa) H H' → SrcOk H' sa g' → Q b H'
def tCO (F : List Fn) (xs : Exs) : TT := fun σ H Q => ∃ M0 sa N ρ g b g', StOk M0 sa N H σ ρ g ∧ evO F xs ρ g = some (b, g') ∧ ∀ H', Keep (isS sa) H H' → SrcOk H' sa g' → Q b H'
section
variable {X : Cx} {F : List Fn} {M0 N : Ms} {sa : Addr × Addr} {H : Hp} {σ : L2.St} {ρ : Rho} {g g1 g2 : PState} {a b : Expr} {es : List Expr} {xa xb : Ex} {xr : Exs} {x y : D} {pos : Pos}
theorem bool_some {m : M D} {g : PState} {b : Bool} {g' : PState} (h : bnd m toB g = some (b, g')) : m g = some (.bool b, g') := by
  obtain ⟨x, g1, e1, e2⟩ := bnd_some h
  obtain ⟨rfl, rfl⟩ := toB_some e2
  exact e1
theorem pe_and1D (ha : PE X a (tX F xa)) : PE X (.BoolOp .And [a] pos) (tXA F (.cons xa .nil)) := by
  refine ⟨fun pins s σ H Q I h => ?_⟩
  obtain ⟨M0, sa, N, ρ, g, c, g', S, e, q⟩ := h
  rw [evA] at e
  refine (pe_one ha).run pins s σ H Q I ⟨M0, sa, N, ρ, g, _, g', S, bool_some e, fun v H1 r1 => ?_⟩
  obtain rfl := r1.vo.top.bl
  exact q H1 r1.keep r1.src
theorem pe_or1D (ha : PE X a (tX F xa)) : PE X (.BoolOp .Or [a] pos) (tXO F (.cons xa .nil)) := by
  refine ⟨fun pins s σ H Q I h => ?_⟩
  obtain ⟨M0, sa, N, ρ, g, c, g', S, e, q⟩ := h
  rw [evO] at e
  refine (pe_one ha).run pins s σ H Q I ⟨M0, sa, N, ρ, g, _, g', S, bool_some e, fun v H1 r1 => ?_⟩
  obtain rfl := r1.vo.top.bl
  exact q H1 r1.keep r1.src
theorem pe_andD {xe : Ex} {xt : Exs} (ha : PE X a (tX F xa)) (hb : PE X (.BoolOp .And (b :: es) pos) (tXA F (.cons xe xt))) : PE X (.BoolOp .And (a :: b :: es) pos) (tXA F (.cons xa (.cons xe xt))) := by
  refine ⟨fun pins s σ H Q I h => ?_⟩
  obtain ⟨M0, sa, N, ρ, g, c, g', S, e, q⟩ := h
  rw [evA] at e
  · obtain ⟨x, g1, e1, e⟩ := bnd_some e
    obtain ⟨t, g2, e2, e⟩ := bnd_some e
    obtain ⟨rfl, rfl⟩ := toB_some e2
    refine (pe_and ha hb).run pins s σ H Q I ⟨M0, sa, N, ρ, g, _, _, S, e1, fun v H1 r1 => ?_⟩
    obtain rfl := r1.vo.top.bl
    refine ⟨t, rfl, ?_⟩
    cases t with
    | true => exact iteT ⟨M0, sa, N, ρ, _, c, g', S.ext r1.keep r1.src, e, fun H' k r => q H' (r1.keep.trans k) r⟩
    | false =>
      obtain ⟨rfl, rfl⟩ := ret_some e
      exact iteF (q H1 r1.keep r1.src)
  · exact fun z => by cases z
theorem pe_orD {xe : Ex} {xt : Exs} (ha : PE X a (tX F xa)) (hb : PE X (.BoolOp .Or (b :: es) pos) (tXO F (.cons xe xt))) : PE X (.BoolOp .Or (a :: b :: es) pos) (tXO F (.cons xa (.cons xe xt))) := by
  refine ⟨fun pins s σ H Q I h => ?_⟩
  obtain ⟨M0, sa, N, ρ, g, c, g', S, e, q⟩ := h
  rw [evO] at e
  · obtain ⟨x, g1, e1, e⟩ := bnd_some e
    obtain ⟨t, g2, e2, e⟩ := bnd_some e
    obtain ⟨rfl, rfl⟩ := toB_some e2
    refine (pe_or ha hb).run pins s σ H Q I ⟨M0, sa, N, ρ, g, _, _, S, e1, fun v H1 r1 => ?_⟩
    obtain rfl := r1.vo.top.bl
    refine ⟨t, rfl, ?_⟩
    cases t with
    | false => exact iteF ⟨M0, sa, N, ρ, _, c, g', S.ext r1.keep r1.src, e, fun H' k r => q H' (r1.keep.trans k) r⟩
    | true =>
      obtain ⟨rfl, rfl⟩ := ret_some e
      exact iteT (q H1 r1.keep r1.src)
  · exact fun z => by cases z
theorem pe_ofA (h : PE X a (tXA F xr)) : PE X a (tX F (.and xr)) := by
  refine ⟨fun pins s σ H Q I h' => ?_⟩
  obtain ⟨M0, sa, N, ρ, g, d, g', S, e, q⟩ := h'
  rw [ev] at e
  obtain ⟨b, g1, e1, e⟩ := bnd_some e
  obtain ⟨rfl, rfl⟩ := ret_some e
  exact h.run pins s σ H Q I ⟨M0, sa, N, ρ, g, b, _, S, e1, fun H' k r => q _ H' (Res.back (.bl (S.ext k r) _) k r)⟩
theorem pe_ofO (h : PE X a (tXO F xr)) : PE X a (tX F (.or xr)) := by
  refine ⟨fun pins s σ H Q I h' => ?_⟩
  obtain ⟨M0, sa, N, ρ, g, d, g', S, e, q⟩ := h'
  rw [ev] at e
  obtain ⟨b, g1, e1, e⟩ := bnd_some e
  obtain ⟨rfl, rfl⟩ := ret_some e
  exact h.run pins s σ H Q I ⟨M0, sa, N, ρ, g, b, _, S, e1, fun H' k r => q _ H' (Res.back (.bl (S.ext k r) _) k r)⟩
/-- as tests -/
theorem pw_and1D (ha : PT X a (tC F xa)) : PW X (.BoolOp .And [a] pos) (tCA F (.cons xa .nil)) := by
  refine ⟨fun wh pins s σ H Q I h => ?_⟩
  obtain ⟨M0, sa, N, ρ, g, c, g', S, e, q⟩ := h
  rw [evA] at e
  exact (pw_and1 ha).run wh pins s σ H Q I ⟨M0, sa, N, ρ, g, c, g', S, bool_some e, q⟩
theorem pw_or1D (ha : PT X a (tC F xa)) : PW X (.BoolOp .Or [a] pos) (tCO F (.cons xa .nil)) := by
  refine ⟨fun wh pins s σ H Q I h => ?_⟩
  obtain ⟨M0, sa, N, ρ, g, c, g', S, e, q⟩ := h
  rw [evO] at e
  exact (pw_or1 ha).run wh pins s σ H Q I ⟨M0, sa, N, ρ, g, c, g', S, bool_some e, q⟩
theorem pw_andD {xe : Ex} {xt : Exs} (ha : PT X a (tC F xa)) (hb : PW X (.BoolOp .And (b :: es) pos) (tCA F (.cons xe xt))) : PW X (.BoolOp .And (a :: b :: es) pos) (tCA F (.cons xa (.cons xe xt))) := by
  refine ⟨fun wh pins s σ H Q I h => ?_⟩
  obtain ⟨M0, sa, N, ρ, g, c, g', S, e, q⟩ := h
  rw [evA] at e
  · obtain ⟨x, g1, e1, e⟩ := bnd_some e
    obtain ⟨t, g2, e2, e⟩ := bnd_some e
    obtain ⟨rfl, rfl⟩ := toB_some e2
    refine (pw_and ha hb).run wh pins s σ H Q I ⟨M0, sa, N, ρ, g, t, _, S, e1, fun H1 k r => ?_⟩
    cases t with
    | true => exact iteT ⟨M0, sa, N, ρ, _, c, g', S.ext k r, e, fun H' k' r' => q H' (k.trans k') r'⟩
    | false =>
      obtain ⟨rfl, rfl⟩ := ret_some e
      exact iteF (q H1 k r)
  · exact fun z => by cases z
theorem pw_orD {xe : Ex} {xt : Exs} (ha : PT X a (tC F xa)) (hb : PW X (.BoolOp .Or (b :: es) pos) (tCO F (.cons xe xt))) : PW X (.BoolOp .Or (a :: b :: es) pos) (tCO F (.cons xa (.cons xe xt))) := by
  refine ⟨fun wh pins s σ H Q I h => ?_⟩
  obtain ⟨M0, sa, N, ρ, g, c, g', S, e, q⟩ := h
  rw [evO] at e
  · obtain ⟨x, g1, e1, e⟩ := bnd_some e
    obtain ⟨t, g2, e2, e⟩ := bnd_some e
    obtain ⟨rfl, rfl⟩ := toB_some e2
    refine (pw_or ha hb).run wh pins s σ H Q I ⟨M0, sa, N, ρ, g, t, _, S, e1, fun H1 k r => ?_⟩
    cases t with
    | false => exact iteF ⟨M0, sa, N, ρ, _, c, g', S.ext k r, e, fun H' k' r' => q H' (k.trans k') r'⟩
    | true =>
      obtain ⟨rfl, rfl⟩ := ret_some e
      exact iteT (q H1 k r)
  · exact fun z => by cases z
theorem pt_ofA (h : PW X a (tCA F xr)) : PT X a (tC F (.and xr)) := by
  refine ⟨fun pins s σ H Q I h' => ?_⟩
  obtain ⟨M0, sa, N, ρ, g, c, g', S, e, q⟩ := h'
  rw [ev] at e
  obtain ⟨b, g1, e1, e⟩ := bnd_some e
  obtain ⟨e2, rfl⟩ := ret_some e
  cases e2
  exact h.pt.run pins s σ H Q I ⟨M0, sa, N, ρ, g, _, _, S, e1, q⟩
theorem pt_ofO (h : PW X a (tCO F xr)) : PT X a (tC F (.or xr)) := by
  refine ⟨fun pins s σ H Q I h' => ?_⟩
  obtain ⟨M0, sa, N, ρ, g, c, g', S, e, q⟩ := h'
  rw [ev] at e
  obtain ⟨b, g1, e1, e⟩ := bnd_some e
  obtain ⟨e2, rfl⟩ := ret_some e
  cases e2
  exact h.pt.run pins s σ H Q I ⟨M0, sa, N, ρ, g, _, _, S, e1, q⟩

/-! ### comparisons -/
/-- the rest of a chain, behind its first value -/
def PCh (X : Cx) (F : List Fn) (ops : List CmpOp) (es : List Expr) (cs : Cps) : Prop :=
  ∀ (pos : Pos) (pins : List (Addr × Obj)) (s : Shared) (σ : L2.St) (H : Hp) (M0 : Ms) (sa : Addr × Addr) (N : Ms) (ρ : Rho) (g g' : PState) (xa : Ex) (x : D) (w : V) (v : Value) (c : Bool), L2.Inv X pins σ H s → StOk M0 sa N H σ ρ g → RelV w v → Vo sa N ρ σ xa H x w → evC F x cs ρ g = some (c, g') →
    (∀ Q : VK, (∀ H', Keep (isS sa) H H' → SrcOk H' sa g' → Q (.bl c) H') → wpAny (model X.prog X.w) X.A (compareChain pos v ops (evalEach es X.env)) (EP X pins σ Q) X.xe s) ∧
    (∀ Q : Bool → Hp → Prop, (∀ H', Keep (isS sa) H H' → SrcOk H' sa g' → Q c H') → wpAny (model X.prog X.w) X.A (testChain pos v ops (evalEach es X.env)) (TP X pins σ Q) X.xe s)
theorem pch_one {o : COp} (hu : X.A.units + 65 < cLine) (hb : PE X b (tX F xb)) : PCh X F [cop o] [b] (.cons o xb .nil) := by
  intro pos pins s σ H M0 sa N ρ g g' xa x w v c I S rw_ ov e
  rw [evC] at e
  obtain ⟨y, g1, e1, e⟩ := bnd_some e
  obtain ⟨e2, rfl⟩ := ofO_some e
  refine ⟨fun Q q => chain_last (thn (hb.run pins s σ H (fun u H1 => Vo sa N ρ σ xb H1 y u ∧ Keep (isS sa) H H1 ∧ SrcOk H1 sa g') I ⟨M0, sa, N, ρ, g, y, g', S, e1, fun u H1 r => ⟨r.vo, r.keep, r.src⟩⟩) fun u s1 ⟨z, H1, I1, ru, o1, k, r⟩ => ?_),
    fun Q q => test_last (thn (hb.run pins s σ H (fun u H1 => Vo sa N ρ σ xb H1 y u ∧ Keep (isS sa) H H1 ∧ SrcOk H1 sa g') I ⟨M0, sa, N, ρ, g, y, g', S, e1, fun u H1 r => ⟨r.vo, r.keep, r.src⟩⟩) fun u s1 ⟨z, H1, I1, ru, o1, k, r⟩ => ?_)⟩
  · exact cmp_val hu I1 rw_ ru (S.vo ov k).top o1.top e2 (q H1 k r)
  · refine thn (cmp_val (Q := fun t H2 => t = .bl c ∧ H2 = H1) hu I1 rw_ ru (S.vo ov k).top o1.top e2 ⟨rfl, rfl⟩) fun t s2 ⟨t', H2, I2, rt, et, eH⟩ => ?_
    subst et eH
    cases rt
    exact wpAny_truthy_bool ⟨H2, I2, q H2 k r⟩
theorem pch_cons {o o' : COp} {ops : List CmpOp} {b' : Expr} {cs : Cps} {xb' : Ex} (hu : X.A.units + 65 < cLine) (hb : PE X b (tX F xb)) (hr : PCh X F (cop o' :: ops) (b' :: es) (.cons o' xb' cs)) : PCh X F (cop o :: cop o' :: ops) (b :: b' :: es) (.cons o xb (.cons o' xb' cs)) := by
  intro pos pins s σ H M0 sa N ρ g g' xa x w v c I S rw_ ov e
  rw [evC] at e
  · obtain ⟨y, g1, e1, e⟩ := bnd_some e
    obtain ⟨t, g2, e2, e⟩ := bnd_some e
    obtain ⟨e3, rfl⟩ := ofO_some e2
    refine ⟨fun Q q => chain_link (thn (hb.run pins s σ H (fun u H1 => Vo sa N ρ σ xb H1 y u ∧ Keep (isS sa) H H1 ∧ SrcOk H1 sa g2) I ⟨M0, sa, N, ρ, g, y, g2, S, e1, fun u H1 r => ⟨r.vo, r.keep, r.src⟩⟩) fun u s1 ⟨z, H1, I1, ru, o1, k, r⟩ => ?_),
      fun Q q => test_link (thn (hb.run pins s σ H (fun u H1 => Vo sa N ρ σ xb H1 y u ∧ Keep (isS sa) H H1 ∧ SrcOk H1 sa g2) I ⟨M0, sa, N, ρ, g, y, g2, S, e1, fun u H1 r => ⟨r.vo, r.keep, r.src⟩⟩) fun u s1 ⟨z, H1, I1, ru, o1, k, r⟩ => ?_)⟩
    · refine thn (cmp_val (Q := fun t' H2 => t' = .bl t ∧ H2 = H1) hu I1 rw_ ru (S.vo ov k).top o1.top e3 ⟨rfl, rfl⟩) fun t1 s2 ⟨t', H2, I2, rt, et, eH⟩ => ?_
      subst et eH
      cases rt
      refine wpAny_truthy_bool ?_
      cases t with
      | true => exact ite_tt ((hr pos pins s2 σ H2 M0 sa N ρ _ g' xb y z u c I2 (S.ext k r) ru o1 e).1 Q fun H' k' r' => q H' (k.trans k') r')
      | false =>
        obtain ⟨rfl, rfl⟩ := ret_some e
        exact ite_ff ⟨.bl false, H2, I2, rfl, q H2 k r⟩
    · refine thn (cmp_val (Q := fun t' H2 => t' = .bl t ∧ H2 = H1) hu I1 rw_ ru (S.vo ov k).top o1.top e3 ⟨rfl, rfl⟩) fun t1 s2 ⟨t', H2, I2, rt, et, eH⟩ => ?_
      subst et eH
      cases rt
      refine wpAny_truthy_bool ?_
      cases t with
      | true => exact ite_tt ((hr pos pins s2 σ H2 M0 sa N ρ _ g' xb y z u c I2 (S.ext k r) ru o1 e).2 Q fun H' k' r' => q H' (k.trans k') r')
      | false =>
        obtain ⟨rfl, rfl⟩ := ret_some e
        exact ite_ff ⟨H2, I2, q H2 k r⟩
  · exact fun z => by cases z
theorem pe_cmpD {ops : List CmpOp} {cs : Cps} (hm : lastMarks ops es = false) (ha : PE X a (tX F xa)) (h : PCh X F ops es cs) : PE X (.Compare a ops es pos) (tX F (.cmp xa cs)) := by
  refine ⟨fun pins s σ H Q I h' => ?_⟩
  obtain ⟨M0, sa, N, ρ, g, d, g', S, e, q⟩ := h'
  rw [ev] at e
  obtain ⟨x, g1, e1, e⟩ := bnd_some e
  obtain ⟨c, g2, e2, e⟩ := bnd_some e
  obtain ⟨rfl, rfl⟩ := ret_some e
  show wpAny _ _ (do compareChain pos (← eval a X.env) ops (markedEach ops es (evalEach es X.env))) _ _ s
  rw [markedEach_of_false _ _ _ hm]
  refine wpAny_bind (thn (ha.run pins s σ H (fun u H1 => Vo sa N ρ σ xa H1 x u ∧ Keep (isS sa) H H1 ∧ SrcOk H1 sa g1) I ⟨M0, sa, N, ρ, g, x, g1, S, e1, fun u H1 r => ⟨r.vo, r.keep, r.src⟩⟩) fun v s1 ⟨z, H1, I1, rv, o1, k, r⟩ => ?_)
  exact (h pos pins s1 σ H1 M0 sa N ρ g1 g' xa x z v c I1 (S.ext k r) rv o1 e2).1 Q fun H' k' r' => q _ H' (Res.back (.bl (S.ext (k.trans k') r') _) (k.trans k') r')
theorem pt_cmpD {ops : List CmpOp} {cs : Cps} (hm : lastMarks ops es = false) (ha : PE X a (tX F xa)) (h : PCh X F ops es cs) : PT X (.Compare a ops es pos) (tC F (.cmp xa cs)) := by
  refine ⟨fun pins s σ H Q I h' => ?_⟩
  obtain ⟨M0, sa, N, ρ, g, d, g', S, e, q⟩ := h'
  rw [ev] at e
  obtain ⟨x, g1, e1, e⟩ := bnd_some e
  obtain ⟨c, g2, e2, e⟩ := bnd_some e
  obtain ⟨e3, rfl⟩ := ret_some e
  cases e3
  show wpAny _ _ (do testChain pos (← eval a X.env) ops (markedEach ops es (evalEach es X.env))) _ _ s
  rw [markedEach_of_false _ _ _ hm]
  refine wpAny_bind (thn (ha.run pins s σ H (fun u H1 => Vo sa N ρ σ xa H1 x u ∧ Keep (isS sa) H H1 ∧ SrcOk H1 sa g1) I ⟨M0, sa, N, ρ, g, x, g1, S, e1, fun u H1 r => ⟨r.vo, r.keep, r.src⟩⟩) fun v s1 ⟨z, H1, I1, rv, o1, k, r⟩ => ?_)
  exact (h pos pins s1 σ H1 M0 sa N ρ g1 _ xa x z v _ I1 (S.ext k r) rv o1 e2).2 Q fun H' k' r' => q H' (k.trans k') r'
end
end DT

/-! Slices, calls of built-ins. -/
namespace DT
open PySem L2 PyProof.Rows
def tP (F : List Fn) (x : Ex) : TO := fun σ H Q => ∃ M0 sa N ρ g o g', StOk M0 sa N H σ ρ g ∧ evP F x ρ g = some (o, g') ∧ ∀ H', Keep (isS sa) H H' → SrcOk H' sa g' → Q o H'
section
variable {X : Cx} {F : List Fn} {M0 N : Ms} {sa : Addr × Addr} {H : Hp} {σ τ : L2.St} {ρ : Rho} {g g1 g2 : PState} {a b : Expr} {es : List Expr} {xa xb : Ex} {xr : Exs} {x y : D} {pos : Pos}
theorem po_noneD : PO X none (tP F .abs) := by
  refine ⟨fun pins s σ H Q I h => ?_⟩
  obtain ⟨M0, sa, N, ρ, g, o, g', S, e, q⟩ := h
  rw [evP] at e
  obtain ⟨rfl, rfl⟩ := ret_some e
  exact po_none.run pins s σ H Q I (q H .refl S.src)
theorem po_someD (ha : PE X a (tX F xa)) (n : xa ≠ .abs) : PO X (some a) (tP F xa) := by
  refine ⟨fun pins s σ H Q I h => ?_⟩
  obtain ⟨M0, sa, N, ρ, g, o, g', S, e, q⟩ := h
  rw [evP] at e
  · obtain ⟨x, g1, e1, e⟩ := bnd_some e
    refine (po_some ha).run pins s σ H Q I ⟨M0, sa, N, ρ, g, x, g1, S, e1, fun v H1 r => ?_⟩
    cases x with
    | int i =>
      obtain ⟨rfl, rfl⟩ := ret_some e
      exact ⟨i, r.vo.top.int, q H1 r.keep r.src⟩
    | _ => cases e
  · exact n
theorem sl_D : SlR X (fun z lo hi H Q => ∃ M0 sa N ρ σ g xa dx d xl xh, StOk M0 sa N H σ ρ g ∧ Vo sa N ρ σ xa H dx z ∧ slO dx lo hi = some d ∧ ∀ w H', Res sa N ρ σ (.sl xa xl xh) H g d w H' → Q w H') := by
  intro pins s σ H x v vl vu lo hi sl Q I rx hs pl pu h
  obtain ⟨M0, sa, N, ρ, τ, g, xa, dx, d, xl, xh, S, o, e, q⟩ := h
  exact sl_val I rx S o hs pl pu e q
theorem pe_slD {lo hi : Option Expr} {xl xh : Ex} {p2 : Pos} (ha : PE X a (tX F xa)) (hl : PO X lo (tP F xl)) (hh : PO X hi (tP F xh)) : PE X (.Subscript a (.Slice lo hi none p2) pos) (tX F (.sl xa xl xh)) := by
  refine ⟨fun pins s σ H Q I h => ?_⟩
  obtain ⟨M0, sa, N, ρ, g, d, g', S, e, q⟩ := h
  rw [ev] at e
  obtain ⟨x, g1, e1, e⟩ := bnd_some e
  obtain ⟨l, g2, e2, e⟩ := bnd_some e
  obtain ⟨u, g3, e3, e⟩ := bnd_some e
  obtain ⟨e4, rfl⟩ := ofO_some e
  refine (pe_slice sl_D ha hl hh).run pins s σ H Q I ⟨M0, sa, N, ρ, g, x, g1, S, e1, fun v H1 r => ⟨M0, sa, N, ρ, g1, l, g2, S.ext r.keep r.src, e2, fun H2 k2 r2 => ⟨M0, sa, N, ρ, g2, u, _, (S.ext r.keep r.src).ext k2 r2, e3, fun H3 k3 r3 => ?_⟩⟩⟩
  exact ⟨M0, sa, N, ρ, σ, _, xa, x, d, xl, xh, ((S.ext r.keep r.src).ext k2 r2).ext k3 r3, S.vo r.vo (k2.trans k3), e4, fun w H' z => q w H' (z.back (r.keep.trans (k2.trans k3)) r3)⟩

/-! ### t[a:b:-1] -/
theorem rev_pick {α : Type} (xs : List α) (p q : Nat) (hp : p ≤ xs.length) : (List.range (p - q)).filterMap (fun j => xs[p - 1 - j]?) = ((xs.take p).drop q).reverse := by
  have e1 : (List.range (p - q)).filterMap (fun j => xs[p - 1 - j]?) = ((List.range (p - q)).map (fun j => xs[p - 1 - j]?)).filterMap id := by rw [List.filterMap_map]; rfl
  have e2 : (List.range (p - q)).map (fun j => xs[p - 1 - j]?) = (((xs.take p).drop q).reverse).map some := by
    apply List.ext_getElem
    · simp
      omega
    · intro i h1 h2
      have h3 : i < p - q := by simpa using h1
      have h4 : p - 1 - i < xs.length := by omega
      simp only [List.getElem_map, List.getElem_range, List.getElem_reverse, List.getElem_drop, List.getElem_take, List.length_drop, List.length_take]
      rw [List.getElem?_eq_getElem h4]
      congr 1
      congr 1
      rw [Nat.min_eq_left hp]
      omega
  rw [e1, e2, List.filterMap_map]
  simp
theorem rIx_le {n : Nat} {d : Int} {o : Option Int} (h1 : -1 ≤ d) (h2 : d ≤ (n : Int) - 1) : -1 ≤ rIx n d o ∧ rIx n d o ≤ (n : Int) - 1 := by
  unfold rIx
  cases o with
  | none => exact ⟨h1, h2⟩
  | some i =>
    show -1 ≤ (if i < 0 then max (i + n) (-1) else min i (n - 1)) ∧ (if i < 0 then max (i + n) (-1) else min i (n - 1)) ≤ (n : Int) - 1
    by_cases hi : i < 0
    · rw [if_pos hi]
      omega
    · rw [if_neg hi]
      omega
theorem adjust_rev (lo hi : Option Int) (n : Nat) : Builtin.Slice.sliceAdjust lo hi (-1) (n : Int) = (rIx n ((n : Int) - 1) lo, rIx n (-1) hi) := by
  have h1 : (-1 : Int) < 0 := by omega
  unfold Builtin.Slice.sliceAdjust rIx
  simp only [h1, if_true]
  cases lo <;> cases hi <;> rfl
theorem places_rev (i j : Int) : Builtin.Slice.slicePlaces i j (-1) = (i - j).toNat := by
  unfold Builtin.Slice.slicePlaces
  have h1 : ¬ (-1 : Int) > 0 := by omega
  simp only [h1, if_false]
  split
  · have : (i - j - 1) / - -1 = i - j - 1 := by
      rw [show (- -1 : Int) = 1 from rfl, Int.ediv_one]
    rw [this]
    congr 1
    omega
  · omega
theorem fm_congr {α β : Type} {f h : α → Option β} : ∀ {l : List α}, (∀ x, x ∈ l → f x = h x) → l.filterMap f = l.filterMap h
  | [], _ => rfl
  | x :: r, e => by
    rw [List.filterMap_cons, List.filterMap_cons, e x List.mem_cons_self, fm_congr fun y hy => e y (List.mem_cons_of_mem _ hy)]
theorem cutR_pick (xs : Array Value) (lo hi : Option Int) : ((List.range (rIx xs.size ((xs.size : Int) - 1) lo - rIx xs.size (-1) hi).toNat).filterMap fun (k : Nat) => xs[(rIx xs.size ((xs.size : Int) - 1) lo + (k : Int) * -1).toNat]?) = cutR xs.toList lo hi := by
  obtain ⟨a1, a2⟩ := rIx_le (n := xs.size) (o := lo) (d := (xs.size : Int) - 1) (by omega) (by omega)
  obtain ⟨b1, b2⟩ := rIx_le (n := xs.size) (o := hi) (d := -1) (by omega) (by omega)
  unfold cutR
  rw [← rev_pick, Array.length_toList]
  · generalize rIx xs.size ((xs.size : Int) - 1) lo = p at *
    generalize rIx xs.size (-1) hi = q at *
    have e : (p - q).toNat = (p + 1).toNat - (q + 1).toNat := by omega
    rw [e]
    apply fm_congr
    intro j hj
    have hj' := List.mem_range.mp hj
    have e2 : (p + (j : Int) * -1).toNat = (p + 1).toNat - 1 - j := by omega
    rw [e2, Array.getElem?_toList]
  · rw [Array.length_toList]
    omega
theorem getItem_tuple_rev {w : World} {prog : Program} {A : Around} {E : Value → Shared → Prop} {s : Shared} {t sl : Addr} {items : Array Value} {vl vu vk : Value} {lo hi : Option Int} {Q : Value → Shared → Prop} (ht : IsTup s.heap t items) (hs : s.heap.IsSliceOf sl vl vu vk) (pl : IsPart vl lo) (pu : IsPart vu hi) (pk : IsPart vk (some (-1)))
    (h : Q (.ref s.heap.objs.size) { s with heap := s.heap.push { cls := .type "tuple", data := .seq (cutR items.toList lo hi).toArray } }) (hsz : items.size ≤ sizeLine) : wpAny (model prog w) A (getItem (.ref t) (.ref sl)) Q E s := by
  have hlen : (cutR items.toList lo hi).toArray.size ≤ sizeLine := by
    unfold cutR
    rw [List.size_toArray, List.length_reverse, List.length_drop, List.length_take, Array.length_toList]
    omega
  obtain ⟨os, hos, hcs, hds⟩ := id hs
  have hTs : s.TypeIs (.ref sl) "slice" := ⟨os, hos, hcs⟩
  unfold getItem
  try with_reducible refine wpAny_holding ?_
  first | refine wpAny_bind (wpAny_pure ?_) | skip
  refine wpAny_bind (wpAny_sequenceKey ht.typeIs (by decide) ?_)
  refine wpAny_bind (wpAny_callSpecial?_slot (name := Str.ofString "__getitem__") ht.typeIs slot_tuple_getitem
    (wpAny_call_entry slot_tuple_getitem ht.typeIs entry_tuple_getitem ?_ (args_tuple_getitem _ _)))
  show wpAny _ _ (Builtin.Tuple.tupleItemsOf (.ref t) >>= _) _ _ s
  refine wpAny_bind (tupleItemsOf_ ht ?_)
  refine wpAny_bind (wpAny_typeOf hTs ?_)
  rw [if_pos (by decide)]
  have app : ∀ (Q' : Int × Int × Nat → Shared → Prop) (E' : Value → Shared → Prop) (A' : Around), Q' (rIx items.size ((items.size : Int) - 1) lo, -1, (rIx items.size ((items.size : Int) - 1) lo - rIx items.size (-1) hi).toNat) s →
      wpAny (model prog w) A' (Builtin.Slice.sliceApplied (.ref sl) (pure (items.size : Int))) Q' E' s := by
    intro Q' E' A' hq
    unfold Builtin.Slice.sliceApplied Builtin.Slice.sliceFields
    refine wpAny_bind (wpAny_bind (wpAny_field hos hds (x := vl) rfl (wpAny_bind (wpAny_field hos hds (x := vu) rfl (wpAny_bind (wpAny_field hos hds (x := vk) rfl (wpAny_pure ?_)))))))
    refine wpAny_bind (HT.slicePart_ pk ?_)
    show wpAny _ _ (if ((-1 : Int) == 0) = true then _ else _) _ _ s
    rw [if_neg (by decide)]
    refine wpAny_bind (HT.slicePart_ pl (wpAny_bind (HT.slicePart_ pu (wpAny_bind (wpAny_pure ?_)))))
    show wpAny _ _ (match Builtin.Slice.sliceAdjust lo hi (-1) (items.size : Int) with | (lo, hi) => pure (lo, (-1 : Int), Builtin.Slice.slicePlaces lo hi (-1))) _ _ s
    rw [adjust_rev lo hi items.size]
    show wpAny _ _ (pure (rIx items.size ((items.size : Int) - 1) lo, (-1 : Int), Builtin.Slice.slicePlaces (rIx items.size ((items.size : Int) - 1) lo) (rIx items.size (-1) hi) (-1))) _ _ s
    rw [places_rev]
    exact wpAny_pure hq
  refine wpAny_bind (app _ _ _ ?_)
  have hno : ¬ ((rIx items.size ((items.size : Int) - 1) lo == 0 && (-1 : Int) == 1 && (rIx items.size ((items.size : Int) - 1) lo - rIx items.size (-1) hi).toNat == items.size) = true) := by
    intro q
    rw [Bool.and_eq_true, Bool.and_eq_true] at q
    exact absurd q.1.2 (by decide)
  show wpAny _ _ (if (rIx items.size ((items.size : Int) - 1) lo == 0 && (-1 : Int) == 1 && (rIx items.size ((items.size : Int) - 1) lo - rIx items.size (-1) hi).toNat == items.size) = true then _ else _) _ _ s
  rw [if_neg hno, cutR_pick]
  first
    | exact wpAny_bind (m := Builtin.Tuple.tupleExact _) (wpAny_newObj_type (wpAny_pure ⟨_, rfl, wpAny_pure h⟩) hlen)
    | exact wpAny_bind (m := Builtin.Tuple.tupleExact _) (wpAny_newObj_type (wpAny_bind (wpAny_pure (wpAny_pure ⟨_, rfl, wpAny_pure h⟩))) hlen)
    | exact wpAny_bind (wpAny_bind (m := Builtin.Tuple.tupleExact _) (wpAny_newObj_type (wpAny_pure (wpAny_pure ⟨_, rfl, wpAny_pure h⟩)) hlen))
    | exact wpAny_bind (wpAny_bind (m := Builtin.Tuple.tupleExact _) (wpAny_newObj_type (wpAny_pure ⟨_, rfl, wpAny_pure h⟩) hlen))
end
end DT

/-! Reversed parts, calls of built-ins and methods. -/
namespace DT
open PySem L2 PyProof.Rows
theorem cutR_all {α : Type} (xs : List α) : cutR xs none none = xs.reverse := by
  unfold cutR rIx
  have e1 : ((xs.length : Int) - 1 + 1).toNat = xs.length := by omega
  have e2 : ((-1 : Int) + 1).toNat = 0 := by omega
  show ((xs.take ((xs.length : Int) - 1 + 1).toNat).drop ((-1 : Int) + 1).toNat).reverse = xs.reverse
  rw [e1, e2, List.take_length, List.drop_zero]
section
variable {X : Cx} {F : List Fn} {M0 N : Ms} {sa : Addr × Addr} {H : Hp} {σ τ : L2.St} {ρ : Rho} {g g1 g2 : PState} {a b : Expr} {es : List Expr} {xa xb : Ex} {xr : Exs} {x y : D} {pos : Pos}
theorem pe_revD {k : Nat} {p1 p2 p3 : Pos} (ha : PE X a (tX F xa)) : PE X (.Subscript a (.Slice none none (some (.UnaryOp .USub (.Constant (.int 1) k p1) p2)) p3) pos) (tX F (.rev xa)) := by
  refine ⟨fun pins s σ H Q I h => ?_⟩
  obtain ⟨M0, sa, N, ρ, g, d, g', S, e, q⟩ := h
  rw [ev] at e
  obtain ⟨x, g1, e1, e⟩ := bnd_some e
  obtain ⟨e3, rfl⟩ := ofO_some e
  refine Subscript_ (thn (ha.run pins s σ H (fun u H1 => Vo sa N ρ σ xa H1 x u ∧ Keep (isS sa) H H1 ∧ SrcOk H1 sa g') I ⟨M0, sa, N, ρ, g, x, g', S, e1, fun u H1 r => ⟨r.vo, r.keep, r.src⟩⟩) fun v s1 ⟨z, H1, I1, r1, o, k1, q1⟩ => ?_)
  have hst : PO X (some (.UnaryOp .USub (.Constant (.int 1) k p1) p2)) (tPart (tUn (rU fun i => .int (-i)) (L2.tC (.int 1)))) := po_some (pe_un un_neg pe_int)
  refine wpAny_Slice (thn (po_none.run pins s1 σ H1 (fun o H2 => o = none ∧ H2 = H1) I1 ⟨rfl, rfl⟩) fun vl s2 ⟨l, H2, I2, pl, el, e2⟩ => ?_)
  subst el e2
  refine thn (po_none.run pins s2 σ H2 (fun o H3 => o = none ∧ H3 = H2) I2 ⟨rfl, rfl⟩) fun vu s3 ⟨u, H3, I3, pu, eu, e4⟩ => ?_
  subst eu e4
  refine thn (hst.run pins s3 σ H3 (fun o H4 => o = some (-1) ∧ H4 = H3) I3 ⟨1, rfl, -1, rfl, rfl, rfl⟩) fun vs s4 ⟨o', H4, I4, ps, eo, e5⟩ => ?_
  subst eo e5
  have I5 : Inv X pins σ H4 { s4 with heap := s4.heap.push { cls := .type "slice", data := .fields #[vl, vu, vs] } } := I4.kept (t' := s4.toks) fun b ob q => Heap.get?_push_of_some _ q
  have S5 := S.ext k1 q1
  cases x with
  | list xs =>
    obtain rfl := Option.some.inj e3
    obtain ⟨hl, p, ws, rfl, hp, rp⟩ := o.top
    cases r1
    obtain ⟨its, rv, ht, hz⟩ := I5.list (SqL.of (K := X.K) hp)
    have hlen := rv.length
    show wpAny (model X.prog X.w) X.A (subscriptTail a (.Slice none none (some (.UnaryOp .USub (.Constant (.int 1) k p1) p2)) p3) (.ref p) (.ref s4.heap.objs.size)) (EP X pins σ Q) X.xe { s4 with heap := s4.heap.push { cls := .type "slice", data := .fields #[vl, vu, vs] } }
    refine tail_any (ops := [.ref p, .ref s4.heap.objs.size]) ht.isList.typeIs (PySem.slot_list_getitem.lookup) ?_ (by with_unfolding_all rfl)
    refine wpAny_getItem_list_slice ht.isList (Heap.IsSliceOf.new _ vl vu vs) pl pu ps (by decide) ?_ (by rw [List.size_toArray]; omega)
    rw [PySem.W.krv_pick]
    refine ⟨.ref _, _, I5.laid (t' := s4.toks) (o := .lst ws.reverse) (fun b ob q => Heap.get?_push_of_some _ q) (Nat.le_refl _) ?_, rfl, q _ _ (Res.back (.lst S5 (I5.hok.fresh (Nat.le_refl _)) (rp.rev) (by rw [List.length_reverse]; exact hl)) k1 q1)⟩
    exact ⟨by rw [List.length_reverse]; exact hz, _, 0, rv.reverse, Heap.get?_push_size _ rfl⟩
  | tuple xs =>
    obtain rfl := Option.some.inj e3
    obtain ⟨hl, p, ws, rfl, hn, hp, rp⟩ := o.top.tup
    cases r1
    obtain ⟨its, rv, ht, hz⟩ := I5.tuple (hp.sq (K := X.K))
    have hlen := rv.length
    show wpAny (model X.prog X.w) X.A (subscriptTail a (.Slice none none (some (.UnaryOp .USub (.Constant (.int 1) k p1) p2)) p3) (.ref p) (.ref s4.heap.objs.size)) (EP X pins σ Q) X.xe { s4 with heap := s4.heap.push { cls := .type "slice", data := .fields #[vl, vu, vs] } }
    refine tail_any (ops := [.ref p, .ref s4.heap.objs.size]) ht.typeIs (slot_tuple_getitem.lookup) ?_ (by with_unfolding_all rfl)
    refine getItem_tuple_rev ht (Heap.IsSliceOf.new _ vl vu vs) pl pu ps ?_ (by rw [List.size_toArray]; omega)
    rw [cutR_all]
    exact ⟨.ref _, _, I5.laid (t' := s4.toks) (o := tupO (tupN its.reverse) ws.reverse) (fun b ob q => Heap.get?_push_of_some _ q) (Nat.le_refl _) (objOk_tup (by rw [List.length_reverse]; exact hz) rv.reverse (Heap.get?_push_size _ rfl)), rfl, q _ _ (Res.back (.tup rfl S5 (I5.hok.fresh (Nat.le_refl _)) (rp.rev) (by rw [List.length_reverse]; exact hl)) k1 q1)⟩
  | _ => cases e3

/-! ### calls of built-ins -/
def rBlt (b : Bl) : List V → Hp → VK → Prop := fun vs H Q => ∃ M0 sa N ρ σ g es ds d, StOk M0 sa N H σ ρ g ∧ VoL sa N ρ σ H es ds vs ∧ bltO b ds = some d ∧ ∀ w H', Res sa N ρ σ (.blt b es) H g d w H' → Q w H'
theorem call_bltD {lev : Nat} {b : Bl} {f : Value} (hc : X.calm = true) (hg : X.A.guards = some []) (hr : Room lev X.A) (hf : blF b = some f) : CallR X f (rBlt b) := by
  intro pins s τ H vs us Q I rv h
  obtain ⟨M0, sa, N, ρ, σ, g, es, ds, d, S, o, e, q⟩ := h
  exact blt_val hc hg hr hf I rv S o e q
theorem tX_blt {b : Bl} {σ : L2.St} {Q : VK} (h : tX F (.blt b xr) σ H Q) : tCB (rBlt b) (tA F xr) σ H Q := by
  obtain ⟨M0, sa, N, ρ, g, d, g', S, e, q⟩ := h
  rw [ev] at e
  obtain ⟨ds, g1, e1, e⟩ := bnd_some e
  obtain ⟨e2, rfl⟩ := ofO_some e
  exact ⟨M0, sa, N, ρ, g, ds, g', S, e1, fun vs H1 k r o => ⟨M0, sa, N, ρ, σ, _, xr, ds, d, S.ext k r, o, e2, fun w H' z => q w H' (z.back k r)⟩⟩
theorem pe_bltD {lev : Nat} {b : Bl} {id : String} {nm : Str} {p : Pos} (hc : X.calm = true) (hgd : X.A.guards = some []) (hr : Room lev X.A) (hf : blF b = some (.builtin id)) (hg : Gl X nm) (hm : X.mg nm = none) (hv : bootBuiltins nm = some (.builtin id)) (ha : PA X (a :: es) (tA F xr))
    (hn : nm ≠ "__name__") (hdb : (nm == ("__debug__" : Str)) = false) (he : starEach (a :: es) X.env = (false, eval a X.env) :: starEach es X.env) (hpl : (backTo pos (starEach es X.env)).any (·.1) = false) : PE X (.Call (.Name nm p) (a :: es) [] pos) (tX F (.blt b xr)) :=
  ⟨fun pins s σ H Q I h => (pe_callB (call_bltD hc hgd hr hf) hg hm hv ha hn hdb he hpl).run pins s σ H Q I (tX_blt h)⟩
theorem pe_bltTyD {lev : Nat} {b : Bl} {T : String} {nm : Str} {p : Pos} (hc : X.calm = true) (hgd : X.A.guards = some []) (hr : Room lev X.A) (hf : blF b = some (.type T)) (hg : Gl X nm) (hm : X.mg nm = none) (hv : bootBuiltins nm = some (.type T)) (ha : PA X (a :: es) (tA F xr))
    (hn : nm ≠ "__name__") (hdb : (nm == ("__debug__" : Str)) = false) (he : starEach (a :: es) X.env = (false, eval a X.env) :: starEach es X.env) (hpl : (backTo pos (starEach es X.env)).any (·.1) = false) : PE X (.Call (.Name nm p) (a :: es) [] pos) (tX F (.blt b xr)) :=
  ⟨fun pins s σ H Q I h => (pe_callTy (call_bltD hc hgd hr hf) hg hm hv ha hn hdb he hpl).run pins s σ H Q I (tX_blt h)⟩

/-! ### isinstance -/
def tyS : Ty → String
  | .int => "int"
  | .bool => "bool"
  | .str => "str"
  | .tuple => "tuple"
  | .list => "list"
  | .dict => "dict"
def dTy : D → String
  | .none => "NoneType"
  | .bool _ => "bool"
  | .int _ => "int"
  | .str _ => "str"
  | .list _ => "list"
  | .tuple _ => "tuple"
  | .dict _ => "dict"
/-- as the kit's types of values, and our own dicts -/
def TyD (K : PySem.W.Frag) (H : Hp) (v : V) (t : Value) : Prop := TyX K H v t ∨ ∃ a l, v = .ref a ∧ H a = some (.ext (DRaw a l)) ∧ t = .type "dict"
def rIsiD (K : PySem.W.Frag) : List V → Hp → VK → Prop := fun xs H Q => ∃ (x c : V) (t u : Value) (b : Bool), xs = [x, c] ∧ ClsV c u ∧ TyD K H x t ∧ PySem.W.kitOne K t u = some b ∧ Q (.bl b) H
theorem call_isiD {X : Cx} : CallR X (.builtin "isinstance") (rIsiD X.K) := by
  intro pins s σ H xs us Q I r h
  obtain ⟨x, c, t, u, b, rfl, k, ty, e, q⟩ := h
  rcases ty with ty | ⟨a, l, rfl, ea, rfl⟩
  · exact call_isi pins s σ H _ us Q I r ⟨x, c, t, u, b, rfl, k, ty, e, q⟩
  · obtain ⟨u1, u2, rfl, r1, r2⟩ := vals2 r
    have e2 := k.eq r2
    subst e2
    cases (show u1 = Value.ref a from r1)
    obtain ⟨⟨_, _, o, es, ep, xs, h1, h2, _⟩, _⟩ := I.hok a _ ea
    exact PySem.W.kia_one PySem.W.kitx_dict I.kIn ⟨o, h1, h2.1⟩ e (fun z => nomatch z) fun tk => ⟨.bl b, H, I.tok tk, rfl, q⟩
theorem Top.ty {K : PySem.W.Frag} {v : V} : ∀ {d : D}, Top N H d v → TyD K H v (.type (dTy d))
  | .none, h => by
    obtain rfl := h.non
    exact .inl (.base .non)
  | .bool _, h => by
    obtain rfl := h.bl
    exact .inl (.base (.bl _))
  | .int _, h => by
    obtain rfl := h.int
    exact .inl (.base (.int _))
  | .str _, h => by
    obtain rfl := h.str
    exact .inl (.base (.str _))
  | .list _, h => by
    obtain ⟨_, a, vs, rfl, e, _⟩ := h
    exact .inl (.base (.lst e))
  | .tuple _, h => by
    obtain ⟨_, a, vs, rfl, _, e, _⟩ := h.tup
    rcases e.rd with z | ⟨o, z⟩
    · exact .inl (.base (.tup z))
    · exact .inl (.fTuple z)
  | .dict _, h => by
    obtain ⟨_, a, ks, vs, rfl, e, _⟩ := h
    rcases e with ⟨l, e, _⟩ | ⟨l, e, _⟩
    · exact .inl (.base (.dK e))
    · exact .inr ⟨a, l, rfl, e, rfl⟩
theorem kit_all : ∀ (d : D) (t : Ty), kitB (dTy d) (tyS t) = some (tyOf d t) := by
  intro d t
  cases d <;> cases t <;> simp only [dTy, tyS, tyOf] <;> decide +kernel
theorem pe_isiD {t : Ty} {p p2 : Pos} (hi : Gl X "isinstance") (hm : X.mg "isinstance" = none) (hg : Gl X (Str.ofString (tyS t))) (hm2 : X.mg (Str.ofString (tyS t)) = none) (ha : PE X a (tX F xa))
    (he : starEach [a, .Name (Str.ofString (tyS t)) p2] X.env = (false, eval a X.env) :: starEach [.Name (Str.ofString (tyS t)) p2] X.env) (hpl : (backTo pos (starEach [.Name (Str.ofString (tyS t)) p2] X.env)).any (·.1) = false) : PE X (.Call (.Name "isinstance" p) [a, .Name (Str.ofString (tyS t)) p2] [] pos) (tX F (.blt (.isi t) (.cons xa .nil))) := by
  refine ⟨fun pins s σ H Q I h => ?_⟩
  obtain ⟨M0, sa, N, ρ, g, d, g', S, e, q⟩ := h
  rw [ev] at e
  obtain ⟨ds, g1, e1, e⟩ := bnd_some e
  obtain ⟨e2, rfl⟩ := ofO_some e
  rw [evs] at e1
  obtain ⟨x, g2, e3, e1⟩ := bnd_some e1
  rw [evs] at e1
  obtain ⟨xs, g3, e4, e1⟩ := bnd_some e1
  obtain ⟨rfl, rfl⟩ := ret_some e4
  obtain ⟨rfl, rfl⟩ := ret_some e1
  have hb : bootBuiltins (Str.ofString (tyS t)) = some (.type (tyS t)) := by cases t <;> exact by decide +kernel
  have hn : Str.ofString (tyS t) ≠ "__name__" := by cases t <;> decide
  have hd : (Str.ofString (tyS t) == ("__debug__" : Str)) = false := by cases t <;> decide
  have hpa : PA X [a, .Name (Str.ofString (tyS t)) p2] (tCons (tX F xa) (tCons (L2.tC (.ty (tyS t))) tNil)) := pa_cons ha (pa_cons (pe_bltn hg hm2 hb rfl hn hd) pa_nil (by rfl)) he
  refine (pe_callB call_isiD hi hm (by decide +kernel) hpa (by decide) (by decide) he hpl).run pins s σ H Q I ⟨M0, sa, N, ρ, g, x, _, S, e3, fun v H1 r => ?_⟩
  refine ⟨v, .ty (tyS t), .type (dTy x), .type (tyS t), tyOf x t, rfl, .ty _, r.vo.top.ty, kit_ty (kit_all x t), ?_⟩
  obtain rfl := Option.some.inj e2
  exact q _ H1 (Res.back (.bl (S.ext r.keep r.src) _) r.keep r.src)
end
end DT

/-! list(range(..)), x.index(y). -/
namespace DT
open PySem L2 PyProof.Rows
section
variable {X : Cx} {F : List Fn} {M0 N : Ms} {sa : Addr × Addr} {H : Hp} {σ τ : L2.St} {ρ : Rho} {g g1 g2 : PState} {a b : Expr} {es : List Expr} {xa xb : Ex} {xr : Exs} {x y : D} {pos : Pos}
theorem evs_one {ds : List D} {g' : PState} (h : evs F (.cons xa .nil) ρ g = some (ds, g')) : ∃ x, ev F xa ρ g = some (x, g') ∧ ds = [x] := by
  rw [evs] at h
  obtain ⟨x, g1, e1, h⟩ := bnd_some h
  rw [evs] at h
  obtain ⟨xs, g2, e2, h⟩ := bnd_some h
  obtain ⟨rfl, rfl⟩ := ret_some e2
  obtain ⟨rfl, rfl⟩ := ret_some h
  exact ⟨x, e1, rfl⟩
theorem evs_two {ds : List D} {g' : PState} (h : evs F (.cons xa (.cons xb .nil)) ρ g = some (ds, g')) : ∃ x y g1, ev F xa ρ g = some (x, g1) ∧ ev F xb ρ g1 = some (y, g') ∧ ds = [x, y] := by
  rw [evs] at h
  obtain ⟨x, g1, e1, h⟩ := bnd_some h
  obtain ⟨xs, g2, e2, h⟩ := bnd_some h
  obtain ⟨rfl, rfl⟩ := ret_some h
  obtain ⟨y, e3, rfl⟩ := evs_one e2
  exact ⟨x, y, g1, e1, e3, rfl⟩
theorem rep_rng (N : Ms) (H : Hp) (a b : Int) : RepL N H (rngL a b) (rgV a b) := by
  unfold rngL rgV
  induction List.range (b - a).toNat with
  | nil => exact .nil
  | cons i r ih => exact .cons (by rw [Rep]) ih
theorem rngO_some {a b : Int} {l : List D} (h : rngO a b = some l) : RgOk a b ∧ l = rngL a b ∧ l.length ≤ LINE := by
  obtain ⟨c, rfl⟩ := if_some h
  simp only [Bool.and_eq_true, decide_eq_true_eq] at c
  obtain ⟨c1, c2, c3, c4, c5⟩ := c
  refine ⟨⟨c1, c2, c3, c4, c5⟩, rfl, ?_⟩
  unfold rngL
  rw [List.length_map, List.length_range]
  exact c5
theorem pe_listR1D {p p2 q : Pos} (hc : X.calm = true) (hg : Gl X "list") (hm : X.mg "list" = none) (hg2 : Gl X "range") (hm2 : X.mg "range" = none) (ha : PE X a (tX F xa))
    (n1 : starEach [a] X.env = (false, eval a X.env) :: starEach [] X.env) (n2 : starEach [.Call (.Name "range" p2) [a] [] q] X.env = (false, eval (.Call (.Name "range" p2) [a] [] q) X.env) :: starEach [] X.env) :
    PE X (.Call (.Name "list" p) [.Call (.Name "range" p2) [a] [] q] [] pos) (tX F (.blt .listR1 (.cons xa .nil))) := by
  refine ⟨fun pins s σ H Q I h => ?_⟩
  obtain ⟨M0, sa, N, ρ, g, d, g', S, e, q⟩ := h
  rw [ev] at e
  obtain ⟨ds, g1, e1, e⟩ := bnd_some e
  obtain ⟨e2, rfl⟩ := ofO_some e
  obtain ⟨x, e3, rfl⟩ := evs_one e1
  refine (pe_listRg hc hg hm (prg_1 hg2 hm2 ha n1) n2).run pins s σ H Q I ⟨M0, sa, N, ρ, g, x, _, S, e3, fun v H1 r => ?_⟩
  cases x with
  | int n =>
    obtain ⟨l, e4, rfl⟩ := Option.map_eq_some_iff.mp e2
    obtain ⟨ok, rfl, hl⟩ := rngO_some e4
    exact ⟨n, r.vo.top.int, ok, fun p hp => q _ _ (Res.back (.lst (S.ext r.keep r.src) hp (rep_rng _ _ _ _) hl) r.keep r.src)⟩
  | _ => cases e2
/-- tuple(range(..)), the tuple tracked as ours are -/
theorem pe_tupRgF {e : Expr} {te : L2.St → Hp → (Int → Int → Hp → Prop) → Prop} {p pos : Pos} (hc : X.calm = true) (hg : Gl X "tuple") (hm : X.mg "tuple" = none) (he : PRg X e te) (na : starEach [e] X.env = (false, eval e X.env) :: starEach [] X.env := by rfl) :
    PE X (.Call (.Name "tuple" p) [e] [] pos) (fun σ H Q => te σ H fun a b H1 => RgOk a b ∧ ∀ q o, H1 q = none → o.dict = none → Q (.ref q) (upd H1 q (tupO o (rgV a b)))) := by
  refine ⟨fun pins s σ H Q I h => ?_⟩
  refine Call_ (ld_blt I hg hm boot_tuple (PyProof.Rows.callWith_type1 (args_cons (thn (he pins s σ H _ I h) fun x s1 ⟨r, a, b, t, u, v, H1, ex, hr, I1, ok, q⟩ => args_nil ?_) na) na))
  subst ex
  obtain ⟨b1, b2, b3, b4, b5⟩ := ok
  refine call_tuple_range (n := (b - a).toNat) (I1.ok.hd hc) hr (small_one b1 b2 b3 b4) (rangeSize_nat a b) b5 fun h' tk acc hk hi => ?_
  have I2 : Inv X pins σ H1 { s1 with heap := h', toks := tk } := I1.kept hk
  have z : (rgV a b).length ≤ sizeLine := by rw [rgV_length, sizeLine_eq]; omega
  have eo : tupN acc.toList = ({ cls := .type "tuple", data := .seq acc } : Obj) := by unfold tupN; rw [Array.toArray_toList]
  refine ⟨.ref h'.objs.size, upd H1 h'.objs.size (tupO (tupN acc.toList) (rgV a b)), I2.laid (t' := tk) (fun c o e => Heap.get?_push_of_some _ e) (Nat.le_refl _) (objOk_tup z (vals_rg hi) (by rw [eo]; exact Heap.get?_push_size _ rfl)), rfl, q _ _ (I2.hok.fresh (Nat.le_refl _)) rfl⟩
theorem pe_tupR1D {p p2 q : Pos} (hc : X.calm = true) (hg : Gl X "tuple") (hm : X.mg "tuple" = none) (hg2 : Gl X "range") (hm2 : X.mg "range" = none) (ha : PE X a (tX F xa))
    (n1 : starEach [a] X.env = (false, eval a X.env) :: starEach [] X.env) (n2 : starEach [.Call (.Name "range" p2) [a] [] q] X.env = (false, eval (.Call (.Name "range" p2) [a] [] q) X.env) :: starEach [] X.env) :
    PE X (.Call (.Name "tuple" p) [.Call (.Name "range" p2) [a] [] q] [] pos) (tX F (.blt .tupR1 (.cons xa .nil))) := by
  refine ⟨fun pins s σ H Q I h => ?_⟩
  obtain ⟨M0, sa, N, ρ, g, d, g', S, e, q⟩ := h
  rw [ev] at e
  obtain ⟨ds, g1, e1, e⟩ := bnd_some e
  obtain ⟨e2, rfl⟩ := ofO_some e
  obtain ⟨x, e3, rfl⟩ := evs_one e1
  refine (pe_tupRgF hc hg hm (prg_1 hg2 hm2 ha n1) n2).run pins s σ H Q I ⟨M0, sa, N, ρ, g, x, _, S, e3, fun v H1 r => ?_⟩
  cases x with
  | int n =>
    obtain ⟨l, e4, rfl⟩ := Option.map_eq_some_iff.mp e2
    obtain ⟨ok, rfl, hl⟩ := rngO_some e4
    exact ⟨n, r.vo.top.int, ok, fun p o hp ho => q _ _ (Res.back (.tup ho (S.ext r.keep r.src) hp (rep_rng _ _ _ _) hl) r.keep r.src)⟩
  | _ => cases e2
theorem pe_listR2D {p p2 q : Pos} (hc : X.calm = true) (hg : Gl X "list") (hm : X.mg "list" = none) (hg2 : Gl X "range") (hm2 : X.mg "range" = none) (ha : PE X a (tX F xa)) (hb : PE X b (tX F xb))
    (n1 : starEach [a, b] X.env = (false, eval a X.env) :: starEach [b] X.env) (n3 : starEach [b] X.env = (false, eval b X.env) :: starEach [] X.env) (n4 : (backTo q (starEach [b] X.env)).any (·.1) = false) (n2 : starEach [.Call (.Name "range" p2) [a, b] [] q] X.env = (false, eval (.Call (.Name "range" p2) [a, b] [] q) X.env) :: starEach [] X.env) :
    PE X (.Call (.Name "list" p) [.Call (.Name "range" p2) [a, b] [] q] [] pos) (tX F (.blt .listR2 (.cons xa (.cons xb .nil)))) := by
  refine ⟨fun pins s σ H Q I h => ?_⟩
  obtain ⟨M0, sa, N, ρ, g, d, g', S, e, q⟩ := h
  rw [ev] at e
  obtain ⟨ds, g1, e1, e⟩ := bnd_some e
  obtain ⟨e2, rfl⟩ := ofO_some e
  obtain ⟨x, y, g2, e3, e4, rfl⟩ := evs_two e1
  refine (pe_listRg hc hg hm (prg_2 hg2 hm2 ha hb n1 n3 n4) n2).run pins s σ H Q I ⟨M0, sa, N, ρ, g, x, _, S, e3, fun v H1 r => ⟨M0, sa, N, ρ, g2, y, _, S.ext r.keep r.src, e4, fun w H2 r2 => ?_⟩⟩
  cases x with
  | int n =>
    cases y with
    | int m =>
      obtain ⟨l, e5, rfl⟩ := Option.map_eq_some_iff.mp e2
      obtain ⟨ok, rfl, hl⟩ := rngO_some e5
      exact ⟨n, m, r.vo.top.int, r2.vo.top.int, ok, fun p hp => q _ _ (Res.back (.lst ((S.ext r.keep r.src).ext r2.keep r2.src) hp (rep_rng _ _ _ _) hl) (r.keep.trans r2.keep) r2.src)⟩
    | _ => cases e2
  | _ => cases e2

/-! ### x.index(y) -/
def rIndexT (K : PySem.W.Frag) : V → List V → Hp → VK → Prop := fun x xs H Q => ∃ (a : Addr) (y : V) (d : PyData) (ds : List PyData) (j : Nat) (z : PyData), x = V.ref a ∧ xs = [y] ∧ Dp K H (V.ref a) (.tuple ds) ∧ Dp K H y d ∧
  SeqAt.shaped (.tuple ds) = true ∧ SeqAt.shaped d = true ∧ ds[j]? = some z ∧ PyData.eqv z d = true ∧ (∀ (m : Nat) (z' : PyData), m < j → ds[m]? = some z' → PyData.eqv z' d = false) ∧ Q (.int (j : Nat)) H
theorem mt_indexT (hu : X.A.units + 65 < cLine) : MtR X "tuple.index" (rIndexT X.K) := by
  intro pins s σ H x xs v us Q I rx rxs h
  obtain ⟨a, y, d, ds, j, z, rfl, rfl, hl, hy, sl, sd, hz, hzj, hno, q⟩ := h
  cases rx
  obtain ⟨uy, rfl, ry⟩ := vals1 rxs
  obtain ⟨bs, r1⟩ := Dp.reads I d y uy hy ry
  have lay : PyData.canLayAll0 ds = true := SeqAt.canLay_of_shaped sl
  have room : X.A.units + 1 + min (PyData.depthAll ds) d.depth < cLine := room_in_shaped sd hu
  cases hl with
  | tup hs ha =>
    obtain ⟨its, rv, ⟨⟨cls, dd, data, slt⟩, ho, hc, n, hdt⟩, hlen⟩ := I.tuple hs
    simp only at hc hdt
    subst hc hdt
    obtain ⟨as, h4⟩ := Dp.readsAll I ds _ its ha rv
    have hn : its.length = ds.length := SeqAt.ReadsAll.length ds its as h4
    have hmap : its.map (SeqAt.readOf s.heap) = ds := SeqAt.readsAll_map ds its as lay h4
    obtain ⟨hjd, _⟩ := List.getElem?_eq_some_iff.mp hz
    have hjl : j < its.length := by omega
    have hj : j < its.toArray.size := by simpa using hjl
    have look : ∀ (m : Nat) (hm : m < its.toArray.size) (w : PyData), ds[m]? = some w → SeqAt.readOf s.heap its.toArray[m] = w := by
      intro m hm w hw
      have hml : m < its.length := by simpa using hm
      rw [← hmap, List.getElem?_map, List.getElem?_eq_getElem hml] at hw
      have e1 : SeqAt.readOf s.heap its[m] = w := Option.some.inj (show some (SeqAt.readOf s.heap its[m]) = some w from hw)
      simpa using e1
    refine call_meets PySem.F.slot_tuple_index ⟨_, ho, rfl⟩ PySem.F.entry_tuple_index (PySem.F.args_tuple_index_2 _ _)
      (TI.tuple_indexAt a its.toArray n dd slt uy (fun u => PyData.eqv (SeqAt.readOf s.heap u) d) j hj ?_ ?_) ⟨ho, SeqAt.items_eqAt (vs := its.toArray) (show ReadsAll s.heap its.toArray.toList ds as from h4) r1 lay (SeqAt.canLay_of_shaped sd) room, ?_⟩
    · show PyData.eqv (SeqAt.readOf s.heap its.toArray[j]) d = true
      rw [look j hj z hz]
      exact hzj
    · intro m hm hmj
      have hmd : m < ds.length := by omega
      have hw : ds[m]? = some ds[m] := List.getElem?_eq_getElem hmd
      show PyData.eqv (SeqAt.readOf s.heap its.toArray[m]) d = false
      rw [look m hm _ hw]
      exact hno m _ hmj hw
    · exact ⟨.int (j : Nat), H, I.tok _, ⟨_, rfl⟩, q⟩
theorem find_at {ds : List D} {y : D} {j : Nat} (h : (ds.findIdx? fun z => PyData.eqv z y) = some j) : ∃ z, ds[j]? = some z ∧ PyData.eqv z y = true ∧ ∀ (m : Nat) (w : D), m < j → ds[m]? = some w → PyData.eqv w y = false := by
  obtain ⟨hj, h1, h2⟩ := List.findIdx?_eq_some_iff_getElem.mp h
  refine ⟨ds[j], List.getElem?_eq_getElem hj, h1, fun m w hm e => ?_⟩
  obtain ⟨hm2, rfl⟩ := List.getElem?_eq_some_iff.mp e
  exact Bool.eq_false_iff.mpr (h2 m hm)
theorem ifN_some {α : Type} {b : Bool} {x : Option α} {y : α} (h : (if b = true then x else none) = some y) : b = true ∧ x = some y := by
  cases b with
  | false => cases h
  | true => exact ⟨rfl, h⟩
theorem pe_indexD {o : Expr} {xo : Ex} {apos cpos : Pos} (hfz : FZ = true) (hu : X.A.units + 65 < cLine) (ho : PE X o (tX F xo)) (ha : PE X a (tX F xa))
    (hbase : attributeBase o "index" X.env (eval o X.env) = eval o X.env)
    (hfew : ((backTo cpos (starEach [a] X.env)).all (fun x => !x.1) && (backToKw cpos (keywordEach [] X.env)).all (fun x => x.1.isSome) && decide ([a].length + ([] : List Keyword).length + (if ([] : List Keyword).isEmpty then 0 else 1) < 30)) = true)
    (hline : (apos.endLine == cpos.line) = true) (hs : starEach [a] X.env = (false, eval a X.env) :: starEach [] X.env) (hplain : (backTo cpos (starEach [] X.env)).any (·.1) = false) :
    PE X (.Call (.Attribute o "index" apos) [a] [] cpos) (tX F (.meth .index xo (.cons xa .nil))) := by
  refine ⟨fun pins s σ H Q I h => ?_⟩
  obtain ⟨M0, sa, N, ρ, g, d, g', S, e, q⟩ := h
  rw [ev] at e
  obtain ⟨x, g1, e1, e⟩ := bnd_some e
  obtain ⟨ds, g2, e2, e⟩ := bnd_some e
  obtain ⟨e3, rfl⟩ := ofO_some e
  obtain ⟨y, e4, rfl⟩ := evs_one e2
  refine wpAny_Call_method_late hbase hfew hline rfl (thn (ho.run pins s σ H (fun u H1 => Vo sa N ρ σ xo H1 x u ∧ Keep (isS sa) H H1 ∧ SrcOk H1 sa g1) I ⟨M0, sa, N, ρ, g, x, g1, S, e1, fun u H1 r => ⟨r.vo, r.keep, r.src⟩⟩) fun v s1 ⟨z, H1, I1, r1, o1, k1, q1⟩ => ?_)
  have S1 := S.ext k1 q1
  have arg : ∀ {id : String} {rr : V → List V → Hp → VK → Prop}, MtR X id rr → (∀ w H2, Vo sa N ρ σ xo H2 x z → Vo sa N ρ σ xa H2 y w → Keep (isS sa) H H2 → SrcOk H2 sa g' → rr z [w] H2 Q) → wpAny (model X.prog X.w) X.A (callWith cpos (.builtin id) [v] (backTo cpos (starEach [a] X.env)) []) (EP X pins σ Q) X.xe s1 := fun hm hr => by
    have hA := (pa_cons ha pa_nil hs).run cpos pins s1 σ H1 (fun vs H2 => ∃ w, vs = [w] ∧ Vo sa N ρ σ xo H2 x z ∧ Vo sa N ρ σ xa H2 y w ∧ Keep (isS sa) H H2 ∧ SrcOk H2 sa g') I1 ⟨M0, sa, N, ρ, g1, y, g', S1, e4, fun w H2 r => ⟨w, rfl, S1.vo o1 r.keep, r.vo, k1.trans r.keep, r.src⟩⟩
    rw [hs] at hA ⊢
    refine Calls.callWith_builtin (by show (false || (backTo cpos (starEach [] X.env)).any (·.1)) = false; rw [hplain] <;> rfl) (Calls.evalArgs_plain ?_)
    refine thn hA fun us s2 ⟨vs, H2, I2, r2, w, ew, oz, ow, k2, q2⟩ => ?_
    subst ew
    exact hm pins s2 σ H2 z [w] v us Q I2 r1 r2 (hr w H2 oz ow k2 q2)
  cases x with
  | list xs =>
    obtain ⟨c, e5⟩ := ifN_some (show (if SeqAt.shaped y && SeqAt.shaped (.list xs) then (xs.findIdx? fun z => PyData.eqv z y).map fun j => .int (j : Nat) else none) = some d from e3)
    obtain ⟨s1', s2'⟩ := Bool.and_eq_true_iff.mp c
    obtain ⟨j, e6, rfl⟩ := Option.map_eq_some_iff.mp e5
    obtain ⟨w, hw1, hw2, hw3⟩ := find_at e6
    obtain ⟨hl, p, ws, rfl, hp, rp⟩ := o1.top
    cases r1
    obtain ⟨its, rv, pl, hz⟩ := I1.list (SqL.of (K := X.K) hp)
    refine ⟨"list", "list.index", PySem.F.plainAttrs_list, PySem.F.slot_list_index, PySem.F.type_list_index, pl.isList.typeIs, fun b e => ?_, arg (mt_indexD hu) fun w' H2 oz ow k2 q2 => ?_⟩
    · cases e
      obtain ⟨ob, n, e, c, hd, _⟩ := pl
      exact ⟨ob, e, hd⟩
    · obtain ⟨_, p', ws', ep, hp', rp'⟩ := oz.top
      cases ep
      exact ⟨p, w', y, xs, j, w, rfl, rfl, oz.top.dp (SeqAt.canLay_of_shaped s2'), ow.top.dp (SeqAt.canLay_of_shaped s1'), s2', s1', hw1, hw2, hw3, q _ H2 (Res.back (.int (S.ext k2 q2) _) k2 q2)⟩
  | tuple xs =>
    obtain ⟨c, e5⟩ := ifN_some (show (if SeqAt.shaped y && SeqAt.shaped (.tuple xs) then (xs.findIdx? fun z => PyData.eqv z y).map fun j => .int (j : Nat) else none) = some d from e3)
    obtain ⟨s1', s2'⟩ := Bool.and_eq_true_iff.mp c
    obtain ⟨j, e6, rfl⟩ := Option.map_eq_some_iff.mp e5
    obtain ⟨w, hw1, hw2, hw3⟩ := find_at e6
    obtain ⟨hl, p, ws, rfl, hn, hp, rp⟩ := o1.top.tup
    cases r1
    obtain ⟨its, rv, pl, hz⟩ := I1.tuple (hp.sq (K := X.K))
    have hdict : ∀ b, Value.ref p = .ref b → ∃ ob, s1.heap.get? b = some ob ∧ ob.dict = none := fun b e => by
      cases e
      exact hp.plain hfz I1
    refine ⟨"tuple", "tuple.index", PySem.F.plainAttrs_tuple, PySem.F.slot_tuple_index, PySem.F.type_tuple_index, pl.typeIs, hdict, arg (mt_indexT hu) fun w' H2 oz ow k2 q2 => ?_⟩
    obtain ⟨_, p', ws', ep, _, hp', rp'⟩ := oz.top.tup
    cases ep
    exact ⟨p, w', y, xs, j, w, rfl, rfl, oz.top.dp (SeqAt.canLay_of_shaped s2'), ow.top.dp (SeqAt.canLay_of_shaped s1'), s2', s1', hw1, hw2, hw3, q _ H2 (Res.back (.int (S.ext k2 q2) _) k2 q2)⟩
  | _ => cases e3
end
end DT

/-! How many keys a list of pairs has: len(dict(..)). -/
namespace DT
open PySem L2 PyProof.Rows
section
variable {X : Cx} {pins : List (Addr × Obj)} {s : Shared} {N : Ms} {H : Hp} {τ : L2.St}
/-- what a list of pairs stands for, in the machine's heap -/
theorem pair_items (I : Inv X pins τ H s) : ∀ {xs : List D} {vs : List V} {us : List Value} {ks : List D}, pairKs xs = some ks → keysOk ks = true → RepL N H xs vs → Vals vs us →
    ∃ (ps : List (Value × Value)) (Ts : List Addr), ps.length = ks.length ∧ us = Ts.map Value.ref ∧ Ts.length = ps.length ∧ (∀ (j : Nat) (T : Addr) (k v : Value), Ts[j]? = some T → ps[j]? = some (k, v) → s.heap.IsTuple T #[k, v]) ∧
      (∀ (j : Nat) (p : Value × Value), ps[j]? = some p → ∃ d, ks[j]? = some d ∧ keyOk d = true ∧ NestedIs s.heap (toKey d) p.1 ∧ ∃ v, Rep N H d v ∧ RelV v p.1)
  | [], _, _, _, e, _, h, r => by
    rw [RepL] at h
    subst h
    cases r
    obtain rfl := Option.some.inj e
    exact ⟨[], [], rfl, rfl, rfl, fun j T k v h => by simp at h, fun j p h => by simp at h⟩
  | x :: xs, _, _, ks, e, ko, h, r => by
    rw [RepL] at h
    obtain ⟨v, t, rfl, h1, h2⟩ := h
    cases r with
    | cons r1 r2 =>
      unfold pairKs at e
      split at e
      · rename_i heq
        cases heq
      · rename_i k0 v0 rest heq
        cases heq
        obtain ⟨ks', e1, rfl⟩ := Option.map_eq_some_iff.mp e
        have ko' : keyOk k0 = true ∧ keysOk ks' = true := by simpa only [keysOk, Bool.and_eq_true] using ko
        obtain ⟨ps, Ts, l1, rfl, l2, hp, hk⟩ := pair_items I e1 ko'.2 h2 r2
        rw [Rep] at h1
        obtain ⟨_, a, ws, rfl, _, ht, hl⟩ := h1
        cases r1
        obtain ⟨its, rv, pl, _⟩ := I.tuple (ht.sq (K := X.K))
        rw [RepL] at hl
        obtain ⟨vk, r', rfl, hk1, hl⟩ := hl
        rw [RepL] at hl
        obtain ⟨vv, r', rfl, hv1, hl⟩ := hl
        rw [RepL] at hl
        subst hl
        obtain ⟨u1, u2, rfl, q1, q2⟩ := vals2 rv
        refine ⟨(u1, u2) :: ps, a :: Ts, by rw [List.length_cons, List.length_cons, l1], rfl, by rw [List.length_cons, List.length_cons, l2], fun j T k v hT hp' => ?_, fun j p hp' => ?_⟩
        · cases j with
          | zero =>
            obtain rfl := Option.some.inj (show some a = some T from hT)
            have z := Option.some.inj (show some (u1, u2) = some (k, v) from hp')
            cases z
            exact pl
          | succ j => exact hp j T k v (by simpa using hT) (by simpa using hp')
        · cases j with
          | zero =>
            obtain rfl := Option.some.inj (show some (u1, u2) = some p from hp')
            exact ⟨k0, rfl, ko'.1, rep_key I k0 vk u1 ko'.1 hk1 q1, vk, hk1, q1⟩
          | succ j =>
            obtain ⟨d, e1, e2⟩ := hk j p (by simpa using hp')
            exact ⟨d, by simpa using e1, e2⟩
      · cases e
end
/-! ### the keys of the dict that is made -/
section
variable {K : Type} [DecidableEq K]
theorem atKey_keys (xs : List (K × Addr × Value)) (k : K) : (atKey xs k).isSome = decide (k ∈ xs.map (·.1)) := by
  unfold atKey
  rw [Option.isSome_map]
  induction xs with
  | nil => rfl
  | cons x r ih =>
    rw [List.find?_cons, List.map_cons]
    by_cases h : x.1 = k
    · rw [decide_eq_true h]
      symm
      exact decide_eq_true (by rw [← h]; exact List.mem_cons_self)
    · rw [decide_eq_false h]
      rw [ih]
      refine decide_eq_decide.mpr ⟨fun z => List.mem_cons_of_mem _ z, fun z => ?_⟩
      rcases List.mem_cons.mp z with z | z
      · exact absurd z.symm h
      · exact z
theorem storedH_keys (xs : List (K × Addr × Value)) (k : K) (a : Addr) (v : Value) : (storedH xs k a v).map (·.1) = if k ∈ xs.map (·.1) then xs.map (·.1) else xs.map (·.1) ++ [k] := by
  unfold storedH
  by_cases h : k ∈ xs.map (·.1)
  · rw [if_pos (by rw [atKey_keys]; exact decide_eq_true h), if_pos h, keys_map_putAt]
  · rw [if_neg (by rw [atKey_keys, decide_eq_false h]; exact Bool.false_ne_true), if_neg h, List.map_append]
    rfl
theorem storedAllH_ded : ∀ (ps xs : List (K × Addr × Value)), (storedAllH xs ps).map (·.1) = (ps.map (·.1)).foldl (fun acc k => if k ∈ acc then acc else acc ++ [k]) (xs.map (·.1))
  | [], _ => rfl
  | p :: ps, xs => by
    show (storedAllH (storedH xs p.1 p.2.1 p.2.2) ps).map (·.1) = _
    rw [storedAllH_ded ps, storedH_keys]
    rfl
theorem stored_keys (xs : List (K × Value)) (k : K) (v : Value) : (stored xs k v).map (·.1) = if k ∈ xs.map (·.1) then xs.map (·.1) else xs.map (·.1) ++ [k] := by
  unfold stored
  by_cases h : k ∈ xs.map (·.1)
  · have e : (xs.any fun kv => decide (kv.1 = k)) = true := by
      obtain ⟨x, hx, e⟩ := List.mem_map.mp h
      exact List.any_eq_true.mpr ⟨x, hx, decide_eq_true e⟩
    rw [if_pos e, if_pos h, List.map_map]
    refine List.map_congr_left fun x _ => ?_
    show (if x.1 = k then (x.1, v) else x).1 = x.1
    split <;> rfl
  · have e : (xs.any fun kv => decide (kv.1 = k)) = false := by
      refine List.any_eq_false.mpr fun x hx z => h (List.mem_map.mpr ⟨x, hx, of_decide_eq_true z⟩)
    rw [if_neg (by rw [e]; exact Bool.false_ne_true), if_neg h, List.map_append]
    rfl
theorem merged_ded : ∀ (ps xs : List (K × Value)), (merged xs ps).map (·.1) = (ps.map (·.1)).foldl (fun acc k => if k ∈ acc then acc else acc ++ [k]) (xs.map (·.1))
  | [], _ => rfl
  | p :: ps, xs => by
    show (merged (stored xs p.1 p.2) ps).map (·.1) = _
    rw [merged_ded ps, stored_keys]
    rfl
theorem ded_inj {α β : Type} [DecidableEq α] [DecidableEq β] (f : α → β) (hf : ∀ x y, f x = f y → x = y) : ∀ (ks acc : List α), ((ks.map f).foldl (fun acc k => if k ∈ acc then acc else acc ++ [k]) (acc.map f)) = (ks.foldl (fun acc k => if k ∈ acc then acc else acc ++ [k]) acc).map f
  | [], _ => rfl
  | k :: ks, acc => by
    rw [List.map_cons, List.foldl_cons, List.foldl_cons, ← ded_inj f hf ks]
    congr 1
    by_cases h : k ∈ acc
    · rw [if_pos h, if_pos (List.mem_map_of_mem h)]
    · rw [if_neg h, if_neg (fun z => by
        obtain ⟨x, hx, e⟩ := List.mem_map.mp z
        exact h (hf _ _ e ▸ hx)), List.map_append]
      rfl
end

section
variable {prog : Program} {w : World} {A : Around} {E : Value → Shared → Prop} {s : Shared} {a : Addr} {items : Array Value} {ps : List (Value × Value)} {Ts : List Addr} {ks : List NestedKey} {Q : Value → Shared → Prop}
theorem items_ok (hi : items.toList = Ts.map Value.ref) (hl : Ts.length = ps.length) (hp : ∀ (j : Nat) (T : Addr) (k v : Value), Ts[j]? = some T → ps[j]? = some (k, v) → s.heap.IsTuple T #[k, v]) : PairItems s.heap items (fun j => Ts.getD j 0) ps := by
  refine ⟨by rw [← Array.length_toList, hi, List.length_map, hl], fun j k v hj => ?_⟩
  have hj' : j < Ts.length := by rw [hl]; exact (List.getElem?_eq_some_iff.mp hj).1
  have e : Ts[j]? = some Ts[j] := List.getElem?_eq_getElem hj'
  have e2 : Ts.getD j 0 = Ts[j] := by rw [List.getD_eq_getElem?_getD, e]; rfl
  refine ⟨?_, ?_⟩
  · rw [← Array.getElem?_toList, hi, List.getElem?_map, e]
    show _ = some (Value.ref (Ts.getD j 0))
    rw [e2]
    rfl
  · show PairAt s.heap (Ts.getD j 0) k v
    rw [e2]
    exact .inl (hp j _ k v e hj)
/-- dict(xs), keys tuples -/
theorem dict_tups (hh : A.handled = none) (hu : A.units + 10 < cLine) (hs : PlainSeq "list" s.heap a items) (hi : PairItems s.heap items (fun j => Ts.getD j 0) ps) (hk : ∀ (j : Nat) (p : Value × Value), ps[j]? = some p → ∃ k b, ks[j]? = some k ∧ p.1 = .ref b ∧ NestedIs s.heap k p.1 ∧ k.depth ≤ 8)
    (hl : ps.length = ks.length) (hz : ps.length ≤ sizeLine) (h : ∀ h' tk xs, h'.DictOfH (nestedKind prog w) s.heap.objs.size xs → xs.map (·.1) = dedK ks → (∀ b o, s.heap.get? b = some o → h'.get? b = some o) → Q (.ref s.heap.objs.size) { s with heap := h', toks := tk }) :
    wpAny (model prog w) A (call (.type "dict") [.ref a]) Q E s := by
  let ps3 : List (NestedKey × Addr × Value) := (ks.zip ps).map fun q => (q.1, (match q.2.1 with | .ref b => b | _ => 0), q.2.2)
  have hz3 : ∀ (j : Nat) (k : NestedKey) (p : Value × Value), ks[j]? = some k → ps[j]? = some p → ps3[j]? = some (k, (match p.1 with | .ref b => b | _ => 0), p.2) := fun j k p h1 h2 => by
    show ((ks.zip ps).map _)[j]? = _
    rw [List.getElem?_map, (List.getElem?_zip_eq_some (z := (k, p))).mpr ⟨h1, h2⟩]
    rfl
  refine call_dict_pairsH (knd := nestedKind prog w) (ps := ps3) (PairArg.list a items (fun j => Ts.getD j 0) ps) hh (by show A.units + 1 + 1 + 8 < cLine; omega) ⟨hs, hi⟩ ⟨?_, ?_⟩ ?_ hz ?_
  · show ((ks.zip ps).map _).length = _
    rw [List.length_map, List.length_zip, hl, Nat.min_self]
  · intro i key v hr
    obtain ⟨k, b, e1, e2, e3, e4⟩ := hk i (key, v) hr
    have e2' : key = .ref b := e2
    subst e2'
    exact ⟨k, b, hz3 i k _ e1 hr, rfl⟩
  · intro h' keep x hx
    obtain ⟨q, hq, rfl⟩ := List.mem_map.mp hx
    obtain ⟨j, hj⟩ := List.getElem?_of_mem hq
    obtain ⟨h1, h2⟩ := List.getElem?_zip_eq_some.mp hj
    obtain ⟨k, b, e1, e2, e3, e4⟩ := hk j q.2 h2
    obtain rfl := Option.some.inj (h1.symm.trans e1)
    rw [e2]
    refine ⟨?_, e4⟩
    rw [e2] at e3
    exact NestedIs.at (fun c o vs n hc _ => keep c o (Nat.ne_of_lt (Heap.lt_size hc)) (fun z => by cases z) hc) _ _ e3
  · intro h' tk hd hkp
    refine h h' tk _ hd ?_ fun b o e => hkp b o (fun z => by cases z) e
    rw [storedAllH_ded]
    show (((ks.zip ps).map _).map _).foldl _ [] = _
    rw [List.map_map]
    have : (ks.zip ps).map ((fun x : NestedKey × Addr × Value => x.1) ∘ fun q => (q.1, (match q.2.1 with | .ref b => b | _ => 0), q.2.2)) = ks := by
      show (ks.zip ps).map (fun q => q.1) = ks
      exact List.map_fst_zip (by omega)
    rw [this]
    rfl
/-- dict(xs), keys whole numbers -/
theorem dict_nums {is : List Int} (hh : A.handled = none) (hs : PlainSeq "list" s.heap a items) (hi : PairItems s.heap items (fun j => Ts.getD j 0) ps) (hk : ∀ (j : Nat) (p : Value × Value), ps[j]? = some p → ∃ i t, is[j]? = some i ∧ p.1 = .int i t)
    (hl : ps.length = is.length) (hz : ps.length ≤ sizeLine) (h : ∀ h' tk xs, h'.DictOf (mixKind prog w) s.heap.objs.size xs → xs.map (·.1) = (dedK is).map Sum.inl → (∀ b o, s.heap.get? b = some o → h'.get? b = some o) → Q (.ref s.heap.objs.size) { s with heap := h', toks := tk }) :
    wpAny (model prog w) A (call (.type "dict") [.ref a]) Q E s := by
  let ps3 : List (Key × Value) := (is.zip ps).map fun q => (Sum.inl q.1, q.2.2)
  have hz3 : ∀ (j : Nat) (k : Int) (p : Value × Value), is[j]? = some k → ps[j]? = some p → ps3[j]? = some (Sum.inl k, p.2) := fun j k p h1 h2 => by
    show ((is.zip ps).map _)[j]? = _
    rw [List.getElem?_map, (List.getElem?_zip_eq_some (z := (k, p))).mpr ⟨h1, h2⟩]
    rfl
  refine PySem.call_dict_pairs (knd := mixKind prog w) (kvs := ps3) (PairArg.list a items (fun j => Ts.getD j 0) ps) hh ⟨hs, hi⟩ ⟨?_, ?_⟩ hz ?_
  · show ((is.zip ps).map _).length = _
    rw [List.length_map, List.length_zip, hl, Nat.min_self]
  · intro i key v hr
    obtain ⟨k, t, e1, e2⟩ := hk i (key, v) hr
    have e2' : key = .int k t := e2
    subst e2'
    exact ⟨_, hz3 i k _ e1 hr, keyIs_int k t⟩
  · intro h' tk hd hkp
    refine h h' tk _ hd ?_ fun b o e => hkp b o (fun z => by cases z) e
    rw [merged_ded]
    show (((is.zip ps).map _).map _).foldl _ [] = _
    rw [List.map_map]
    have : (is.zip ps).map ((fun x : Key × Value => x.1) ∘ fun q => (Sum.inl q.1, q.2.2)) = is.map Sum.inl := by
      show (is.zip ps).map (Sum.inl ∘ fun q => q.1) = _
      rw [← List.map_map, List.map_fst_zip (by omega)]
    rw [this]
    exact ded_inj (α := Int) (β := Key) Sum.inl (fun x y e => Sum.inl.inj e) is []
end
theorem toKeys_len : ∀ ds : List D, (toKeys ds).length = ds.length
  | [] => rfl
  | d :: r => by rw [toKeys, List.length_cons, List.length_cons, toKeys_len r]
theorem toKeys_get : ∀ {ds : List D} {j : Nat} {d : D}, ds[j]? = some d → (toKeys ds)[j]? = some (toKey d)
  | [], _, _, h => by simp at h
  | d :: r, 0, e, h => by
    obtain rfl := Option.some.inj (show some d = some e from h)
    rfl
  | d :: r, j + 1, e, h => by
    rw [toKeys, List.getElem?_cons_succ]
    exact toKeys_get (by simpa using h)
theorem keysOk_mem : ∀ {ds : List D}, keysOk ds = true → ∀ {d : D}, d ∈ ds → keyOk d = true
  | [], _, _, h => by cases h
  | e :: r, c, d, h => by
    have c' : keyOk e = true ∧ keysOk r = true := by simpa only [keysOk, Bool.and_eq_true] using c
    rcases List.mem_cons.mp h with z | z
    · rw [z]
      exact c'.1
    · exact keysOk_mem c'.2 z
theorem dedK_le {α : Type} [DecidableEq α] (ks : List α) : (dedK ks).length ≤ ks.length := by
  have : ∀ (ks acc : List α), (ks.foldl (fun acc k => if k ∈ acc then acc else acc ++ [k]) acc).length ≤ acc.length + ks.length := by
    intro ks
    induction ks with
    | nil => intro acc; simp
    | cons k r ih =>
      intro acc
      rw [List.foldl_cons]
      refine Nat.le_trans (ih _) ?_
      split
      · simp only [List.length_cons]; omega
      · simp only [List.length_cons, List.length_append, List.length_nil]; omega
  have := this ks []
  simpa [dedK] using this
theorem toKeys_nums : ∀ {ds : List D}, ds.all isInt = true → ∃ is : List Int, ds = is.map PyData.int ∧ toKeys ds = is.map NestedKey.num
  | [], _ => ⟨[], rfl, rfl⟩
  | d :: r, h => by
    rw [List.all_cons, Bool.and_eq_true] at h
    obtain ⟨is, rfl, e⟩ := toKeys_nums h.2
    cases d with
    | int i => exact ⟨i :: is, rfl, by rw [toKeys, e]; rfl⟩
    | _ => cases h.1
section
variable {X : Cx} {F : List Fn} {a : Expr} {xa : Ex}
theorem pe_lenDictD {p p2 q pos : Pos} (hc : X.calm = true) (hu : X.A.units + 65 < cLine) (hg : Gl X "len") (hm : X.mg "len" = none) (hg2 : Gl X "dict") (hm2 : X.mg "dict" = none) (ha : PE X a (tX F xa))
    (na : starEach [a] X.env = (false, eval a X.env) :: starEach [] X.env) : PE X (.Call (.Name "len" p) [.Call (.Name "dict" p2) [a] [] q] [] pos) (tX F (.blt .lenDict (.cons xa .nil))) := by
  refine ⟨fun pins s σ H Q I h => ?_⟩
  obtain ⟨M0, sa, N, ρ, g, d, g', S, e, q⟩ := h
  rw [ev] at e
  obtain ⟨ds, g1, e1, e⟩ := bnd_some e
  obtain ⟨e2, rfl⟩ := ofO_some e
  obtain ⟨x, e3, rfl⟩ := evs_one e1
  refine Call_ (ld_blt I hg hm PySem.boot_len ?_)
  refine PyProof.Rows.callWith_builtin1 (PyProof.Rows.args_cons ?_ rfl) rfl rfl
  refine Call_ (ld_blt I hg2 hm2 boot_dict ?_)
  refine PyProof.Rows.callWith_type1 (PyProof.Rows.args_cons (thn (ha.run pins s σ H (fun v H1 => Res sa N ρ σ xa H _ x v H1) I ⟨M0, sa, N, ρ, g, x, _, S, e3, fun v H1 r => r⟩) fun v s1 ⟨y, H1, I1, r1, res⟩ => PyProof.Rows.args_nil ?_) na) na rfl
  cases x with
  | list xs =>
    cases hks : pairKs xs with
    | none =>
      exfalso
      simp only [bltO, hks] at e2
      cases e2
    | some ks =>
      have e2' : (if (keysOk ks && (ks.all isInt || ks.all fun k => isTup k && decide ((toKey k).depth ≤ 8))) = true then some (PyData.int (dedK (toKeys ks)).length) else none) = some d := by
        simpa only [bltO, hks] using e2
      obtain ⟨c, rfl⟩ := if_some e2'
      obtain ⟨c1, c2⟩ := Bool.and_eq_true_iff.mp c
      obtain ⟨hl, l, vs, rfl, hL, rL⟩ := res.vo.top
      cases r1
      obtain ⟨its, rv, pl, hz⟩ := I1.list (SqL.of (K := X.K) hL)
      have lenv := rv.length
      have lenr := rL.length
      obtain ⟨ps, Ts, l1, rfl, l2, hp, hk⟩ := pair_items I1 hks c1 rL rv
      obtain ⟨o, n, ho, hcl, hd0, hdat⟩ := pl
      have hitems : ((Ts.map Value.ref).toArray).toList = Ts.map Value.ref := by simp
      have big : (s1.heap.objs.size == sysModules) = false := beq_eq_false_iff_ne.mpr (Nat.ne_of_gt I1.big)
      have hps : ps.length ≤ sizeLine := by
        rw [← l2]
        have : (Ts.map Value.ref).length = Ts.length := List.length_map _
        omega
      have dl := dedK_le (toKeys ks)
      have tl := toKeys_len ks
      have hsl := sizeLine_eq
      have io : PairItems s1.heap ((Ts.map Value.ref).toArray) (fun j => Ts.getD j 0) ps := items_ok hitems l2 hp
      have plain : PlainSeq "list" s1.heap l ((Ts.map Value.ref).toArray) := ⟨o, n, ho, hcl, hd0, hdat⟩
      rcases Bool.or_eq_true_iff.mp c2 with c2 | c2
      · obtain ⟨is, rfl, ek⟩ := toKeys_nums c2
        refine dict_nums (is := is) (I1.ok.hd hc) plain io (fun j p hj => ?_) (by rw [l1, List.length_map]) hps fun h' tk xs hd' hx hkp => ?_
        · obtain ⟨d, e1, e2, e3, e4⟩ := hk j p hj
          rw [List.getElem?_map] at e1
          obtain ⟨i, ei, rfl⟩ := Option.map_eq_some_iff.mp e1
          refine ⟨i, ?_⟩
          obtain ⟨v, rv, ru⟩ := e4
          rw [Rep] at rv
          subst rv
          obtain ⟨t, et⟩ := ru
          exact ⟨t, ei, et⟩
        · have I2 : Inv X pins σ H1 { s1 with heap := h', toks := tk } := I1.kept hkp
          have hxl : xs.length = (dedK is).length := by
            have := congrArg List.length hx
            simpa using this
          have di := dedK_le is
          have e5 : dedK (toKeys (is.map PyData.int)) = (dedK is).map NestedKey.num := by
            rw [ek]
            exact ded_inj NestedKey.num (fun x y e => by injection e) is []
          rw [List.length_map] at tl l1
          refine PyProof.Rows.args_nil ?_
          refine call_len_dict big hd' (by omega) ⟨.int xs.length, H1, I2.tok _, ⟨_, rfl⟩, ?_⟩
          have e6 : (dedK (toKeys (is.map PyData.int))).length = xs.length := by rw [e5, List.length_map, hxl]
          rw [← e6]
          exact q _ _ (Res.back (.int (S.ext res.keep res.src) _) res.keep res.src)
      · refine dict_tups (ks := toKeys ks) (I1.ok.hd hc) (by omega) plain io (fun j p hj => ?_) (by rw [l1, tl]) hps fun h' tk xs hd' hx hkp => ?_
        · obtain ⟨d, e1, e2, e3, _⟩ := hk j p hj
          have ht := List.all_eq_true.mp c2 d (List.mem_of_getElem? e1)
          obtain ⟨t1, t2⟩ := Bool.and_eq_true_iff.mp ht
          have b : ∃ b, p.1 = .ref b := by
            cases d with
            | tuple ds =>
              have e3' : NestedIs s1.heap (.tup (toKeys ds)) p.1 := e3
              generalize p.1 = u at e3'
              cases e3' with
              | tup h1 h2 h3 h4 => exact ⟨_, rfl⟩
            | _ => cases t1
          obtain ⟨b, eb⟩ := b
          exact ⟨_, b, toKeys_get e1, eb, e3, of_decide_eq_true t2⟩
        · have I2 : Inv X pins σ H1 { s1 with heap := h', toks := tk } := I1.kept hkp
          have hxl : xs.length = (dedK (toKeys ks)).length := by rw [← hx, List.length_map]
          refine PyProof.Rows.args_nil ?_
          refine call_len_dictH big hd' (by omega) ⟨.int xs.length, H1, I2.tok _, ⟨_, rfl⟩, ?_⟩
          rw [hxl]
          exact q _ _ (Res.back (.int (S.ext res.keep res.src) _) res.keep res.src)
  | _ => cases e2
end
end DT

/-! d.get(k, x). -/
namespace DT
open PySem L2 PyProof.Rows
section
variable {X : Cx} {pins : List (Addr × Obj)} {s : Shared} {N N' : Ms} {H : Hp} {τ : L2.St} {a : Addr} {kvs : List (D × D)} {ks vs : List V}
theorem dict_get2 {k : D} {y z : V} {u r : Value} {Q : Value → Shared → Prop} {E : Value → Shared → Prop} (hu : X.A.units + 65 < cLine) (I : Inv X pins τ H s) (h : DAt H a (toKeys (kvs.map (·.1))) ks vs) (rK : RepK N H kvs ks vs) (ok : dOk kvs k = true) (rk : Rep N' H k y) (ry : RelV y u) (rz : RelV z r)
    (q1 : ∀ d v w s', dGet kvs k = some d → Inv X pins τ H s' → RelV v w → Rep N H d v → Q w s') (q2 : ∀ s', dGet kvs k = none → Inv X pins τ H s' → Q r s') : wpAny (model X.prog X.w) X.A (PySem.call (.builtin "dict.get") [.ref a, u, r]) Q E s := by
  have tT := dict_type I h
  rcases dOk_two ok with ⟨k1, k2⟩ | ⟨k1, k2⟩
  · obtain ⟨b, rfl, rfl⟩ := tup_ref k1 rk ry
    obtain ⟨xs, dd, x1, x2, x3, x4, x5⟩ := dict_raw I h rK k2
    refine call_meetsIn PySem.F.slot_dict_get tT PySem.F.entry_dict_get (PySem.F.args_dict_get_3 _ _ _) (meetsH_dict_get_default (nestedKind X.prog X.w) a b x5 r) ⟨(by show X.A.units + 1 + 8 < cLine; omega), toKey k, xs, tup_is I k1 rk, dd, ?_⟩
    rcases dGet_at (k := k) rK x1 x3 with ⟨z1, z2⟩ | ⟨d', v, p, z1, z2, z3, z4⟩
    · rw [z2]
      exact q2 _ z1 (I.tok _)
    · rw [z2]
      exact q1 d' v p.2 _ z1 (I.tok _) z3 z4
  · obtain ⟨ws, dd, x1, x2, x3, x4⟩ := dict_rawI I h k2
    refine call_meetsIn PySem.F.slot_dict_get tT PySem.F.entry_dict_get (PySem.F.args_dict_get_3 _ _ _) (meets_dict_get_default (mixKind X.prog X.w) a (int_key k1 rk ry) x4 r) ⟨_, dd.mapOf, ?_⟩
    rcases dGet_atI k1 k2 rK x1 x2 with ⟨z1, z2⟩ | ⟨d', v, w, z1, z2, z3, z4⟩
    · rw [z2]
      exact q2 _ z1 (I.tok _)
    · rw [z2]
      exact q1 d' v w _ z1 (I.tok _) z3 z4
theorem dict_plain (I : Inv X pins τ H s) {nk : List NestedKey} (h : DAt H a nk ks vs) : ∀ b, Value.ref a = .ref b → ∃ ob, s.heap.get? b = some ob ∧ ob.dict = none := fun b e => by
  cases e
  rcases h with ⟨l, e, _⟩ | ⟨l, e, _⟩
  · obtain ⟨_, _, _, _, o, es, ep, h1, h2, _⟩ := I.hok a _ e
    exact ⟨o, h1, h2.2.1⟩
  · obtain ⟨⟨_, _, o, es, ep, xs, h1, h2, _⟩, _⟩ := I.hok a _ e
    exact ⟨o, h1, h2.2.1⟩
end
section
variable {X : Cx} {F : List Fn} {o a b : Expr} {xo xa xb : Ex} {apos cpos : Pos}
theorem pe_getD (hu : X.A.units + 65 < cLine) (ho : PE X o (tX F xo)) (ha : PE X a (tX F xa)) (hb : PE X b (tX F xb))
    (hbase : attributeBase o "get" X.env (eval o X.env) = eval o X.env)
    (hfew : ((backTo cpos (starEach [a, b] X.env)).all (fun x => !x.1) && (backToKw cpos (keywordEach [] X.env)).all (fun x => x.1.isSome) && decide ([a, b].length + ([] : List Keyword).length + (if ([] : List Keyword).isEmpty then 0 else 1) < 30)) = true)
    (hline : (apos.endLine == cpos.line) = true) (hs : backTo cpos (starEach [a, b] X.env) = [(false, eval a X.env), (false, eval b X.env)]) :
    PE X (.Call (.Attribute o "get" apos) [a, b] [] cpos) (tX F (.meth .get xo (.cons xa (.cons xb .nil)))) := by
  refine ⟨fun pins s σ H Q I h => ?_⟩
  obtain ⟨M0, sa, N, ρ, g, d, g', S, e, q⟩ := h
  rw [ev] at e
  obtain ⟨x, g1, e1, e⟩ := bnd_some e
  obtain ⟨ds, g2, e2, e⟩ := bnd_some e
  obtain ⟨e3, rfl⟩ := ofO_some e
  obtain ⟨y, z, g3, e4, e5, rfl⟩ := evs_two e2
  have hx : ∃ kvs, x = .dict kvs ∧ dOk kvs y = true ∧ d = (dGet kvs y).getD z := by
    cases x with
    | dict kvs =>
      obtain ⟨c, rfl⟩ := if_some (show (if dOk kvs y = true then some ((dGet kvs y).getD z) else none) = some d from e3)
      exact ⟨kvs, rfl, c, rfl⟩
    | _ => cases e3
  obtain ⟨kvs, rfl, ok, rfl⟩ := hx
  refine wpAny_Call_method hbase hfew hline PySem.F.plainAttrs_dict PySem.F.slot_dict_get PySem.F.type_dict_get (thn (ho.run pins s σ H (fun u H1 => Vo sa N ρ σ xo H1 (.dict kvs) u ∧ Keep (isS sa) H H1 ∧ SrcOk H1 sa g1) I ⟨M0, sa, N, ρ, g, _, g1, S, e1, fun u H1 r => ⟨r.vo, r.keep, r.src⟩⟩) fun v s1 ⟨w, H1, I1, r1, o1, k1, q1⟩ => ?_)
  have S1 := S.ext k1 q1
  obtain ⟨_, p, _, _, rfl, hA1, _⟩ := id o1.top
  cases r1
  refine ⟨dict_type I1 hA1, dict_plain I1 hA1, ?_⟩
  rw [hs]
  refine Calls.callWith_builtin rfl (Calls.evalArgs_plain (Calls.spliced_cons (thn (ha.run pins s1 σ H1 (fun u H2 => Vo sa N ρ σ xa H2 y u ∧ Keep (isS sa) H1 H2 ∧ SrcOk H2 sa g3) I1 ⟨M0, sa, N, ρ, g1, y, g3, S1, e4, fun u H2 r => ⟨r.vo, r.keep, r.src⟩⟩) fun iv s2 ⟨y', H2, I2, ry, o2, k2, q2⟩ =>
    Calls.spliced_cons (thn (hb.run pins s2 σ H2 (fun u H3 => Vo sa N ρ σ xb H3 z u ∧ Keep (isS sa) H2 H3 ∧ SrcOk H3 sa g') I2 ⟨M0, sa, N, ρ, g3, z, g', S1.ext k2 q2, e5, fun u H3 r => ⟨r.vo, r.keep, r.src⟩⟩) fun fv s3 ⟨z', H3, I3, rz, o3, k3, q3⟩ => Calls.spliced_nil ?_))))
  have S3 := (S1.ext k2 q2).ext k3 q3
  have oD := S3.vo (S1.vo o1 k2) k3
  have oK := (S1.ext k2 q2).vo o2 k3
  obtain ⟨_, p', ks, vs, ep, hA, rK⟩ := id oD.top
  cases ep
  refine dict_get2 hu I3 hA rK ok oK.rep ry rz (fun d v w s' ed I' rv rd => ?_) fun s' ed I' => ?_
  · rw [ed] at q
    exact ⟨v, H3, I', rv, q v H3 (Res.back (.same S3 (.item S3 rd (fun i hi => List.mem_append_left _ hi) fun i hi => List.mem_append_left _ hi) rfl) ((k1.trans k2).trans k3) q3)⟩
  · rw [ed] at q
    refine ⟨z', H3, I', rz, q z' H3 (Res.back (.same S3 ⟨o3.top.anti fun c hc => less_mono (fun i hi => ?_) hc, fun m c ec hc => ?_, o3.nos⟩ rfl) ((k1.trans k2).trans k3) q3)⟩
    · refine List.mem_append_right _ (List.mem_append_right _ (List.mem_append_left _ (List.mem_append_left _ hi)))
    · obtain ⟨i, hi, ow⟩ := o3.al m c ec hc
      exact ⟨i, List.mem_append_right _ (List.mem_append_right _ (List.mem_append_left _ (List.mem_append_right _ hi))), ow⟩
end
end DT

/-! {}, displays with stars, sorted by size, sets. -/
namespace DT
open PySem L2 PyProof.Rows
section
variable {X : Cx} {F : List Fn} {M0 N : Ms} {sa : Addr × Addr} {H H1 : Hp} {σ τ : L2.St} {ρ : Rho} {g g1 g2 : PState} {a b : Expr} {es : List Expr} {xa xb : Ex} {xr : Exs} {x y : D} {pos : Pos} {v : V} {p : Addr} {pins : List (Addr × Obj)} {s : Shared}
theorem Res.dnew {t : Bool} (S : StOk M0 sa N H σ ρ g) (hp : H p = none) : Res sa N ρ σ (.dnew t) H g (.dict []) (.ref p) (upd H p (.dK [])) := by
  have tp : ∀ L : Ms, Top L (upd H p (.dK [])) (.dict []) (.ref p) := fun L => ⟨by decide, p, [], [], rfl, .inl ⟨[], upd_same, rfl, rfl, rfl⟩, by rw [RepK]; exact ⟨rfl, rfl⟩⟩
  refine ⟨.new hp, S.src.upd hp, ⟨tp _, fun _ c e z => ?_, fun _ c e z => ?_⟩, fun _ _ => ⟨p, rfl, hp, tp _⟩⟩
  · cases e
    exact (S.noN hp z).elim
  · cases e
    exact S.noN hp (S.sS _ z)
theorem pe_dnewD {t : Bool} : PE X (.Dict [] [] pos) (tX F (.dnew t)) := by
  refine ⟨fun pins s σ H Q I h => ?_⟩
  obtain ⟨M0, sa, N, ρ, g, d, g', S, e, q⟩ := h
  rw [ev] at e
  obtain ⟨rfl, rfl⟩ := ret_some e
  exact pe_dnewK.run pins s σ H Q I fun p hp => q _ _ (.dnew S hp)
/-! ### displays with stars -/
def tSp (F : List Fn) (fl : List Bool) (xs : Exs) : TA := fun σ H Q => ∃ M0 sa N ρ g ds ys g', StOk M0 sa N H σ ρ g ∧ evs F xs ρ g = some (ds, g') ∧ spl fl ds = some ys ∧ ∀ vs H', Keep (isS sa) H H' → SrcOk H' sa g' → RepL (less N ρ σ (escs xs)) H' ys vs → Q vs H'
theorem pa_spn : PA X [] (tSp F [] .nil) := by
  refine ⟨fun pos pins s σ H Q I h => ?_⟩
  obtain ⟨M0, sa, N, ρ, g, ds, ys, g', S, e, e2, q⟩ := h
  rw [evs] at e
  obtain ⟨rfl, rfl⟩ := ret_some e
  obtain rfl := Option.some.inj (show some [] = some ys from e2)
  exact pa_nil.run pos pins s σ H Q I (q [] H .refl S.src .nil)
theorem repL_less {is js : List Nat} {ds : List D} {vs : List V} {H : Hp} (r : RepL (less N ρ σ is) H ds vs) (w : ∀ i, i ∈ is → i ∈ js) : RepL (less N ρ σ js) H ds vs := r.anti fun _ z => less_mono w z
theorem pa_spf {fl : List Bool} (ha : PE X a (tX F xa)) (hr : PA X es (tSp F fl xr)) (hs : starEach (a :: es) X.env = (false, eval a X.env) :: starEach es X.env) : PA X (a :: es) (tSp F (false :: fl) (.cons xa xr)) := by
  refine ⟨fun pos pins s σ H Q I h => ?_⟩
  obtain ⟨M0, sa, N, ρ, g, ds, ys, g', S, e, e2, q⟩ := h
  rw [evs] at e
  obtain ⟨x, g1, e1, e⟩ := bnd_some e
  obtain ⟨xs, g2, e3, e⟩ := bnd_some e
  obtain ⟨rfl, rfl⟩ := ret_some e
  cases e4 : spl fl xs with
  | none =>
    simp only [spl, e4] at e2
    cases e2
  | some r =>
    simp only [spl, e4] at e2
    obtain rfl := Option.some.inj e2
    refine (pa_cons ha hr hs).run pos pins s σ H Q I ⟨M0, sa, N, ρ, g, x, g1, S, e1, fun v H1 r1 => ⟨M0, sa, N, ρ, g1, xs, r, _, S.ext r1.keep r1.src, e3, e4, fun vs H2 k r2 o => ?_⟩⟩
    exact q _ H2 (r1.keep.trans k) r2 (.cons ((S.vo r1.vo k).rep.anti fun _ z => less_mono (fun i hi => List.mem_append_left _ hi) z) (repL_less o fun i hi => List.mem_append_right _ hi))
theorem star_val {E : Value → Shared → Prop} {d : D} {xs : List D} {u : Value} {Q : List Value → Shared → Prop} (I : Inv X pins τ H s) (t : Top N H d v) (e : seqO d = some xs) (rv : RelV v u)
    (q : ∀ h', (∀ b o, s.heap.get? b = some o → h'.get? b = some o) → ∀ its vs, Vals vs its → RepL N H xs vs → Q its { s with heap := h' }) : PySem.W.StarOf (model X.prog X.w) X.A E u Q s := by
  obtain ⟨hl, a, vs, rfl, r, h⟩ := seq_val t e
  cases rv
  have h' : H a = some (.lst vs) ∨ TupAt H a vs ∧ True := h.imp id fun z => ⟨z.1, trivial⟩
  obtain ⟨z, T, o, its, n, hT, ho, hc, hd, rvs⟩ := seq_obj I h'
  have lenv := rvs.length
  have ty : s.TypeIs (.ref a) T := ⟨o, ho, hc⟩
  have go : wpAny (model X.prog X.w) X.A (collect (.ref a)) Q E s := by
    refine wpAny_collect_seq a hT ho hc hd (fun h1 k1 => ?_) (by rw [List.size_toArray]; omega)
    exact q h1 k1 its vs rvs r
  unfold PySem.W.StarOf notIterableAtAll
  rcases hT with rfl | rfl
  · refine wpAny_bind (wpAny_specialOf ty PySem.F.slot_list_iter.lookup ?_)
    exact wpAny_pure ⟨rfl, go⟩
  · refine wpAny_bind (wpAny_specialOf ty PySem.F.slot_tuple_iter.lookup ?_)
    exact wpAny_pure ⟨rfl, go⟩
theorem pa_spt {fl : List Bool} {p1 : Pos} (ha : PE X a (tX F xa)) (hr : PA X es (tSp F fl xr)) : PA X (.Starred a p1 :: es) (tSp F (true :: fl) (.cons xa xr)) := by
  refine ⟨fun pos pins s σ H Q I h => ?_⟩
  obtain ⟨M0, sa, N, ρ, g, ds, ys, g', S, e, e2, q⟩ := h
  rw [evs] at e
  obtain ⟨x, g1, e1, e⟩ := bnd_some e
  obtain ⟨xs, g2, e3, e⟩ := bnd_some e
  obtain ⟨rfl, rfl⟩ := ret_some e
  cases e4 : spl fl xs with
  | none =>
    cases e5 : seqO x <;> simp only [spl, e4, e5] at e2 <;> cases e2
  | some r =>
    cases e5 : seqO x with
    | none =>
      simp only [spl, e4, e5] at e2
      cases e2
    | some zs =>
      simp only [spl, e4, e5] at e2
      obtain rfl := Option.some.inj e2
      refine PySem.W.items_star (thn (ha.run pins s σ H (fun v H1 => Res sa N ρ σ xa H g1 x v H1) I ⟨M0, sa, N, ρ, g, x, g1, S, e1, fun v H1 r1 => r1⟩) fun u s1 ⟨v, H1, I1, rv, r1⟩ => ?_) rfl
      have S1 := S.ext r1.keep r1.src
      refine star_val I1 r1.vo.top e5 rv fun h' k1 its vs rvs rL => ?_
      have I2 : Inv X pins σ H1 { s1 with heap := h' } := I1.kept (t' := s1.toks) k1
      refine thn (hr.run pos pins _ σ H1 (fun ws H2 => Keep (isS sa) H1 H2 ∧ SrcOk H2 sa _ ∧ RepL (less N ρ σ (escs xr)) H2 r ws) I2 ⟨M0, sa, N, ρ, g1, xs, r, _, S1, e3, e4, fun ws H2 k r2 o => ⟨k, r2, o⟩⟩) fun us s2 ⟨ws, H2, I3, rw2, k, r2, o⟩ => ?_
      refine ⟨vs ++ ws, H2, I3, rvs.append rw2, q _ H2 (r1.keep.trans k) r2 (RepL.append (repL_less o fun i hi => List.mem_append_right _ hi) ?_)⟩
      have rL2 : RepL (less N ρ σ (esi xa)) H2 zs vs := rL.tr fun c o' eo n => ⟨k c o' eo fun zc => n ⟨S.sS c zc, fun ⟨i, _, ow⟩ => S.nos i c ow zc⟩, n⟩
      exact repL_less rL2 fun i hi => List.mem_append_left _ (List.mem_append_left _ hi)
theorem mkT_some {xs : List D} {d : D} (h : mkT xs = some d) : xs.length ≤ LINE ∧ d = .tuple xs := by
  obtain ⟨c, rfl⟩ := if_some h
  exact ⟨of_decide_eq_true c, rfl⟩
theorem mkL_some {xs : List D} {d : D} (h : mkL xs = some d) : xs.length ≤ LINE ∧ d = .list xs := by
  obtain ⟨c, rfl⟩ := if_some h
  exact ⟨of_decide_eq_true c, rfl⟩
theorem pe_dispT {fl : List Bool} {k : Nat} (h : PA X es (tSp F fl xr)) : PE X (.Tuple es k pos) (tX F (.disp true fl xr)) := by
  refine ⟨fun pins s σ H Q I h' => ?_⟩
  obtain ⟨M0, sa, N, ρ, g, d, g', S, e, q⟩ := h'
  rw [ev] at e
  obtain ⟨ds, g1, e1, e⟩ := bnd_some e
  obtain ⟨e2, rfl⟩ := ofO_some e
  unfold dispO at e2
  cases e3 : spl fl ds with
  | none => rw [e3] at e2; cases e2
  | some ys =>
    rw [e3] at e2
    obtain ⟨hz, rfl⟩ := mkT_some (show mkT ys = some d from e2)
    refine wpAny_Tuple_spliced (thn (h.run pos pins s σ H (fun vs H1 => Keep (isS sa) H H1 ∧ SrcOk H1 sa _ ∧ RepL (less N ρ σ (escs xr)) H1 ys vs) I ⟨M0, sa, N, ρ, g, ds, ys, _, S, e1, e3, fun vs H1 k r o => ⟨k, r, o⟩⟩) fun us s1 ⟨vs, H1, I1, rv, k, r, o⟩ => ?_)
    have hl : vs.length ≤ sizeLine := by
      rw [o.length, ← lineEq]
      exact hz
    have hf : H1 s1.heap.objs.size = none := I1.hok.fresh (Nat.le_refl _)
    refine ⟨by rw [← rv.length]; exact hl, .ref s1.heap.objs.size, _, I1.laid (t' := s1.toks) (o := tupO (tupN us) vs) (fun b u e => Heap.get?_push_of_some _ e) (Nat.le_refl _) (objOk_tup hl rv (Heap.get?_push_size _ rfl)), rfl, q _ _ (Res.back (.tup rfl (S.ext k r) hf o hz) k r)⟩
theorem pe_dispL {fl : List Bool} (h : PA X es (tSp F fl xr)) : PE X (.List es pos) (tX F (.disp false fl xr)) := by
  refine ⟨fun pins s σ H Q I h' => ?_⟩
  obtain ⟨M0, sa, N, ρ, g, d, g', S, e, q⟩ := h'
  rw [ev] at e
  obtain ⟨ds, g1, e1, e⟩ := bnd_some e
  obtain ⟨e2, rfl⟩ := ofO_some e
  unfold dispO at e2
  cases e3 : spl fl ds with
  | none => rw [e3] at e2; cases e2
  | some ys =>
    rw [e3] at e2
    obtain ⟨hz, rfl⟩ := mkL_some (show mkL ys = some d from e2)
    refine (pe_lst h).run pins s σ H Q I ⟨M0, sa, N, ρ, g, ds, ys, _, S, e1, e3, fun vs H1 k r o => ⟨?_, fun p hp => q _ _ (Res.back (.lst (S.ext k r) hp o hz) k r)⟩⟩
    rw [o.length, ← lineEq]
    exact hz
end
end DT

/-! set(t), t a tuple of tuples of whole numbers. -/
namespace DT
open PySem L2 PySem.Spec PyProof.Rows
section
variable {P : Program} {w : World} {A : Around} {E : Value → Shared → Prop} {s : Shared}
/-- an empty set -/
abbrev set0 (w : World) : Obj := { cls := .type "set", dict := none, data := .set #[] 0 (.fresh 0 0 (!w.params.followText "set-order")) }
theorem none_at {h : Heap} {b : Addr} (hb : h.objs.size ≤ b) : h.get? b = none := by
  cases q : h.get? b with
  | none => rfl
  | some o => exact absurd (Heap.lt_size q) (Nat.not_lt.mpr hb)
set_option maxRecDepth 100000 in
set_option maxHeartbeats 3200000 in
theorem set_tupT {c0 : Addr} {xs : Array Value} (ps : List (Addr × List Int)) {Q : Value → Shared → Prop} (noh : A.handled = none) (ht : s.heap.IsTuple c0 xs) (hxs : xs.toList = ps.map fun p => Value.ref p.1)
    (tups : ∀ p ∈ ps, IsT P w s.heap p.2 p.1) (few : ps.length < 64) (units : A.units + 3 < cLine)
    (fin : ∀ (g : Heap) (tk : Nat) L es ep t, SetTR P w g s.heap.objs.size L es ep t → Got ps ps.length L → (∀ b o, s.heap.get? b = some o → g.get? b = some o) → Q (.ref s.heap.objs.size) { s with heap := g, toks := tk }) :
    wpAny (model P w) A (call (.type "set") [.ref c0]) Q E s := by
  have sz : xs.size = ps.length := by
    rw [← Array.length_toList, hxs, List.length_map]
  obtain ⟨cm, tm, mro⟩ := F.called_set.mro
  have made := F.called_set.made
  have subs := F.called_set.sub
  refine wpAny_call (codeAny_of_tree ?_)
  show wpAny _ _ (callAny (.type "set") _) _ _ _
  refine wpAny_pure ⟨Code.quiet_builtin _ (by decide +kernel), codeAny_builtin F.entry_type_call ?_⟩
  rw [Around.under_plain (weight_type_call_type "set" [.ref c0] []) rfl]
  have notTy := F.called_set.notType
  have canC := F.called_set.canCreate
  have tcall := F.typeCall_set_1 (.ref c0)
  repeat (any_goals (first | assumption | wp_step))
  refine codeAny_mono (code_set_led1 (.ref c0) (E := E) (Q₁ := fun ob t1 => ob = .ref s.heap.objs.size ∧ t1 = { s with heap := s.heap.push (set0 w) }) ⟨rfl, rfl⟩) fun res t1 got => ?_
  cases res with
  | error er => exact got
  | ok fl =>
    cases fl with
    | ret ob =>
      obtain ⟨rfl, rfl⟩ := got
      have at0 : (s.heap.push (set0 w)).get? s.heap.objs.size = some (set0 w) := Heap.get?_push_size _ rfl
      have ty0 : Shared.TypeIs { s with heap := s.heap.push (set0 w) } (.ref s.heap.objs.size) "set" := ⟨_, at0, rfl⟩
      have look := F.called_set.init.lookup
      have bnd0 := F.called_set.init.bind (.ref s.heap.objs.size)
      repeat (any_goals (first | assumption | wp_step))
      refine codeAny_mono (codeAny_call_builtin (R := wants (fun rr t2 => rr = .none ∧ ∃ g tk L es ep t, t2 = { s with heap := g, toks := tk } ∧ SetTR P w g s.heap.objs.size L es ep t ∧ Got ps ps.length L ∧
          (∀ b o, s.heap.get? b = some o → g.get? b = some o)) E) F.called_set.init.plain F.entry_set_init (check_set_init_1 ty0 ?_)) fun res2 t2 got2 => ?_
      · obtain ⟨ob, hob, cob, nob, dob⟩ := ht
        obtain ⟨k1, k2, k3, k4⟩ := ob
        simp only at cob dob
        subst cob; subst dob
        have hob' : (s.heap.push (set0 w)).get? c0 = some { cls := .type "tuple", dict := k2, data := .seq xs nob, slots := k4 } := Heap.get?_push_of_some _ hob
        have nsub1 := F.sub_tuple_set
        have nsub2 := F.sub_tuple_frozenset
        have ndict : (Value.type "tuple" == Value.type "dict") = false := by decide
        have tup1 : (s.heap.push (set0 w)).IsTuple c0 xs := ⟨_, hob', rfl, nob, rfl⟩
        unfold Builtin.«set.__init__» noKeywords Builtin.Frozenset.updateFrom
        generalize hIt : pyIter = PI
        wp_walk
        subst hIt
        refine wpAny_pyIter_tuple tup1 ?_
        refine wpAny_bind (wpAny_runValue ?_)
        have lt0 : c0 < s.heap.objs.size := Heap.lt_size hob
        have noh3 : A.in1.in1.in1.handled = none := by simp [noh]
        have psz : (s.heap.push (set0 w)).objs.size = s.heap.objs.size + 1 := Heap.size_push ..
        have apart : c0 ≠ (s.heap.push (set0 w)).objs.size := by
          rw [psz]
          exact Nat.ne_of_lt (Nat.lt_succ_of_lt lt0)
        have apart2 : s.heap.objs.size ∉ [(s.heap.push (set0 w)).objs.size, c0] := by
          rw [psz]
          simp only [List.mem_cons, List.not_mem_nil, or_false, not_or]
          exact ⟨Nat.ne_of_lt (Nat.lt_succ_self _), Nat.ne_of_gt lt0⟩
        have vals : ∀ (i : Nat) (v : Value), xs[i]? = some v → ∃ p, ps[i]? = some p ∧ v = .ref p.1 := fun i v hv => by
          have z : xs.toList[i]? = some v := by
            rw [Array.getElem?_toList]
            exact hv
          rw [hxs, List.getElem?_map] at z
          obtain ⟨p, e1, e2⟩ := Option.map_eq_some_iff.mp z
          exact ⟨p, e1, e2.symm⟩
        refine set_update_tups ((Walks.tuple noh3 _ c0 apart xs).toS) s.heap.objs.size apart2 ps sz few vals s.heap tups (none_at (Nat.le_refl _)) (fun b hb => none_at (by
            rw [List.mem_singleton.mp hb, psz]
            omega)) units (xs.size - 0) 0 _ (by omega) (Nat.zero_le _) ⟨⟨_, Heap.get?_push_size _ rfl, rfl, rfl⟩, (tup1.push _)⟩ (fun b o e => Heap.get?_push_of_some _ (Heap.get?_push_of_some _ e)) ?start ?done
        case start => exact ⟨[], #[], 0, _, setTR_fresh (Heap.get?_push_of_some _ at0), Got.zero ps⟩
        case done =>
          intro t3 L es ep t mv R3 g3 keep3
          obtain ⟨h3, gn3, dr3, tk3, os3⟩ := t3
          have e1 : gn3 = s.gens := mv.gens
          have e2 : dr3 = s.drawn := mv.drawn
          have e3 : os3 = s.os := mv.os
          subst e1; subst e2; subst e3
          show wpAny _ _ _ _ _ _
          refine wpAny_pure ?_
          show wpAny _ _ (PySem.ret Value.none) _ _ _
          rw [sz] at g3
          exact wpAny_pure ⟨rfl, h3, tk3, L, es, ep, t, rfl, R3, g3, keep3⟩
      · cases res2 with
        | error er => exact got2
        | ok fl2 =>
          cases fl2 with
          | ret rr =>
            obtain ⟨rfl, g, tk, L, es, ep, t, rfl, R3, g3, keep3⟩ := got2
            repeat (any_goals (first | assumption | wp_step))
            exact fin _ _ _ _ _ _ R3 g3 keep3
          | _ => exact got2.elim
    | _ => exact got.elim
end
end DT

/-! sorted by size; sets. -/
namespace DT
open PySem L2 PyProof.Rows
section
variable {X : Cx} {F : List Fn} {M0 N : Ms} {sa : Addr × Addr} {H H1 : Hp} {σ τ : L2.St} {ρ : Rho} {g g1 g2 : PState} {a b : Expr} {es : List Expr} {xa xb : Ex} {xr : Exs} {x y : D} {pos : Pos} {v : V} {p : Addr} {pins : List (Addr × Obj)} {s : Shared}
theorem intsOf_eq : ∀ {xs : List D} {ns : List Int}, intsOf xs = some ns → xs = ns.map PyData.int
  | [], ns, e => by
    obtain rfl := Option.some.inj (show some [] = some ns from e)
    rfl
  | x :: r, ns, e => by
    cases x with
    | int i =>
      unfold intsOf at e
      cases q : intsOf r with
      | none => rw [q] at e; cases e
      | some ms =>
        rw [q] at e
        obtain rfl := Option.some.inj (show some (i :: ms) = some ns from e)
        rw [intsOf_eq q]
        rfl
    | _ => cases e
theorem repL_ints {N : Ms} {H : Hp} : ∀ ns : List Int, RepL N H (ns.map PyData.int) (ns.map V.int)
  | [] => .nil
  | n :: ns => .cons (by rw [Rep]) (repL_ints ns)
theorem each_ints : ∀ {ns : List Int} {us : List Value}, Vals (ns.map V.int) us → PySem.W.EachIs (fun (u : Value) (n : Int) => RelV (.int n) u) us ns
  | [], _, .nil => .nil
  | _ :: _, _, .cons r t => .cons r (each_ints t)
theorem ints_each : ∀ {ns : List Int} {us : List Value}, PySem.W.EachIs (fun (u : Value) (n : Int) => RelV (.int n) u) us ns → Vals (ns.map V.int) us
  | [], _, .nil => .nil
  | _ :: _, _, .cons r t => .cons r (ints_each t)
theorem pe_sabsD {lev : Nat} {p p2 kp : Pos} (hc : X.calm = true) (hr : Room lev X.A) (hg : Gl X "sorted") (hm : X.mg "sorted" = none) (hg2 : Gl X "abs") (hm2 : X.mg "abs" = none) (ha : PE X a (tX F xa))
    (na : starEach [a] X.env = (false, eval a X.env) :: starEach [] X.env) : PE X (.Call (.Name "sorted" p) [a] [⟨some "key", .Name "abs" p2, kp⟩] pos) (tX F (.sabs xa)) := by
  refine ⟨fun pins s σ H Q I h => ?_⟩
  obtain ⟨M0, sa, N, ρ, g, d, g', S, e, q⟩ := h
  rw [ev] at e
  obtain ⟨x, g1, e1, e⟩ := bnd_some e
  obtain ⟨e2, rfl⟩ := ofO_some e
  refine wpAny_Call_Name_kw (ld_blt I hg hm boot_sorted ?_)
  refine PyProof.Rows.callWith_kw (PyProof.Rows.args_cons (thn (ha.run pins s σ H (fun v H1 => Res sa N ρ σ xa H g' x v H1) I ⟨M0, sa, N, ρ, g, x, g', S, e1, fun v H1 r1 => r1⟩) fun u s1 ⟨v, H1, I1, rv, r1⟩ => PyProof.Rows.args_nil ?_) na) ?_ ?_ ?_ ?_
  · refine wpAny_evalAll_cons (wpAny_bind (ld_blt I1 hg2 hm2 boot_abs (wpAny_bind (wpAny_standAt (wpAny_pure ?_)))))
    refine PyProof.Rows.evalAll_nil ?_
    have hx : ∃ ns, x = .list (ns.map PyData.int) ∧ ns.length ≤ LINE ∧ d = .list ((ns.mergeSort fun a b => decide (absI a ≤ absI b)).map PyData.int) ∧ intsOf (ns.map PyData.int) = some ns := by
      cases x with
      | list xs =>
        cases hi : intsOf xs with
        | none => simp only [sabsO, hi] at e2; cases e2
        | some ns =>
          simp only [sabsO, hi] at e2
          obtain ⟨c, rfl⟩ := if_some e2
          obtain rfl := intsOf_eq hi
          exact ⟨ns, rfl, of_decide_eq_true c, rfl, hi⟩
      | _ => cases e2
    obtain ⟨ns, rfl, hlen, rfl, hi⟩ := hx
    obtain ⟨_, l, vs, rfl, hL, rL⟩ := r1.vo.top
    obtain ⟨rfl, _⟩ := rL.ints hi
    cases rv
    obtain ⟨its, rvs, pl, hz⟩ := I1.list (SqL.of (K := X.K) hL)
    have hun := hr.un
    have kk : backToKw pos (keywordEach [{ arg := some (Str.ofString "key"), value := Expr.Name (Str.ofString "abs") p2, pos := kp }] X.env) = backToKw pos (keywordEach [{ arg := some (Str.ofString "key"), value := Expr.Name (Str.ofString "abs") p2, pos := kp }] X.env) := rfl
    show wpAny _ _ (call (.builtin "sorted") [.ref l] [(Str.ofString "key", .builtin "abs")]) _ _ _
    have nl : ns.length = its.length := by
      have := rvs.length
      rw [List.length_map] at this
      exact this
    refine PySem.W.sorted_key_data (bs := ns) (R := fun (u : Value) (n : Int) => RelV (.int n) u) (vs := its) (f := .builtin "abs") (b := false) (fun n => PyData.int (absI n)) pl.isList (each_ints rvs) ?_ ?_ (by rw [← lineEq]; exact hlen) ?_ (ksk_s1 _ _) (fun z => ksk_l1 _ _) (fun z => ksk_t4 "abs" z) ?_ ?_
    · intro d hd d' hd'
      obtain ⟨m, _, rfl⟩ := List.mem_map.mp hd
      obtain ⟨m', _, rfl⟩ := List.mem_map.mp hd'
      rfl
    · refine .inr fun d hd => ?_
      obtain ⟨m, _, rfl⟩ := List.mem_map.mp hd
      exact ⟨fun z => (by cases z), fun xs z => (by cases z)⟩
    · intro m hm
      show X.A.units + 2 + 0 < cLine
      omega
    · intro u m ru hm h tk kp
      obtain ⟨t, rfl⟩ := ru
      exact PyProof.Rows.call_abs_int fun u tk' => ⟨h, tk', rfl, fun b o z => z, .int _ _⟩
    · intro out c h' tk kp hn hat ol oe
      rw [PySem.W.dataLe_int] at oe
      have rv2 := ints_each oe
      have hf : H1 (s1.heap.objs.size + 1) = none := I1.hok.fresh (Nat.le_succ _)
      have lm : (ns.mergeSort fun a b => decide (absI a ≤ absI b)).length = ns.length := List.length_mergeSort ..
      refine ⟨.ref (s1.heap.objs.size + 1), upd H1 (s1.heap.objs.size + 1) (.lst ((ns.mergeSort fun a b => decide (absI a ≤ absI b)).map V.int)), I1.laid (t' := tk) kp (Nat.le_succ _) ⟨?_, out, c, rv2, hat⟩, rfl, q _ _ (Res.back (.lst (S.ext r1.keep r1.src) hf ?_ ?_) r1.keep r1.src)⟩
      · rw [List.length_map, lm, ← lineEq]
        exact hlen
      · exact repL_ints _
      · rw [List.length_map, lm]
        exact hlen
  · show backTo pos (starEach [a] X.env) = _
    rw [na]
    rfl
  · show (backTo pos (starEach [a] X.env)).any (·.1) = false
    rw [na]
    rfl
  · rfl
  · rfl
theorem ded_step {α : Type} [DecidableEq α] [BEq α] [LawfulBEq α] (acc : List α) (k : α) : step_dedup acc k = if k ∈ acc then acc else acc ++ [k] := by
  unfold step_dedup
  by_cases h : k ∈ acc
  · have z : (acc.any fun x => x == k) = true := List.any_eq_true.mpr ⟨k, h, beq_self_eq_true k⟩
    rw [if_pos h, if_pos z]
  · have z : ¬ (acc.any fun x => x == k) = true := fun z => by
      obtain ⟨x, hx, e⟩ := List.any_eq_true.mp z
      exact h (eq_of_beq e ▸ hx)
    rw [if_neg h, if_neg z]
theorem first_ded (ns : List Int) : firstMet (fun i => ns.getD i 0) ns.length = dedK ns := by
  have e : (List.range ns.length).map (fun i => ns.getD i 0) = ns := by
    refine List.ext_getElem (by simp) fun i h1 h2 => ?_
    rw [List.getElem_map, List.getElem_range, List.getD_eq_getElem?_getD, List.getElem?_eq_getElem h2]
    rfl
  unfold firstMet dedK
  rw [e]
  congr 1
  funext acc k
  exact ded_step acc k
theorem ded_facts {α : Type} [DecidableEq α] : ∀ (ks acc : List α), acc.Nodup → (ks.foldl (fun acc k => if k ∈ acc then acc else acc ++ [k]) acc).Nodup ∧ ∀ x, x ∈ ks.foldl (fun acc k => if k ∈ acc then acc else acc ++ [k]) acc ↔ x ∈ acc ∨ x ∈ ks
  | [], acc, h => ⟨h, fun x => by simp⟩
  | k :: ks, acc, h => by
    rw [List.foldl_cons]
    by_cases c : k ∈ acc
    · rw [if_pos c]
      obtain ⟨h1, h2⟩ := ded_facts ks acc h
      refine ⟨h1, fun x => (h2 x).trans ⟨fun z => z.imp id fun w => List.mem_cons_of_mem _ w, fun z => z.elim .inl fun w => ?_⟩⟩
      rcases List.mem_cons.mp w with w | w
      · exact .inl (w ▸ c)
      · exact .inr w
    · rw [if_neg c]
      obtain ⟨h1, h2⟩ := ded_facts ks (acc ++ [k]) (List.nodup_append.mpr ⟨h, by simp, fun a ha b hb e => c (by
        have : b = k := by simpa using hb
        rw [← this, ← e]
        exact ha)⟩)
      refine ⟨h1, fun x => (h2 x).trans ?_⟩
      rw [List.mem_append, List.mem_singleton, List.mem_cons, or_assoc]
theorem dedK_nodup {α : Type} [DecidableEq α] (ks : List α) : (dedK ks).Nodup := (ded_facts ks [] List.nodup_nil).1
theorem dedK_mem {α : Type} [DecidableEq α] (ks : List α) (x : α) : x ∈ dedK ks ↔ x ∈ ks := ((ded_facts ks [] List.nodup_nil).2 x).trans ⟨fun z => z.elim (fun w => by cases w) id, .inr⟩
theorem tup_refs {K : PySem.W.Frag} {N : Ms} {H : Hp} : ∀ {xs : List D} {ks : List (List Int)} {vs : List V}, tupsOf xs = some ks → RepL N H xs vs → ∃ ps : List (Addr × List Int), vs = ps.map (fun p => V.ref p.1) ∧ ps.map (·.2) = ks ∧ ∀ p ∈ ps, SqT K H p.1 (p.2.map V.int)
  | [], ks, vs, e, r => by
    obtain rfl := Option.some.inj (show some [] = some ks from e)
    rw [RepL] at r
    subst r
    exact ⟨[], rfl, rfl, fun p hp => by cases hp⟩
  | x :: xs, ks, vs, e, r => by
    rw [RepL] at r
    obtain ⟨v, t, rfl, h1, h2⟩ := r
    cases x with
    | tuple ds =>
      unfold tupsOf at e
      cases q1 : intsOf ds with
      | none => simp only [q1] at e; cases e
      | some k =>
        cases q2 : tupsOf xs with
        | none => simp only [q1, q2] at e; cases e
        | some ks' =>
          simp only [q1, q2] at e
          obtain rfl := Option.some.inj e
          obtain ⟨ps, rfl, rfl, h3⟩ := tup_refs (K := K) q2 h2
          rw [Rep] at h1
          obtain ⟨_, b, ws, rfl, _, ht, rL⟩ := h1
          obtain ⟨rfl, _⟩ := rL.ints q1
          refine ⟨(b, k) :: ps, rfl, rfl, fun p hp => ?_⟩
          rcases List.mem_cons.mp hp with z | z
          · subst z
            exact ht.sq
          · exact h3 p z
    | _ => cases e
theorem got_len {ps L : List (Addr × List Int)} (nd : (L.map (·.2)).Nodup) (g : Got ps ps.length L) : L.length = (dedK (ps.map (·.2))).length := by
  have e : (L.map (·.2)).Perm (dedK (ps.map (·.2))) := by
    refine (List.perm_ext_iff_of_nodup nd (dedK_nodup _)).mpr fun k => ?_
    rw [dedK_mem]
    refine ⟨fun h => ?_, fun h => ?_⟩
    · obtain ⟨p, hp, rfl⟩ := List.mem_map.mp h
      exact List.mem_map_of_mem (List.mem_of_mem_take (g.sub p hp))
    · obtain ⟨p, hp, rfl⟩ := List.mem_map.mp h
      exact g.all p (by rw [List.take_length]; exact hp)
  rw [← e.length_eq, List.length_map]
theorem pe_lenSetL {p p2 q : Pos} (hc : X.calm = true) (hg : Gl X "len") (hm : X.mg "len" = none) (hg2 : Gl X "set") (hm2 : X.mg "set" = none) (ha : PE X a (tX F xa)) (hu : X.A.units + 64 < cLine)
    (na : starEach [a] X.env = (false, eval a X.env) :: starEach [] X.env) : PE X (.Call (.Name "len" p) [.Call (.Name "set" p2) [a] [] q] [] pos) (tX F (.blt .lenSet (.cons xa .nil))) := by
  refine ⟨fun pins s σ H Q I h => ?_⟩
  obtain ⟨M0, sa, N, ρ, g, d, g', S, e, q⟩ := h
  rw [ev] at e
  obtain ⟨ds, g1, e1, e⟩ := bnd_some e
  obtain ⟨e2, rfl⟩ := ofO_some e
  obtain ⟨x, e3, rfl⟩ := evs_one e1
  refine Call_ (ld_blt I hg hm PySem.boot_len ?_)
  refine PyProof.Rows.callWith_builtin1 (PyProof.Rows.args_cons ?_ rfl) rfl rfl
  refine Call_ (ld_blt I hg2 hm2 PyProof.Rows.boot_set ?_)
  refine PyProof.Rows.callWith_type1 (PyProof.Rows.args_cons (thn (ha.run pins s σ H (fun v H1 => Res sa N ρ σ xa H _ x v H1) I ⟨M0, sa, N, ρ, g, x, _, S, e3, fun v H1 r => r⟩) fun v s1 ⟨y, H1, I1, r1, res⟩ => PyProof.Rows.args_nil ?_) na) na rfl
  cases x with
  | list xs =>
    cases hi : intsOf xs with
    | none => simp only [bltO, hi] at e2; cases e2
    | some ns =>
      simp only [bltO, hi] at e2
      obtain ⟨c, rfl⟩ := if_some e2
      have h64 : ns.length < 64 := of_decide_eq_true c
      obtain ⟨_, l, vs, rfl, hL, rL⟩ := res.vo.top
      obtain ⟨rfl, _⟩ := rL.ints hi
      cases r1
      obtain ⟨its, rvs, pl, hz⟩ := I1.list (SqL.of (K := X.K) hL)
      have hl : its.toArray.size = ns.length := by rw [List.size_toArray, ← rvs.length, List.length_map]
      refine call_set_list (I1.ok.hd hc) pl.isList (ns := ns) (by simpa using rvs.ints) (by unfold scanBound; omega) fun h' tk hS hk => ?_
      rw [hl, first_ded] at hS
      have hd := dedK_le ns
      refine PyProof.Rows.args_nil ?_
      obtain ⟨o, es, ep, t, ho, hex, hdd, _, _, _, hf, hn⟩ := hS
      have I2 : Inv X pins σ H1 { s1 with heap := h', toks := tk } := I1.kept fun b o e => hk b o (Heap.lt_size e) e
      refine call_len_set ho hex hdd hf (by rw [hn] <;> omega) ⟨.int (dedK ns).length, H1, I2.tok _, ⟨_, by rw [hn]⟩, q _ _ (Res.back (.int (S.ext res.keep res.src) _) res.keep res.src)⟩
  | tuple xs =>
    cases hi : tupsOf xs with
    | none => simp only [bltO, hi] at e2; cases e2
    | some ks =>
      simp only [bltO, hi] at e2
      obtain ⟨c, rfl⟩ := if_some e2
      have h64 : ks.length < 64 := of_decide_eq_true c
      obtain ⟨_, l, vs, rfl, _, hL, rL⟩ := res.vo.top.tup
      obtain ⟨ps, rfl, rfl, hps⟩ := tup_refs (K := X.K) hi rL
      cases r1
      obtain ⟨its, rvs, pl, hz⟩ := I1.tuple (hL.sq (K := X.K))
      rw [List.length_map] at h64
      refine set_tupT (P := X.prog) (w := X.w) ps (I1.ok.hd hc) pl (by simpa using refs_of_vals rvs) (fun p hp => I1.isT (hps p hp)) h64 (by omega) fun h' tk L es ep t R g k => ?_
      have hlen := got_len R.nd g
      obtain ⟨o, ho, hex, hdd⟩ := R.ob
      have I2 : Inv X pins σ H1 { s1 with heap := h', toks := tk } := I1.kept k
      have hsz := SetTR.size (s := { s1 with heap := h', toks := tk }) R
      have hfit := SetTR.fits (s := { s1 with heap := h', toks := tk }) R
      have hfew := R.few
      refine PyProof.Rows.args_nil ?_
      refine call_len_set ho hex hdd hfit (by rw [hsz] <;> omega) ⟨.int (dedK (ps.map (·.2))).length, H1, I2.tok _, ⟨_, by rw [hsz, hlen]⟩, q _ _ (Res.back (.int (S.ext res.keep res.src) _) res.keep res.src)⟩
  | _ => cases e2
theorem strict_ext : ∀ {xs ys : List Int}, xs.Pairwise (· < ·) → ys.Pairwise (· < ·) → (∀ k, k ∈ xs ↔ k ∈ ys) → xs = ys
  | [], [], _, _, _ => rfl
  | [], y :: ys, _, _, h => by
    have := (h y).mpr List.mem_cons_self
    cases this
  | x :: xs, [], _, _, h => by
    have := (h x).mp List.mem_cons_self
    cases this
  | x :: xs, y :: ys, hx, hy, h => by
    obtain ⟨hx1, hx2⟩ := List.pairwise_cons.mp hx
    obtain ⟨hy1, hy2⟩ := List.pairwise_cons.mp hy
    have e : x = y := by
      rcases List.mem_cons.mp ((h x).mp List.mem_cons_self) with z | z
      · exact z
      · rcases List.mem_cons.mp ((h y).mpr List.mem_cons_self) with w | w
        · exact w.symm
        · have a := hy1 x z
          have b := hx1 y w
          omega
    subst e
    rw [strict_ext hx2 hy2 fun k => ⟨fun z => ?_, fun z => ?_⟩]
    · rcases List.mem_cons.mp ((h k).mp (List.mem_cons_of_mem _ z)) with w | w
      · have := hx1 k z
        omega
      · exact w
    · rcases List.mem_cons.mp ((h k).mpr (List.mem_cons_of_mem _ z)) with w | w
      · have := hy1 k z
        omega
      · exact w
theorem sort_strict {l : List Int} (h : l.Nodup) : (l.mergeSort fun a b => decide (a ≤ b)).Pairwise (· < ·) := by
  have h1 := List.pairwise_mergeSort (le := fun a b : Int => decide (a ≤ b)) (fun a b c x y => decide_eq_true (Int.le_trans (of_decide_eq_true x) (of_decide_eq_true y))) (fun a b => by
    rcases Int.le_total a b with z | z
    · simp [z]
    · simp [z]) l
  have h2 : (l.mergeSort fun a b => decide (a ≤ b)).Nodup := (List.mergeSort_perm l _).nodup_iff.mpr h
  refine List.Pairwise.imp₂ (fun a b z w => ?_) h1 h2
  have z := of_decide_eq_true z
  omega
theorem pe_sortSetD {p p2 q : Pos} (hc : X.calm = true) (hg : Gl X "sorted") (hm : X.mg "sorted" = none) (hg2 : Gl X "set") (hm2 : X.mg "set" = none) (ha : PE X a (tX F xa))
    (na : starEach [a] X.env = (false, eval a X.env) :: starEach [] X.env) : PE X (.Call (.Name "sorted" p) [.Call (.Name "set" p2) [a] [] q] [] pos) (tX F (.blt .sortSet (.cons xa .nil))) := by
  refine ⟨fun pins s σ H Q I h => ?_⟩
  obtain ⟨M0, sa, N, ρ, g, d, g', S, e, q⟩ := h
  rw [ev] at e
  obtain ⟨ds, g1, e1, e⟩ := bnd_some e
  obtain ⟨e2, rfl⟩ := ofO_some e
  obtain ⟨x, e3, rfl⟩ := evs_one e1
  refine Call_ (ld_blt I hg hm PyProof.Rows.boot_sorted ?_)
  refine PyProof.Rows.callWith_builtin1 (PyProof.Rows.args_cons ?_ rfl) rfl rfl
  refine Call_ (ld_blt I hg2 hm2 PyProof.Rows.boot_set ?_)
  refine PyProof.Rows.callWith_type1 (PyProof.Rows.args_cons (thn (ha.run pins s σ H (fun v H1 => Res sa N ρ σ xa H _ x v H1) I ⟨M0, sa, N, ρ, g, x, _, S, e3, fun v H1 r => r⟩) fun v s1 ⟨y, H1, I1, r1, res⟩ => PyProof.Rows.args_nil ?_) na) na rfl
  cases x with
  | tuple xs =>
    cases hi : intsOf xs with
    | none => simp only [bltO, hi] at e2; cases e2
    | some ns =>
      simp only [bltO, hi] at e2
      obtain ⟨c, rfl⟩ := if_some e2
      have h60 : ns.length < 60 := of_decide_eq_true c
      obtain ⟨_, l, vs, rfl, _, hL, rL⟩ := res.vo.top.tup
      obtain ⟨rfl, _⟩ := rL.ints hi
      cases r1
      obtain ⟨its, rvs, pl, hz⟩ := I1.tuple (hL.sq (K := X.K))
      refine call_set_tupI ns (I1.ok.hd hc) pl (by simpa using rvs.ints) (by unfold scanBound; omega) fun h' tk c hS hcn hk => ?_
      have I2 : Inv X pins σ H1 { s1 with heap := h', toks := tk } := I1.kept hk
      refine PyProof.Rows.args_nil ?_
      have hS2 : SetR X.w ({ s1 with heap := h', toks := tk } : Shared).heap s1.heap.objs.size (fun j => decide (j ∈ ns)) c := hS
      generalize ({ s1 with heap := h', toks := tk } : Shared) = s2 at I2 hS2 ⊢
      refine sorted_set hS2 (I1.ok.hd hc) (by omega) fun s' p out c' ms k2 hg' ho' hp hat hit hpw hmem hlen => ?_
      have em : ms = (dedK ns).mergeSort fun a b => decide (a ≤ b) := strict_ext hpw (sort_strict (dedK_nodup ns)) fun k => (hmem k).trans (by
        rw [List.mem_mergeSort, dedK_mem]
        exact decide_eq_true_iff)
      subst em
      have hl2 : (((dedK ns).mergeSort fun a b => decide (a ≤ b)).map V.int).length ≤ sizeLine := by
        rw [List.length_map, hlen, sizeLine_eq]
        omega
      have hf : H1 p = none := I2.hok.fresh hp
      have J : Inv X pins σ (upd H1 p (.lst (((dedK ns).mergeSort fun a b => decide (a ≤ b)).map V.int))) { s2 with heap := s'.heap, gens := s'.gens, drawn := s'.drawn, toks := s'.toks } :=
        I2.call (ch := []) (Un.laid k2 hp hf) (I2.hok.laid k2 hp ⟨hl2, out.toList, c', vals_of_ints hit, hat⟩) (by rw [hg']; exact I2.bare) fun _ z => (by cases z)
      have es : s' = { s2 with heap := s'.heap, gens := s'.gens, drawn := s'.drawn, toks := s'.toks } := by
        cases s'
        cases s2
        cases ho'
        rfl
      rw [es]
      refine ⟨.ref p, _, J, rfl, q _ _ (Res.back (.lst (S.ext res.keep res.src) hf (repL_ints _) ?_) res.keep res.src)⟩
      have := List.length_map (f := V.int) (as := (dedK ns).mergeSort fun a b => decide (a ≤ b))
      rw [List.length_map]
      rw [this] at hl2
      rw [lineEq]
      exact hl2
  | _ => cases e2
end
end DT

/-! What a loop walks. -/
namespace DT
open PySem L2 PyProof.Rows
/-- a tuple that may be made just for the walk -/
def TupW (K : PySem.W.Frag) (N : Ms) (H : Hp) (ds : List D) (v : V) : Prop := ∃ a vs, v = .ref a ∧ SqT K H a vs ∧ RepL N H ds vs
/-- a turn's item; pr: only its parts will be looked at -/
def Itm (K : PySem.W.Frag) (pr : Bool) (N : Ms) (H : Hp) (x : D) (v : V) : Prop := if pr = true then ∃ ds, x = .tuple ds ∧ TupW K N H ds v else Rep N H x v
/-- more that no one is to hold: what did not stand then -/
def Ups (N : Ms) (H0 : Hp) (N' : Ms) : Prop := ∀ a, N' a → N a ∨ H0 a = none
/-- J goes through xs as long as what stood at H0 outside of N stands -/
def Walks (K : PySem.W.Frag) (N : Ms) (H0 : Hp) (pr : Bool) (J : It) (xs : List D) : Prop := ∀ N', Ups N H0 N' →
  (∀ H, Keep N' H0 H → J.stop xs.length H) ∧ ∀ (i : Nat) (x : D) (H : Hp), xs[i]? = some x → Keep N' H0 H → J.go i H ∧ ∀ v H', J.yld i H v H' → (∀ a o, H a = some o → H' a = some o) ∧ Itm K pr N' H' x v
theorem RepL.ups {N N' : Ms} {H : Hp} {ds : List D} {vs : List V} (r : RepL N H ds vs) (u : Ups N H N') : RepL N' H ds vs := r.tr fun a o e n => ⟨e, fun z => (u a z).elim n fun y => by rw [e] at y; cases y⟩
theorem Ups.not {N N' : Ms} {H : Hp} {a : Addr} {o : HO} (u : Ups N H N') (e : H a = some o) (n : ¬ N a) : ¬ N' a := fun z => (u a z).elim n fun y => by rw [e] at y; cases y
def pairK : ItK → Bool
  | .enum => true
  | .zip2 => true
  | _ => false
def tIt (K : PySem.W.Frag) (F : List Fn) (ik : ItK) (ss : Exs) : TI := fun σ H R => ∃ (M0 : Ms) (sa : Addr × Addr) (N : Ms) (ρ : Rho) (g : PState) (ds : List D) (g' : PState) (xs : List D), StOk M0 sa N H σ ρ g ∧ evs F ss ρ g = some (ds, g') ∧ itO ik ds = some xs ∧
  ∀ J H1, Keep (isS sa) H H1 → SrcOk H1 sa g' → xs.length ≤ LINE → Walks K (less N ρ σ (escs ss)) H1 (pairK ik) J xs → R J H1
section
variable {X : Cx} {F : List Fn} {M0 N : Ms} {sa : Addr × Addr} {H H1 : Hp} {σ τ : L2.St} {ρ : Rho} {g g1 g2 : PState} {tg a b : Expr} {es : List Expr} {xa xb : Ex} {xr : Exs} {x y : D} {pos : Pos} {K : PySem.W.Frag}
theorem Keep.lst {l : Addr} {vs : List V} {H0 H : Hp} (k : Keep N H0 H) (n : ¬ N l) (h : H0 l = some (.lst vs)) : H l = some (.lst vs) := k l _ h n
theorem TupAt.keep {l : Addr} {vs : List V} {H0 H : Hp} (h : TupAt H0 l vs) (k : Keep N H0 H) (n : ¬ N l) : TupAt H l vs := h.to fun o e => k l o e n
/-- a list or tuple that no one writes -/
theorem seq_rep {xs : List D} {d : D} {v : V} (h : Rep N H d v) (e : seqO d = some xs) : xs.length ≤ LINE ∧ ∃ l vs, v = .ref l ∧ ¬ N l ∧ RepL N H xs vs ∧ ((H l = some (.lst vs) ∧ d = .list xs) ∨ (TupAt H l vs ∧ d = .tuple xs)) := by
  cases d with
  | list ds =>
    obtain rfl := Option.some.inj e
    rw [Rep] at h
    obtain ⟨hz, l, vs, rfl, n, q, r⟩ := h
    exact ⟨hz, l, vs, rfl, n, r, .inl ⟨q, rfl⟩⟩
  | tuple ds =>
    obtain rfl := Option.some.inj e
    rw [Rep] at h
    obtain ⟨hz, l, vs, rfl, n, q, r⟩ := h
    exact ⟨hz, l, vs, rfl, n, r, .inr ⟨q, rfl⟩⟩
  | _ => cases e
theorem walks_list {xs : List D} {vs : List V} {l : Addr} (h : H l = some (.lst vs)) (n : ¬ N l) (r : RepL N H xs vs) (K' : PySem.W.Frag) : Walks K N H false (Itl K' l) xs := by
  intro N' up
  have n := up.not h n
  refine ⟨fun H' k => ⟨vs, .of (k.lst n h), by rw [r.length]; exact Nat.le_refl _⟩, fun i x H' e k => ?_⟩
  obtain ⟨v, e1, e2⟩ := (r.ups up).get e
  refine ⟨⟨vs, v, .of (k.lst n h), e1⟩, fun w H2 ⟨q1, q2⟩ => ?_⟩
  subst q1
  have e3 := q2 vs (.of (k.lst n h))
  rw [e1] at e3
  cases e3
  exact ⟨fun a o z => z, Rep.keep e2 k⟩
theorem walks_tup {xs : List D} {vs : List V} {l : Addr} (h : TupAt H l vs) (n : ¬ N l) (r : RepL N H xs vs) (K' : PySem.W.Frag) : Walks K N H false (Itt K' l) xs := by
  intro N' up
  obtain ⟨ob, hob⟩ := h.obj
  have n := up.not hob n
  refine ⟨fun H' k => ⟨vs, (h.keep k n).sq, by rw [r.length]; exact Nat.le_refl _⟩, fun i x H' e k => ?_⟩
  obtain ⟨v, e1, e2⟩ := (r.ups up).get e
  refine ⟨⟨vs, v, (h.keep k n).sq, e1⟩, fun w H2 ⟨q1, q2⟩ => ?_⟩
  subst q1
  have e3 := q2 vs (h.keep k n).sq
  rw [e1] at e3
  cases e3
  exact ⟨fun a o z => z, Rep.keep e2 k⟩
theorem rngL_get {a b : Int} {i : Nat} {x : D} (h : (rngL a b)[i]? = some x) : i < (b - a).toNat ∧ x = .int (a + (i : Nat)) := by
  unfold rngL at h
  rw [List.getElem?_map] at h
  obtain ⟨j, e1, e2⟩ := Option.map_eq_some_iff.mp h
  obtain ⟨h1, h2⟩ := List.getElem?_eq_some_iff.mp e1
  rw [List.length_range] at h1
  rw [List.getElem_range] at h2
  subst h2
  exact ⟨h1, e2.symm⟩
theorem walks_rng (lo hi : Int) : Walks K N H false (Itr lo (hi - lo).toNat) (rngL lo hi) := by
  intro N' up
  refine ⟨fun H' k => ?_, fun i x H' e k => ?_⟩
  · show _ ≤ _
    unfold rngL
    rw [List.length_map, List.length_range]
    exact Nat.le_refl _
  · obtain ⟨h1, rfl⟩ := rngL_get e
    refine ⟨h1, fun v H2 ⟨q1, q2⟩ => ?_⟩
    subst q1 q2
    exact ⟨fun a o z => z, by show Rep _ _ _ _; rw [Rep]⟩

/-! ### the forms -/
theorem pi_seqD (ha : PE X a (tX F xa)) : PI X tg a (tIt X.K F .seq (.cons xa .nil)) := by
  refine ⟨fun pins s σ H R I h => ?_⟩
  obtain ⟨M0, sa, N, ρ, g, ds, g', xs, S, e, ei, q⟩ := h
  obtain ⟨x, e1, rfl⟩ := evs_one e
  refine thn (ha.run pins s σ H (fun u H1 => Vo sa N ρ σ xa H1 x u ∧ Keep (isS sa) H H1 ∧ SrcOk H1 sa g') I ⟨M0, sa, N, ρ, g, x, g', S, e1, fun u H1 r => ⟨r.vo, r.keep, r.src⟩⟩) fun v s1 ⟨z, H1, I1, r1, o, k1, q1⟩ => ?_
  have rp : Rep (less N ρ σ (escs (.cons xa .nil))) H1 x z := o.rep.anti fun c hc => less_mono (fun i hi => List.mem_append_left _ hi) hc
  obtain ⟨hz0, l, vs, rfl, n, r, hh⟩ := seq_rep rp ei
  cases r1
  rcases hh with ⟨hl, _⟩ | ⟨hl, _⟩
  · obtain ⟨its, rv, p, hz⟩ := I1.list (.of hl)
    refine wpAny_pyIter_list p.isList ?_
    refine ⟨s1.heap.objs.size, [s1.heap.objs.size], _, _, H1, rfl, I1.kept (t' := s1.toks) fun b o e => Heap.get?_push_of_some _ e, turn_list l _, ⟨_, Heap.get?_push_size _ rfl, rfl, rfl⟩, fun b hb => ?_, q _ H1 k1 q1 hz0 (walks_list hl n r _)⟩
    obtain rfl := List.mem_singleton.mp hb
    exact I1.fpOk (Nat.le_refl _) (I1.hok.fresh (Nat.le_refl _))
  · obtain ⟨its, rv, p, hz⟩ := I1.tuple hl.sq
    refine wpAny_pyIter_tuple (show s1.heap.IsTuple l its.toArray from p) ?_
    refine ⟨s1.heap.objs.size, [s1.heap.objs.size], _, _, H1, rfl, I1.kept (t' := s1.toks) fun b o e => Heap.get?_push_of_some _ e, turn_tuple l _, ⟨_, Heap.get?_push_size _ rfl, rfl, rfl⟩, fun b hb => ?_, q _ H1 k1 q1 hz0 (walks_tup hl n r _)⟩
    obtain rfl := List.mem_singleton.mp hb
    exact I1.fpOk (Nat.le_refl _) (I1.hok.fresh (Nat.le_refl _))
theorem pi_rng1D {p : Pos} (hg : Gl X "range") (hm : X.mg "range" = none) (ha : PA X [a] (tA F (.cons xa .nil))) (hs : starEach [a] X.env = [(false, eval a X.env)]) : PI X tg (.Call (.Name "range" p) [a] [] pos) (tIt X.K F .rng1 (.cons xa .nil)) := by
  refine ⟨fun pins s σ H R I h => ?_⟩
  obtain ⟨M0, sa, N, ρ, g, ds, g', xs, S, e, ei, q⟩ := h
  refine (pi_range1 hg hm ha hs).run pins s σ H R I ⟨M0, sa, N, ρ, g, ds, g', S, e, fun vs H1 k r o => ?_⟩
  obtain ⟨x, e1, rfl⟩ := evs_one e
  cases x with
  | int n =>
    obtain ⟨ok, rfl, hl⟩ := rngO_some (show rngO 0 n = some xs from ei)
    obtain ⟨e', v, e2, rfl, ov⟩ := o.one
    obtain rfl := ov.top.int
    obtain ⟨b1, b2, b3, b4, b5⟩ := ok
    refine ⟨n, rfl, b3, b4, q _ H1 k r hl ?_⟩
    have := walks_rng (K := X.K) (N := less N ρ σ (escs (.cons xa .nil))) (H := H1) 0 n
    rw [Int.sub_zero] at this
    exact this
  | _ => cases ei
theorem pi_rng2D {p : Pos} (hg : Gl X "range") (hm : X.mg "range" = none) (ha : PA X [a, b] (tA F (.cons xa (.cons xb .nil)))) (hs : starEach [a, b] X.env = [(false, eval a X.env), (false, eval b X.env)]) (hs2 : starEach [b] X.env = [(false, eval b X.env)]) : PI X tg (.Call (.Name "range" p) [a, b] [] pos) (tIt X.K F .rng2 (.cons xa (.cons xb .nil))) := by
  refine ⟨fun pins s σ H R I h => ?_⟩
  obtain ⟨M0, sa, N, ρ, g, ds, g', xs, S, e, ei, q⟩ := h
  refine (pi_range2 hg hm ha hs hs2).run pins s σ H R I ⟨M0, sa, N, ρ, g, ds, g', S, e, fun vs H1 k r o => ?_⟩
  obtain ⟨x, y, g2, e1, e2, rfl⟩ := evs_two e
  cases x with
  | int n =>
    cases y with
    | int m =>
      obtain ⟨ok, rfl, hl⟩ := rngO_some (show rngO n m = some xs from ei)
      obtain ⟨_, _, v, v', e3, rfl, ov, ow⟩ := o.two
      obtain rfl := ov.top.int
      obtain rfl := ow.top.int
      obtain ⟨b1, b2, b3, b4, b5⟩ := ok
      exact ⟨n, m, rfl, ⟨b1, b2, b3, b4⟩, q _ H1 k r hl (walks_rng n m)⟩
    | _ => cases ei
  | _ => cases ei

/-! ### enumerate, zip -/
/-- what a walk that makes tuples hands out, by the data -/
theorem walks_pairs {xs : List D} {n : Nat} {Sh : Hp → Prop} {Yv : Nat → List V → Prop} (hn : xs.length = n) (sh : ∀ N' H', Ups N H N' → Keep N' H H' → Sh H')
    (hy : ∀ i x ys, xs[i]? = some x → Yv i ys → ∃ ds, x = .tuple ds ∧ RepL N H ds ys) : Walks K N H true (ItP n Sh Yv) xs := by
  intro N' up
  refine ⟨fun H' k => ⟨hn, sh N' H' up k⟩, fun i x H' e k => ?_⟩
  have hi : i < n := by
    rw [← hn]
    exact (List.getElem?_eq_some_iff.mp e).1
  refine ⟨⟨hi, sh N' H' up k⟩, fun v H2 ⟨T, ys, e1, e2, e3, e4⟩ => ?_⟩
  subst e1 e3
  obtain ⟨ds, rfl, r⟩ := hy i x ys e e4
  exact ⟨fun a o z => by rw [upd_ne (ne_of_none z e2)]; exact z, ds, rfl, T, ys, rfl, .of upd_same, ((r.ups up).keep k).keep (.new e2)⟩
theorem enumL_get {xs : List D} {i : Nat} {z : D} (h : (enumL xs)[i]? = some z) : ∃ x, xs[i]? = some x ∧ z = .tuple [.int (i : Nat), x] := by
  unfold enumL at h
  rw [List.getElem?_map] at h
  obtain ⟨p, e1, e2⟩ := Option.map_eq_some_iff.mp h
  rw [List.getElem?_zipIdx] at e1
  obtain ⟨x, e3, e4⟩ := Option.map_eq_some_iff.mp e1
  subst e4
  refine ⟨x, e3, ?_⟩
  rw [← e2]
  simp
theorem enumL_len (xs : List D) : (enumL xs).length = xs.length := by
  unfold enumL
  rw [List.length_map, List.length_zipIdx]
theorem shOn_of {l : Addr} {vs : List V} {xs : List D} {d : D} (hh : (H l = some (.lst vs) ∧ d = .list xs) ∨ (TupAt H l vs ∧ d = .tuple xs)) (n : ¬ N l) : ∃ b, ∀ N' H', Ups N H N' → Keep N' H H' → ShOn H' l vs b := by
  rcases hh with ⟨h, _⟩ | ⟨h, _⟩
  · exact ⟨true, fun N' H' up k => k.lst (up.not h n) h⟩
  · obtain ⟨ob, hob⟩ := h.obj
    exact ⟨false, fun N' H' up k => h.keep k (up.not hob n)⟩
end
set_option maxHeartbeats 1000000 in
theorem meets_enumB1 {v : Value} {o : Obj} {H : Heap → Prop} (B : Begins v o H) :
    Meets (Builtin.«enumerate.__new__» ⟨[.type "enumerate", v], []⟩) (fun _ R s => H s.heap ∧
      R (.ok (.ret (.ref (s.heap.push o).objs.size))) { s with heap := (s.heap.push o).push { cls := .type "enumerate", data := .fields #[.none, .bool false, .ref s.heap.objs.size, rawInt 0, .none, .none] } }) :=
  .of_wp fun prog w A R s h => by
    obtain ⟨hp, gg, dd, tk, os⟩ := s
    obtain ⟨h1, h⟩ := h
    have hsub := sub_enumerate
    have it1 : ∀ {A' : Around} {E : Value → Shared → Prop} {Q : Value → Shared → Prop}, Q (.ref hp.objs.size) ⟨hp.push o, gg, dd, tk, os⟩ → wpAny (model prog w) A' (pyIter v) Q E ⟨hp, gg, dd, tk, os⟩ :=
      fun z => B.iter prog w _ _ ⟨hp, gg, dd, tk, os⟩ _ h1 z
    wp_walk using it1
    refine wpAny_stack_any fun st => wpAny_pure ?_
    split
    · rename_i c _ _ _ _ _
      cases (c == Value.type "enumerate") <;> (wp_walk using it1; exact ⟨_, rfl, h⟩)
    · wp_walk using it1
      exact ⟨_, rfl, h⟩
theorem enum_begin1 {prog : Program} {w : World} {A : Around} {E : Value → Shared → Prop} {s : Shared} {v : Value} {o : Obj} {H : Heap → Prop} {Q : Value → Shared → Prop} (B : Begins v o H) (h1 : H s.heap)
    (h : ∀ h', IsEnum h' (s.heap.objs.size + 1) s.heap.objs.size 0 .none → h'.get? s.heap.objs.size = some o → (∀ b o, s.heap.get? b = some o → h'.get? b = some o) → Q (.ref (s.heap.objs.size + 1)) { s with heap := h' }) :
    wpAny (model prog w) A (PySem.call (.type "enumerate") [v]) Q E s := by
  refine callType_new F.called_enumerate (by decide) (F.typeCall_enumerate_1 _) (F.newCall_enumerate_1 _) (fun obj => F.args_object_init_2 obj _) F.entry_enumerate_new (meets_enumB1 B) ⟨h1, ?_⟩
  have hz : (s.heap.push o).objs.size = s.heap.objs.size + 1 := Heap.size_push ..
  show _ ∧ _
  rw [hz]
  have he : IsEnum ((s.heap.push o).push { cls := .type "enumerate", data := .fields #[.none, .bool false, .ref s.heap.objs.size, rawInt 0, .none, .none] }) (s.heap.objs.size + 1) s.heap.objs.size 0 .none := by
    have z := Heap.get?_push_size (s.heap.push o) (o := { cls := .type "enumerate", data := .fields #[.none, .bool false, .ref s.heap.objs.size, rawInt 0, .none, .none] }) rfl
    rw [hz] at z
    exact z
  exact ⟨⟨_, he, rfl⟩, h _ he (Heap.get?_push_of_some _ (Heap.get?_push_size _ B.free)) fun b o z => Heap.get?_push_of_some _ (Heap.get?_push_of_some _ z)⟩
section
variable {X : Cx} {F : List Fn} {M0 N : Ms} {sa : Addr × Addr} {H H1 : Hp} {σ τ : L2.St} {ρ : Rho} {g g1 g2 : PState} {tg a b : Expr} {es elts : List Expr} {xa xb : Ex} {xr : Exs} {x y : D} {pos tpos : Pos} {K : PySem.W.Frag} {kk : Nat}
theorem pi_enumD {p : Pos} (hg : Gl X "enumerate") (hm : X.mg "enumerate" = none) (ha : PA X [a] (tA F (.cons xa .nil))) (hs : starEach [a] X.env = [(false, eval a X.env)]) : PI X (.Tuple elts kk tpos) (.Call (.Name "enumerate" p) [a] [] pos) (tIt X.K F .enum (.cons xa .nil)) := by
  refine ⟨fun pins s σ H R I h => ?_⟩
  obtain ⟨M0, sa, N, ρ, g, ds, g', xs, S, e, ei, q⟩ := h
  refine Call_ (ld_blt I hg hm boot_enumerate (PyProof.Rows.callWith_type1 (thn (ha.run pos pins s σ H (fun vs H1 => Keep (isS sa) H H1 ∧ SrcOk H1 sa g' ∧ VoL sa N ρ σ H1 (.cons xa .nil) ds vs) I ⟨M0, sa, N, ρ, g, ds, g', S, e, fun vs H1 k r o => ⟨k, r, o⟩⟩) fun us s1 ⟨vs, H1, I1, r1, k1, q1, o⟩ => ?_) hs rfl))
  obtain ⟨x, e1, rfl⟩ := evs_one e
  obtain ⟨ys, e2, rfl⟩ := Option.map_eq_some_iff.mp ei
  have rl := o.reps
  obtain ⟨_, z, _, rfl, _⟩ := o.one
  obtain ⟨u, rfl, rz⟩ := vals_one r1
  rw [RepL] at rl
  obtain ⟨_, _, ez, rp, _⟩ := rl
  cases ez
  obtain ⟨hz0, l, ws, rfl, n, r, hh⟩ := seq_rep rp e2
  cases rz
  obtain ⟨b, sh⟩ := shOn_of hh n
  obtain ⟨zl, us, rv, so⟩ := shOn_items I1 (sh _ H1 (fun _ z => .inl z) .refl)
  have hlt : l < s1.heap.objs.size := by
    cases b with
    | true =>
      obtain ⟨ob, h1, _⟩ := (show s1.heap.IsList l us.toArray from so)
      exact Heap.lt_size h1
    | false =>
      obtain ⟨ob, h1, _⟩ := (show s1.heap.IsTuple l us.toArray from so)
      exact Heap.lt_size h1
  refine enum_begin1 (begins_on l us b) so fun h' he hit hk => wpAny_pyIter_enum he ?_
  have I2 : Inv X pins σ H1 { s1 with heap := h' } := I1.kept (t' := s1.toks) hk
  refine ⟨s1.heap.objs.size + 1, [s1.heap.objs.size + 1, s1.heap.objs.size], _, _, H1, rfl, I2, turn_enumD (s1.heap.objs.size + 1) s1.heap.objs.size l (Nat.succ_ne_self _) (Nat.ne_of_lt hlt) (Nat.ne_of_gt (Nat.lt_succ_of_lt hlt)) ws b, ⟨⟨.none, he⟩, itOn_new hit⟩, fun c hc => ?_, q _ H1 k1 q1 (by rw [enumL_len]; exact hz0) (walks_pairs (by rw [enumL_len, r.length]) sh ?_)⟩
  · have hle : s1.heap.objs.size ≤ c := by
      rcases List.mem_cons.mp hc with z | z
      · rw [z]; exact Nat.le_add_right _ _
      · rw [List.mem_singleton.mp z]; exact Nat.le_refl _
    exact I1.fpOk hle (I1.hok.fresh hle)
  · rintro i x' ys' e3 ⟨w, e4, rfl⟩
    obtain ⟨x0, e5, rfl⟩ := enumL_get e3
    obtain ⟨w', e6, e7⟩ := r.get e5
    rw [e4] at e6
    cases e6
    exact ⟨_, rfl, .cons (by rw [Rep]) (.cons e7 .nil)⟩
theorem pi_zip2D {p : Pos} (hg : Gl X "zip") (hm : X.mg "zip" = none) (ha : PA X [a, b] (tA F (.cons xa (.cons xb .nil)))) (hs : starEach [a, b] X.env = (false, eval a X.env) :: starEach [b] X.env) (hpl : (backTo pos (starEach [b] X.env)).any (·.1) = false) :
    PI X (.Tuple elts kk tpos) (.Call (.Name "zip" p) [a, b] [] pos) (tIt X.K F .zip2 (.cons xa (.cons xb .nil))) := by
  refine ⟨fun pins s σ H R I h => ?_⟩
  obtain ⟨M0, sa, N, ρ, g, ds, g', xs, S, e, ei, q⟩ := h
  refine Call_ (ld_blt I hg hm PyProof.Rows.boot_zip (PyProof.Rows.callWith_type1 (thn (ha.run pos pins s σ H (fun vs H1 => Keep (isS sa) H H1 ∧ SrcOk H1 sa g' ∧ VoL sa N ρ σ H1 (.cons xa (.cons xb .nil)) ds vs) I ⟨M0, sa, N, ρ, g, ds, g', S, e, fun vs H1 k r o => ⟨k, r, o⟩⟩) fun us s1 ⟨vs, H1, I1, r1, k1, q1, o⟩ => ?_) hs hpl))
  obtain ⟨x, y, g2, e1, e2, rfl⟩ := evs_two e
  have rl := o.reps
  obtain ⟨_, _, z, z', _, rfl, _⟩ := o.two
  obtain ⟨u, u', rfl, rz, rz'⟩ := vals2 r1
  rw [RepL] at rl
  obtain ⟨_, _, ez, rp, rl⟩ := rl
  cases ez
  rw [RepL] at rl
  obtain ⟨_, _, ez, rp', _⟩ := rl
  cases ez
  have ei' : (match seqO x, seqO y with
    | some xs, some ys => some (List.zipWith (fun a b => PyData.tuple [a, b]) xs ys)
    | _, _ => none) = some xs := ei
  cases s1' : seqO x with
  | none =>
    rw [s1'] at ei'
    cases ei'
  | some p1 =>
    cases s2' : seqO y with
    | none =>
      rw [s1', s2'] at ei'
      cases ei'
    | some p2 =>
      rw [s1', s2'] at ei'
      obtain rfl := Option.some.inj ei'
      obtain ⟨hz1, l1, w1, rfl, n1, rr1, hh1⟩ := seq_rep rp s1'
      obtain ⟨hz2, l2, w2, rfl, n2, r2, hh2⟩ := seq_rep rp' s2'
      cases rz
      cases rz'
      obtain ⟨b1, sh1⟩ := shOn_of hh1 n1
      obtain ⟨b2, sh2⟩ := shOn_of hh2 n2
      obtain ⟨zl, us1, rv1, so1⟩ := shOn_items I1 (sh1 _ H1 (fun _ z => .inl z) .refl)
      obtain ⟨zl2, us2, rv2, so2⟩ := shOn_items I1 (sh2 _ H1 (fun _ z => .inl z) .refl)
      have lt : ∀ {l : Addr} {us : List Value} {b : Bool}, SoOn s1.heap l us b → l < s1.heap.objs.size := fun {l us b} so => by
        cases b with
        | true =>
          obtain ⟨ob, h1, _⟩ := (show s1.heap.IsList l us.toArray from so)
          exact Heap.lt_size h1
        | false =>
          obtain ⟨ob, h1, _⟩ := (show s1.heap.IsTuple l us.toArray from so)
          exact Heap.lt_size h1
      have h1 := lt so1
      have h2 := lt so2
      refine zip_begins2 (begins_on l1 us1 b1) (begins_on l2 us2 b2) so1 so2 fun h' hz hTI hTO hi1 hi2 hsz hk => wpAny_pyIter_zip hz ?_
      have I2 : Inv X pins σ H1 { s1 with heap := h' } := I1.kept (t' := s1.toks) hk
      have sep := zip_sep2 (N := s1.heap.objs.size) (fp1 := [l1]) (fp2 := [l2]) (fun c hc => by rw [List.mem_singleton.mp hc]; exact h1) (fun c hc => by rw [List.mem_singleton.mp hc]; exact h2)
      refine ⟨s1.heap.objs.size + 4, [s1.heap.objs.size + 4, s1.heap.objs.size + 2, s1.heap.objs.size + 3, s1.heap.objs.size, s1.heap.objs.size + 1], _, _, H1, rfl, I2, turn_zipD sep (Nat.ne_of_lt h1) (Nat.ne_of_lt (Nat.lt_succ_of_lt h2)) w1 w2 b1 b2, ⟨hz, hTI, ⟨_, _, hTO⟩, itOn_new hi1, itOn_new hi2⟩, fun c hc => ?_, q _ H1 k1 q1 (by rw [List.length_zipWith]; omega) (walks_pairs ?_ (fun N' H' up k => ⟨sh1 N' H' up k, sh2 N' H' up k⟩) ?_)⟩
      · have hle : s1.heap.objs.size ≤ c := by
          rcases List.mem_cons.mp hc with z | hc
          · rw [z]; exact Nat.le_add_right _ _
          rcases List.mem_cons.mp hc with z | hc
          · rw [z]; exact Nat.le_add_right _ _
          rcases List.mem_cons.mp hc with z | hc
          · rw [z]; exact Nat.le_add_right _ _
          rcases List.mem_cons.mp hc with z | hc
          · rw [z]; exact Nat.le_refl _
          · rw [List.mem_singleton.mp hc]; exact Nat.le_add_right _ _
        exact I1.fpOk hle (I1.hok.fresh hle)
      · rw [List.length_zipWith, rr1.length, r2.length]
      · rintro i x' ys' e3 ⟨w, w', e4, e5, rfl⟩
        rw [List.getElem?_zipWith] at e3
        cases g1' : p1[i]? with
        | none => rw [g1'] at e3; cases e3
        | some c1 =>
          cases g2' : p2[i]? with
          | none => rw [g1', g2'] at e3; cases e3
          | some c2 =>
            rw [g1', g2'] at e3
            obtain rfl := Option.some.inj e3
            obtain ⟨v1, f1, f2⟩ := rr1.get g1'
            obtain ⟨v2, f3, f4⟩ := r2.get g2'
            rw [e4] at f1
            rw [e5] at f3
            cases f1
            cases f3
            exact ⟨_, rfl, .cons f2 (.cons f4 .nil)⟩
end
end DT

/-! Targets. -/
namespace DT
open PySem L2 PyProof.Rows
/-! ### slots frozen, forgotten, stored -/
theorem own_len {ρ : Rho} {σ : L2.St} {i : Nat} {a : Addr} (h : Own ρ σ i a) : i < ρ.length ∧ i < σ.length := by
  obtain ⟨x, h1, _, h3⟩ := h
  exact ⟨(List.getElem?_eq_some_iff.mp h1).1, (List.getElem?_eq_some_iff.mp h3).1⟩
theorem freeze_len : ∀ (is : List Nat) (ρ : Rho), (freeze is ρ).length = ρ.length
  | [], _ => rfl
  | i :: is, ρ => by
    unfold freeze
    rw [List.length_set, freeze_len is ρ]
theorem freeze_get : ∀ (is : List Nat) (ρ : Rho) (j : Nat), (freeze is ρ)[j]? = (if j ∈ is then (ρ[j]?).map frz1 else ρ[j]?)
  | [], _, _ => by simp [freeze]
  | i :: is, ρ, j => by
    have ih := freeze_get is ρ j
    unfold freeze
    by_cases hij : i = j
    · subst hij
      rw [if_pos List.mem_cons_self]
      by_cases hl : i < (freeze is ρ).length
      · rw [List.getElem?_set_self hl, ih]
        have hl' : i < ρ.length := by rw [← freeze_len is ρ]; exact hl
        have e : ρ[i]? = some ρ[i] := List.getElem?_eq_getElem hl'
        rw [e]
        split
        · show some (frz1 (frz1 ρ[i])) = some (frz1 ρ[i])
          congr 1
          cases ρ[i] with
          | none => rfl
          | some s => cases s <;> rfl
        · rfl
      · have hl' : ρ.length ≤ i := by rw [← freeze_len is ρ]; omega
        rw [List.getElem?_eq_none (by rw [List.length_set]; omega), List.getElem?_eq_none hl']
        rfl
    · rw [List.getElem?_set_ne hij, ih]
      by_cases hj : j ∈ is
      · rw [if_pos hj, if_pos (List.mem_cons_of_mem _ hj)]
      · rw [if_neg hj, if_neg (fun z => (List.mem_cons.mp z).elim (fun y => hij y.symm) hj)]
theorem own_freeze {is : List Nat} {ρ : Rho} {σ : L2.St} {i : Nat} {a : Addr} (h : Own (freeze is ρ) σ i a) : Own ρ σ i a ∧ i ∉ is := by
  obtain ⟨x, h1, h2, h3⟩ := h
  rw [freeze_get] at h1
  by_cases hi : i ∈ is
  · rw [if_pos hi] at h1
    cases e : ρ[i]? with
    | none => rw [e] at h1; cases h1
    | some o =>
      rw [e] at h1
      have h1' : frz1 o = some (.d true x) := Option.some.inj h1
      cases o with
      | none => cases h1'
      | some s => cases s <;> cases h1'
  · rw [if_neg hi] at h1
    exact ⟨⟨x, h1, h2, h3⟩, hi⟩
theorem freeze_slot {is : List Nat} {ρ : Rho} {i : Nat} {s : Sl} (h : (freeze is ρ)[i]? = some (some s)) : (i ∉ is ∧ ρ[i]? = some (some s)) ∨ (i ∈ is ∧ ∃ s0, ρ[i]? = some (some s0) ∧ frz1 (some s0) = some s) := by
  rw [freeze_get] at h
  by_cases hi : i ∈ is
  · rw [if_pos hi] at h
    cases e : ρ[i]? with
    | none => rw [e] at h; cases h
    | some o =>
      rw [e] at h
      have h' : frz1 o = some s := Option.some.inj h
      cases o with
      | none => cases h'
      | some s0 => exact .inr ⟨hi, s0, rfl, h'⟩
  · rw [if_neg hi] at h
    exact .inl ⟨hi, h⟩
section
variable {M0 N : Ms} {sa : Addr × Addr} {H H' : Hp} {σ : L2.St} {ρ : Rho} {g g' : PState} {x : D} {v : V}
theorem StOk.freeze (S : StOk M0 sa N H σ ρ g) (is : List Nat) : StOk M0 sa (less N ρ σ is) H σ (freeze is ρ) g := by
  refine ⟨by rw [freeze_len, S.len], fun i s h => ?_, fun i j a o o' => S.inj i j a (own_freeze o).1 (own_freeze o').1, fun a h => S.lessSub h, S.srcIn, fun a h => S.mt a h.1, S.src⟩
  rcases freeze_slot h with ⟨hi, e⟩ | ⟨hi, s0, e, ef⟩
  · obtain ⟨v, e1, e2⟩ := S.slot i s e
    refine ⟨v, e1, ?_⟩
    cases s with
    | src => exact e2
    | d b x =>
      cases b with
      | false => exact Rep.anti e2 fun _ z => z.1
      | true =>
        refine ⟨e2.1.anti fun _ z => z.1, fun m => ?_⟩
        obtain ⟨a, ev, ha, hm⟩ := e2.2 m
        refine ⟨a, ev, ⟨ha, fun ⟨j, hj, o⟩ => ?_⟩, hm⟩
        have : i = j := S.inj i j a ⟨x, e, m, by rw [e1, ev]⟩ o
        exact hi (this ▸ hj)
  · obtain ⟨v, e1, e2⟩ := S.slot i s0 e
    refine ⟨v, e1, ?_⟩
    cases s0 with
    | src =>
      cases ef
      exact e2
    | d b x =>
      cases ef
      cases b with
      | false => exact Rep.anti e2 fun _ z => z.1
      | true => exact e2.1.rep (fun _ z => z.1) fun m a ev z => z.2 ⟨i, hi, x, e, m, by rw [e1, ev]⟩
theorem wipeR_len : ∀ (is : List Nat) (ρ : Rho), (wipeR ρ is).length = ρ.length
  | [], _ => rfl
  | i :: is, ρ => by
    unfold wipeR
    rw [List.length_set, wipeR_len is ρ]
theorem wipeR_get {is : List Nat} {ρ : Rho} {i : Nat} {s : Sl} (h : (wipeR ρ is)[i]? = some (some s)) : i ∉ is ∧ ρ[i]? = some (some s) := by
  induction is with
  | nil => exact ⟨List.not_mem_nil, h⟩
  | cons j is ih =>
    unfold wipeR at h
    by_cases hj : j = i
    · subst hj
      by_cases hl : j < (wipeR ρ is).length
      · rw [List.getElem?_set_self hl] at h
        cases h
      · rw [List.getElem?_eq_none (by rw [List.length_set]; omega)] at h
        cases h
    · rw [List.getElem?_set_ne hj] at h
      obtain ⟨h1, h2⟩ := ih h
      exact ⟨fun z => (List.mem_cons.mp z).elim (fun y => hj y.symm) h1, h2⟩
theorem wipe_get : ∀ {is : List Nat} {σ : L2.St} {i : Nat}, i ∉ is → (wipe σ is)[i]? = σ[i]?
  | [], _, _, _ => rfl
  | j :: is, σ, i, h => by
    unfold wipe
    have hj : j ≠ i := fun z => h (List.mem_cons.mpr (.inl z.symm))
    rw [List.getElem?_set_ne hj, wipe_get (fun z => h (List.mem_cons_of_mem _ z))]
theorem own_wipe {is : List Nat} {i : Nat} {a : Addr} (h : Own (wipeR ρ is) (wipe σ is) i a) : Own ρ σ i a := by
  obtain ⟨x, h1, h2, h3⟩ := h
  obtain ⟨n, h4⟩ := wipeR_get h1
  rw [wipe_get n] at h3
  exact ⟨x, h4, h2, h3⟩
theorem StOk.wipe (S : StOk M0 sa N H σ ρ g) (is : List Nat) : StOk M0 sa N H (L2.wipe σ is) (wipeR ρ is) g := by
  refine ⟨by rw [wipeR_len, wipe_length, S.len], fun i s h => ?_, fun i j a o o' => S.inj i j a (own_wipe o) (own_wipe o'), S.sub, S.srcIn, S.mt, S.src⟩
  obtain ⟨n, e⟩ := wipeR_get h
  obtain ⟨v, e1, e2⟩ := S.slot i s e
  exact ⟨v, by rw [wipe_get n]; exact e1, e2⟩
/-- one more object that is not to be touched -/
theorem StOk.plus {D : Addr} {o : HO} (S : StOk M0 sa N H σ ρ g) (hD : H D = none) : StOk (addM M0 D) sa (addM N D) (upd H D o) σ ρ g := by
  have k : Keep (fun _ => False) H (upd H D o) := fun a u e _ => by
    rw [upd_ne (ne_of_none e hD)]
    exact e
  refine ⟨S.len, fun i s h => ?_, S.inj, fun a h => h.elim (fun z => .inl (S.sub a z)) .inr, fun a h => .inl (S.srcIn a h), fun a h => ?_, ?_⟩
  · obtain ⟨v, e1, e2⟩ := S.slot i s h
    refine ⟨v, e1, ?_⟩
    have tr : ∀ a u, H a = some u → ¬ N a → upd H D o a = some u ∧ ¬ addM N D a := fun a u e n => ⟨k a u e id, fun z => z.elim n (ne_of_none e hD)⟩
    cases s with
    | src => exact e2
    | d b x =>
      cases b with
      | false => exact Rep.tr tr e2
      | true =>
        refine ⟨e2.1.tr tr fun _ a u _ e => k a u e id, fun m => ?_⟩
        obtain ⟨a, ev, ha, hm⟩ := e2.2 m
        exact ⟨a, ev, .inl ha, fun z => z.elim hm fun y => S.mt a ha (by rw [y]; exact hD)⟩
  · rcases h with h | h
    · cases e : H a with
      | none => exact (S.mt a h e).elim
      | some u =>
        rw [k a u e id]
        exact fun z => by cases z
    · rw [h, upd_same]
      exact fun z => by cases z
  · exact S.src.upd hD
theorem set_slot {σ : L2.St} {i j : Nat} {v : Option V} (h : i < σ.length) : (σ.set i v)[j]? = if i = j then some v else σ[j]? := by
  by_cases e : i = j
  · subst e
    rw [List.getElem?_set_self h, if_pos rfl]
  · rw [List.getElem?_set_ne e, if_neg e]
theorem own_set {i j : Nat} {a : Addr} (h : Own (ρ.set i (some (.d false x))) (σ.set i (some v)) j a) : Own ρ σ j a := by
  obtain ⟨y, h1, h2, h3⟩ := h
  by_cases e : i = j
  · subst e
    by_cases hl : i < ρ.length
    · rw [List.getElem?_set_self hl] at h1
      cases h1
    · rw [List.getElem?_eq_none (by rw [List.length_set]; omega)] at h1
      cases h1
  · rw [List.getElem?_set_ne e] at h1 h3
    exact ⟨y, h1, h2, h3⟩
theorem StOk.set (S : StOk M0 sa N H σ ρ g) (i : Nat) (r : Rep N H x v) : StOk M0 sa N H (σ.set i (some v)) (ρ.set i (some (.d false x))) g := by
  refine ⟨by rw [List.length_set, List.length_set, S.len], fun j s h => ?_, fun j k a o o' => S.inj j k a (own_set o) (own_set o'), S.sub, S.srcIn, S.mt, S.src⟩
  by_cases e : i = j
  · subst e
    by_cases hl : i < ρ.length
    · rw [List.getElem?_set_self hl] at h
      cases h
      exact ⟨v, by rw [List.getElem?_set_self (by rw [← S.len]; exact hl)], r⟩
    · rw [List.getElem?_eq_none (by rw [List.length_set]; omega)] at h
      cases h
  · rw [List.getElem?_set_ne e] at h ⊢
    exact S.slot j s h
end
/-! ### targets -/
def SameBut (σ σ' : L2.St) (is : List Nat) : Prop := σ'.length = σ.length ∧ ∀ i, i ∉ is → σ'[i]? = σ[i]?
theorem SameBut.trans {σ σ1 σ2 : L2.St} {is js : List Nat} (a : SameBut σ σ1 is) (b : SameBut σ1 σ2 js) : SameBut σ σ2 (is ++ js) :=
  ⟨b.1.trans a.1, fun i h => (b.2 i fun z => h (List.mem_append_right _ z)).trans (a.2 i fun z => h (List.mem_append_left _ z))⟩
theorem wipe_at : ∀ {is : List Nat} {σ : L2.St} {i : Nat}, i ∈ is → (wipe σ is)[i]? = (σ[i]?).map fun _ => none
  | [], _, _, h => by cases h
  | j :: is, σ, i, h => by
    unfold wipe
    by_cases e : j = i
    · subst e
      by_cases hl : j < σ.length
      · rw [List.getElem?_set_self (by rw [wipe_length]; exact hl), List.getElem?_eq_getElem hl]
        rfl
      · rw [List.getElem?_eq_none (by rw [List.length_set, wipe_length]; omega), List.getElem?_eq_none (by omega)]
        rfl
    · rw [List.getElem?_set_ne e]
      exact wipe_at ((List.mem_cons.mp h).resolve_left fun z => e z.symm)
theorem wipe_same {σ σ' : L2.St} {is : List Nat} (h : SameBut (wipe σ is) σ' is) : wipe σ' is = wipe σ is := by
  apply List.ext_getElem?
  intro i
  have hl : σ'.length = σ.length := h.1.trans (wipe_length σ is)
  by_cases hi : i ∈ is
  · rw [wipe_at hi, wipe_at hi]
    by_cases hil : i < σ.length
    · rw [List.getElem?_eq_getElem hil, List.getElem?_eq_getElem (by omega)]
      rfl
    · rw [List.getElem?_eq_none (by omega), List.getElem?_eq_none (by omega)]
  · rw [wipe_get hi, h.2 i hi]
def isT : Tg → Bool
  | .t _ => true
  | _ => false
def gD (K : PySem.W.Frag) (tg : Tg) : TG := fun v σ H Q => ∃ (M0 : Ms) (sa : Addr × Addr) (N : Ms) (ρ : Rho) (g : PState) (x : D) (pr : Bool) (ρ' : Rho), StOk M0 sa N H σ ρ g ∧ Itm K pr N H x v ∧ (pr = true → isT tg = true) ∧ bindT tg x ρ = some ρ' ∧
  ∀ σ', StOk M0 sa N H σ' ρ' g → SameBut σ σ' (slotsT tg) → (∀ i a, Own ρ' σ' i a → Own ρ σ i a) → Q σ' H
def gDs (K : PySem.W.Frag) (ts : List Tg) : TGs := fun vs σ H Q => ∃ (M0 : Ms) (sa : Addr × Addr) (N : Ms) (ρ : Rho) (g : PState) (ds : List D) (ρ' : Rho), StOk M0 sa N H σ ρ g ∧ RepL N H ds vs ∧ bindTs ts ds ρ = some ρ' ∧
  ∀ σ', StOk M0 sa N H σ' ρ' g → SameBut σ σ' (slotsTs ts) → (∀ i a, Own ρ' σ' i a → Own ρ σ i a) → Q σ' H
section
variable {X : Cx} {pos : Pos} {K : PySem.W.Frag}
theorem pg_nameD {i : Nat} {nm : Str} (hN : X.N.Nodup) (hi : X.N[i]? = some nm) (hx : Loc X.env.scope nm) (hf : X.fn nm = true ∨ X.env.scope.names.lookup nm = some .local) : PG X (.Name nm pos) (gD K (.n i)) := by
  refine ⟨fun pins s σ H v u Q I r h => ?_⟩
  obtain ⟨M0, sa, N, ρ, g, x, pr, ρ', S, im, hp, e, q⟩ := h
  refine (pg_name hN hi hx hf).run pins s σ H v u Q I r ?_
  rw [bindT] at e
  obtain rfl := Option.some.inj e
  cases pr with
  | true => cases hp rfl
  | false =>
    have rp : Rep N H x v := im
    exact q _ (S.set i rp) ⟨List.length_set, fun j hj => List.getElem?_set_ne fun z => hj (by rw [slotsT]; exact List.mem_singleton.mpr z.symm)⟩ fun j a o => own_set o
theorem pgs_nilD : PGs X [] (gDs K []) := by
  refine ⟨fun pins s σ H vs us Q I r h => ?_⟩
  obtain ⟨M0, sa, N, ρ, g, ds, ρ', S, rl, e, q⟩ := h
  refine pgs_nil.run pins s σ H vs us Q I r ?_
  cases ds with
  | nil =>
    rw [bindTs] at e
    obtain rfl := Option.some.inj e
    rw [RepL] at rl
    exact ⟨rl, q σ S ⟨rfl, fun _ _ => rfl⟩ fun _ _ o => o⟩
  | cons d ds => simp [bindTs] at e
theorem pgs_consD {t : Tg} {ts : List Tg} {e : Expr} {es : List Expr} (h1 : PG X e (gD K t)) (h2 : PGs X es (gDs K ts)) (hs : (assignEach (e :: es) X.env).map (·.2) = assign e X.env :: (assignEach es X.env).map (·.2)) : PGs X (e :: es) (gDs K (t :: ts)) := by
  refine ⟨fun pins s σ H vs us Q I r h => ?_⟩
  obtain ⟨M0, sa, N, ρ, g, ds, ρ', S, rl, e, q⟩ := h
  refine (pgs_cons h1 h2 hs).run pins s σ H vs us Q I r ?_
  cases ds with
  | nil => simp [bindTs] at e
  | cons d ds =>
    rw [bindTs] at e
    cases e1 : bindT t d ρ with
    | none => rw [e1] at e; cases e
    | some ρ1 =>
      rw [e1] at e
      rw [RepL] at rl
      obtain ⟨v, rv, rfl, rd, rr⟩ := rl
      refine ⟨v, rv, rfl, M0, sa, N, ρ, g, d, false, ρ1, S, rd, (fun z => by cases z), e1, fun σ1 S1 sb1 o1 => ⟨M0, sa, N, ρ1, g, ds, ρ', S1, rr, e, fun σ2 S2 sb2 o2 => ?_⟩⟩
      refine q σ2 S2 ?_ fun i a o => o1 i a (o2 i a o)
      rw [slotsTs]
      exact sb1.trans sb2
theorem pg_tupD {ts : List Tg} {es : List Expr} {k : Nat} (hc : X.calm = true) (h : PGs X es (gDs X.K ts)) (hn : (assignEach es X.env).length = ts.length) (hst : (assignEach es X.env).findIdx? (·.1) = none) : PG X (.Tuple es k pos) (gD X.K (.t ts)) := by
  refine ⟨fun pins s σ H v u Q I r hh => ?_⟩
  obtain ⟨M0, sa, N, ρ, g, x, pr, ρ', S, im, hp, e, q⟩ := hh
  have len : ∀ (ts : List Tg) (ds : List D) (ρ ρ' : Rho), bindTs ts ds ρ = some ρ' → ds.length = ts.length := by
    intro ts
    induction ts with
    | nil =>
      intro ds ρ ρ' e
      cases ds with
      | nil => rfl
      | cons d ds => simp [bindTs] at e
    | cons t ts ih =>
      intro ds ρ ρ' e
      cases ds with
      | nil => simp [bindTs] at e
      | cons d ds =>
        rw [bindTs] at e
        cases e1 : bindT t d ρ with
        | none => rw [e1] at e; cases e
        | some ρ1 =>
          rw [e1] at e
          rw [List.length_cons, List.length_cons, ih ds ρ1 ρ' e]
  have wk : (∃ ds, x = .tuple ds ∧ TupW X.K N H ds v) ∨ ∃ ds a vs, x = .list ds ∧ v = .ref a ∧ H a = some (.lst vs) ∧ RepL N H ds vs := by
    cases pr with
    | true => exact .inl im
    | false =>
      have rp : Rep N H x v := im
      cases x with
      | tuple ds =>
        rw [Rep] at rp
        obtain ⟨_, a, vs, e1, _, e2, e3⟩ := rp
        exact .inl ⟨ds, rfl, a, vs, e1, e2.sq, e3⟩
      | list ds =>
        rw [Rep] at rp
        obtain ⟨_, a, vs, e1, _, e2, e3⟩ := rp
        exact .inr ⟨ds, a, vs, rfl, e1, e2, e3⟩
      | _ => simp [bindT] at e
  rcases wk with ⟨ds, rfl, a, vs, rfl, sq, rl⟩ | ⟨ds, a, vs, rfl, rfl, hL, rl⟩
  · rw [bindT] at e
    refine (pg_tup hc h hn hst).run pins s σ H _ u Q I r ⟨a, vs, rfl, sq, ?_, M0, sa, N, ρ, g, ds, ρ', S, rl, e, fun σ' S' sb o => q σ' S' ?_ o⟩
    · rw [rl.length, len ts ds ρ ρ' e]
    · rw [slotsT]
      exact sb
  · rw [bindT] at e
    cases r
    obtain ⟨its, rv, pl, hz⟩ := I.list (SqL.of (K := X.K) hL)
    have hlen : (assignEach es X.env).length = its.toArray.size := by
      rw [hn, ← len ts ds ρ ρ' e, ← rl.length, rv.length, List.size_toArray]
    rw [arm_assign_Tuple]
    refine wpAny_bind (wpAny_standAt ?_)
    unfold unpack
    rw [hlen, hst]
    refine wpAny_bind (wpAny_holding (PySem.W.kun_itemsOf (I.ok.hd hc) pl.isList fun h' hx => ?_))
    have I1 : Inv X pins σ H { s with heap := h' } := I.kept (t' := s.toks) fun b o e => hx b o (Nat.ne_of_lt (Heap.lt_size e)) e
    refine h.run pins _ σ H vs _ Q I1 (by simpa using rv) ⟨M0, sa, N, ρ, g, ds, ρ', S, rl, e, fun σ' S' sb o => q σ' S' ?_ o⟩
    rw [slotsT]
    exact sb
end
end DT

/-! Comprehensions. -/
namespace DT
open PySem L2 PyProof.Rows
def tIf (F : List Fn) (xi : Exs) : TT := fun σ H Q => ∃ (M0 : Ms) (sa : Addr × Addr) (N : Ms) (ρ : Rho) (g : PState) (b : Bool) (g' : PState), StOk M0 sa N H σ ρ g ∧ evI F xi ρ g = some (b, g') ∧ ∀ H', Keep (isS sa) H H' → SrcOk H' sa g' → Q b H'
def compF (F : List Fn) (xe : Ex) (t : Tg) (xi : Exs) (ρ : Rho) : D → M (Option D) := fun d => bnd (ofO (bindT t d ρ)) fun ρ' => bnd (evI F xi ρ') fun b => if b then bnd (ev F xe ρ') fun y => ret (some y) else ret none
section
variable {X : Cx} {F : List Fn} {M0 N : Ms} {sa : Addr × Addr} {H H1 : Hp} {σ τ : L2.St} {ρ : Rho} {g g1 g2 : PState} {tg a b c : Expr} {xa xe : Ex} {xi ss : Exs} {x y : D} {pos : Pos} {t : Tg} {ik : ItK}
theorem pts_nilD : PTs X [] (tIf F .nil) := by
  refine ⟨fun pins s σ H Q I h => ?_⟩
  obtain ⟨M0, sa, N, ρ, g, b, g', S, e, q⟩ := h
  rw [evI] at e
  obtain ⟨rfl, rfl⟩ := ret_some e
  exact pts_nil.run pins s σ H Q I (q H .refl S.src)
theorem pts_oneD (hc : PT X c (tC F xa)) : PTs X [c] (tIf F (.cons xa .nil)) := by
  refine ⟨fun pins s σ H Q I h => ?_⟩
  obtain ⟨M0, sa, N, ρ, g, b, g', S, e, q⟩ := h
  rw [evI] at e
  obtain ⟨x, g1, e1, f1⟩ := bnd_some e
  obtain ⟨d, g2, e2, f2⟩ := bnd_some f1
  clear e f1
  obtain ⟨rfl, rfl⟩ := toB_some e2
  refine (pts_one hc).run pins s σ H Q I ⟨M0, sa, N, ρ, g, d, _, S, e1, fun H' k r => ?_⟩
  cases d with
  | true =>
    rw [if_pos rfl, evI] at f2
    obtain ⟨rfl, rfl⟩ := ret_some f2
    exact q H' k r
  | false =>
    rw [if_neg Bool.false_ne_true] at f2
    obtain ⟨rfl, rfl⟩ := ret_some f2
    exact q H' k r
def oCons : Option D → List D → List D
  | none, r => r
  | some y, r => y :: r
def oSnoc : List D → Option D → List D
  | r, none => r
  | r, some y => r ++ [y]
theorem oCons_snoc (d r : List D) (o : Option D) : d ++ oCons o r = oSnoc d o ++ r := by
  cases o with
  | none => rfl
  | some y => simp [oCons, oSnoc]
theorem compL_cons {f : D → M (Option D)} {x : D} {xs : List D} {g : PState} {ys : List D} {g' : PState} (h : compL f (x :: xs) g = some (ys, g')) : ∃ o g1 rest, f x g = some (o, g1) ∧ compL f xs g1 = some (rest, g') ∧ ys = oCons o rest := by
  unfold compL at h
  obtain ⟨o, g1, e1, h⟩ := bnd_some h
  obtain ⟨rest, g2, e2, h⟩ := bnd_some h
  obtain ⟨rfl, rfl⟩ := ret_some h
  exact ⟨o, g1, rest, e1, e2, by cases o <;> rfl⟩
theorem RepL.snoc {N : Ms} {H : Hp} {ds : List D} {vs : List V} {d : D} {v : V} (r : RepL N H ds vs) (h : Rep N H d v) : RepL N H (ds ++ [d]) (vs ++ [v]) := RepL.append (.cons h .nil) r
theorem tLc_of (hc : (∀ d : Bool, pairK ik = true → isT t = true)) {σ : L2.St} {H : Hp} {Q : VK} (h : tX F (.comp xe t ik ss xi) σ H Q) : tLc (tIt X.K F ik ss) (gD X.K t) (tIf F xi) (tX F xe) (slotsT t) σ H Q := by
  obtain ⟨M0, sa, N, ρ, g, d, g', S, e, q⟩ := h
  rw [ev] at e
  obtain ⟨ds, g1, e1, f1⟩ := bnd_some e
  obtain ⟨xs, g2, e2, f2⟩ := bnd_some f1
  obtain ⟨ys, g3, e3, f3⟩ := bnd_some f2
  clear e f1 f2
  obtain ⟨e4, rfl⟩ := ofO_some e2
  obtain ⟨rfl, rfl⟩ := ret_some f3
  refine ⟨M0, sa, N, ρ, g, ds, _, xs, S, e1, e4, fun J H1 k1 q1 hl wk => fun D hD => ?_⟩
  have S1 := S.ext k1 q1
  have S2 := ((S1.freeze (escs ss)).plus (o := .lst []) hD).wipe (slotsT t)
  have hDs : ¬ isS sa D := fun z => q1.there z hD
  have hDN : ¬ N D := S1.noN hD
  have base : Ups (less N ρ σ (escs ss)) H1 (addM (less N ρ σ (escs ss)) D) := fun a z => z.elim .inl fun y => .inr (y ▸ hD)
  obtain ⟨wstop, wgo⟩ := wk _ base
  have f3 : compL (compF F xe t xi (wipeR (freeze (escs ss) ρ) (slotsT t))) xs g2 = some (ys, g') := e3
  -- what stands at each turn
  refine ⟨fun i m H' => m = xs.length - i ∧ i ≤ xs.length ∧ ∃ gi done acc rest, compL (compF F xe t xi (wipeR (freeze (escs ss) ρ) (slotsT t))) (xs.drop i) gi = some (rest, g') ∧ ys = done ++ rest ∧ done.length ≤ i ∧
    Keep (isS sa) H1 H' ∧ SrcOk H' sa gi ∧ H' D = some (.lst acc) ∧ RepL (addM (less N ρ σ (esi (.comp xe t ik ss xi))) D) H' done acc,
    ⟨xs.length, rfl, Nat.zero_le _, g2, [], [], ys, by rw [List.drop_zero]; exact f3, rfl, Nat.le_refl _, .new hD, q1.upd hD, upd_same, .nil⟩, ?_⟩
  rintro i m H' ⟨rfl, hi, gi, done, acc, rest, c1, c2, c3, c4, c5, c6, c7⟩
  have kN : Keep (addM (less N ρ σ (escs ss)) D) H1 H' := c4.wide fun a z => .inl ⟨S.sS a z, fun ⟨j, _, o⟩ => S.nos j a o z⟩
  by_cases hlt : i < xs.length
  · have hx : xs[i]? = some xs[i] := List.getElem?_eq_getElem hlt
    obtain ⟨go, yl⟩ := wgo i xs[i] H' hx kN
    rw [List.drop_eq_getElem_cons hlt] at c1
    obtain ⟨o, gj, rest', d1, d2, rfl⟩ := compL_cons c1
    unfold compF at d1
    obtain ⟨ρ', g4, d3, h1⟩ := bnd_some d1
    obtain ⟨bb, g5, d4, h2⟩ := bnd_some h1
    clear d1 h1
    obtain ⟨d6, rfl⟩ := ofO_some d3
    refine .inr ⟨go, fun H5 => Keep (isS sa) H1 H5 ∧ SrcOk H5 sa gj ∧ ∃ acc', H5 D = some (.lst acc') ∧ RepL (addM (less N ρ σ (esi (.comp xe t ik ss xi))) D) H5 (oSnoc done o) acc', fun H5 ⟨k5, q5, acc', a5, r5⟩ => ⟨xs.length - (i + 1), by omega, rfl, hlt, gj, (oSnoc done o), acc', rest', d2, ?_, ?_, k5, q5, a5, r5⟩, fun v H2 y2 => ?_⟩
    · rw [c2, oCons_snoc]
    · cases o with
      | none => exact Nat.le_succ_of_le c3
      | some y =>
        show (done ++ [y]).length ≤ i + 1
        rw [List.length_append]
        exact Nat.succ_le_succ c3
    obtain ⟨kk, im⟩ := yl v H2 y2
    have c5' : SrcOk H2 sa g4 := ⟨kk _ _ c5.1, kk _ _ c5.2.1, c5.2.2⟩
    have k12 : Keep (isS sa) H1 H2 := c4.trans fun a u e _ => kk a u e
    -- the state of the block
    have S3 : StOk (addM M0 D) sa (addM (less N ρ σ (escs ss)) D) H2 (L2.wipe σ (slotsT t)) (wipeR (freeze (escs ss) ρ) (slotsT t)) g4 := by
      have kD : Keep (isS sa) (upd H1 D (.lst [])) (upd H2 D (.lst [])) := fun a u e n => by
        by_cases z : a = D
        · subst z
          rw [upd_same] at e ⊢
          exact e
        · rw [upd_ne z] at e ⊢
          exact k12 a u e n
      refine ⟨S2.len, fun j s e => ?_, S2.inj, S2.sub, S2.srcIn, fun a z => ?_, c5'⟩
      · obtain ⟨w, w1, w2⟩ := S2.slot j s e
        refine ⟨w, w1, ?_⟩
        have tr : ∀ a u, upd H1 D (.lst []) a = some u → ¬ addM (less N ρ σ (escs ss)) D a → H2 a = some u ∧ ¬ addM (less N ρ σ (escs ss)) D a := fun a u e n => by
          have z : a ≠ D := fun z => n (.inr z)
          rw [upd_ne z] at e
          exact ⟨k12 a u e fun y => n (.inl ⟨S.sS a y, fun ⟨j, _, o⟩ => S.nos j a o y⟩), n⟩
        cases s with
        | src => exact w2
        | d bq x =>
          cases bq with
          | false => exact Rep.tr tr w2
          | true =>
            refine ⟨w2.1.tr tr fun m a u ev hu => ?_, w2.2⟩
            obtain ⟨a', ev', h1, h2⟩ := w2.2 m
            rw [ev] at ev'
            cases ev'
            have z : a ≠ D := fun z => h2 (.inr z)
            rw [upd_ne z] at hu
            exact k12 a u hu fun y => h2 (.inl (S.srcIn a y))
      · rcases z with z | z
        · by_cases hs : isS sa a
          · exact c5'.there hs
          · cases e : H1 a with
            | none => exact (S1.mt a z.1 e).elim
            | some u =>
              rw [k12 a u e hs]
              exact fun y => by cases y
        · rw [z, kk D _ c6]
          exact fun y => by cases y
    refine ⟨addM M0 D, sa, addM (less N ρ σ (escs ss)) D, _, g4, xs[i], pairK ik, ρ', S3, im, hc true, d6, fun σ' S4 sb own => ⟨wipe_same sb, addM M0 D, sa, addM (less N ρ σ (escs ss)) D, ρ', g4, bb, g5, S4, d4, fun H3 k3 q3 => ?_⟩⟩
    have acc3 : H3 D = some (.lst acc) := k3 D _ (kk D _ c6) hDs
    have r3 : RepL (addM (less N ρ σ (esi (.comp xe t ik ss xi))) D) H3 done acc := (c7.keep (fun a u e _ => kk a u e)).keep (k3.wide fun a z => .inl ⟨S.sS a z, fun ⟨j, _, o⟩ => S.nos j a o z⟩)
    cases bb with
    | false =>
      rw [if_neg Bool.false_ne_true] at h2
      obtain ⟨rfl, rfl⟩ := ret_some h2
      refine iteF ?_
      exact ⟨k12.trans k3, q3, acc, acc3, r3⟩
    | true =>
      rw [if_pos rfl] at h2
      refine iteT ?_
      obtain ⟨y, g6, d5, h3⟩ := bnd_some h2
      clear h2
      obtain ⟨rfl, rfl⟩ := ret_some h3
      refine ⟨addM M0 D, sa, addM (less N ρ σ (escs ss)) D, ρ', g5, y, _, S4.ext k3 q3, d5, fun w H4 r4 => ?_⟩
      have acc4 : H4 D = some (.lst acc) := r4.keep D _ acc3 hDs
      have r4' : RepL (addM (less N ρ σ (esi (.comp xe t ik ss xi))) D) H4 done acc := r3.keep (r4.keep.wide fun a z => .inl ⟨S.sS a z, fun ⟨j, _, o⟩ => S.nos j a o z⟩)
      have ry : Rep (addM (less N ρ σ (esi (.comp xe t ik ss xi))) D) H4 y w := by
        refine r4.vo.rep.anti fun a z => ?_
        have ow : ∀ j, Own ρ' σ' j a → Own ρ σ j a ∧ a ≠ D := fun j o => by
          have o1 := own_wipe (own j a o)
          exact ⟨(own_freeze o1).1, fun z => (S4.own o).2 (.inr z)⟩
        rcases z with z | z
        · refine ⟨.inl ⟨z.1, fun ⟨j, hj, o⟩ => z.2 ⟨j, List.mem_append_left _ hj, o⟩⟩, fun ⟨j, hj, o⟩ => z.2 ⟨j, ?_, (ow j o).1⟩⟩
          exact List.mem_append_right _ hj
        · exact ⟨.inr z, fun ⟨j, hj, o⟩ => (ow j o).2 z⟩
      have hz : acc.length < sizeLine := by
        rw [r4'.length, ← lineEq]
        omega
      have kU : Keep (addM (less N ρ σ (esi (.comp xe t ik ss xi))) D) H4 (upd H4 D (.lst (acc ++ [w]))) := .mut (.inr rfl)
      refine ⟨acc, acc4, hz, fun a u e n => ?_, ?_, acc ++ [w], upd_same, (r4'.snoc ry).keep kU⟩
      · have z : a ≠ D := fun z => by
          rw [z, hD] at e
          cases e
        rw [upd_ne z]
        exact r4.keep a u (k3 a u (k12 a u e n) n) n
      · have s1 : sa.1 ≠ D := fun z => hDs (.inl z.symm)
        have s2 : sa.2 ≠ D := fun z => hDs (.inr z.symm)
        exact ⟨by rw [upd_ne s1]; exact r4.src.1, by rw [upd_ne s2]; exact r4.src.2.1, r4.src.2.2⟩
  · have ei : i = xs.length := by omega
    subst ei
    rw [List.drop_length] at c1
    unfold compL at c1
    obtain ⟨rfl, rfl⟩ := ret_some c1
    rw [List.append_nil] at c2
    subst c2
    have kk := k1.trans c4
    have lenD : ys.length ≤ LINE := by omega
    have hD0 : H D = none := k1.free hD hDs
    have top : Top (addM (less N ρ σ (esi (.comp xe t ik ss xi))) D) H' (.list ys) (.ref D) := ⟨lenD, D, acc, rfl, c6, c7⟩
    exact .inl ⟨wstop H' kN, q _ H' ⟨kk, c5, ⟨top.anti fun a z => .inl z, fun _ a ev n => by cases ev; exact (hDN n).elim, fun _ a ev => by cases ev; exact hDs⟩, fun _ _ => ⟨D, rfl, hD0, top⟩⟩⟩
theorem pe_lcD {elt iter : Expr} {ifs : List Expr} {scope : Scope} {own : List (Str × Nat)} (hcp : ∀ d : Bool, pairK ik = true → isT t = true) (hc : X.calm = true) (hN : X.N.Nodup) (hi : PI X tg iter (tIt X.K F ik ss)) (ok : BlkOk X.N X.env.scope scope own) (hown : own.map (·.2) = slotsT t)
    (hg : ∀ (s : Shared) (H : Hp) (C : Addr) (cl : List (Str × Addr)) (fp : List Addr), PG (X.blk s H scope (compEnvC scope cl C X.env) fp) tg (gD X.K t)) (ht : ∀ (s : Shared) (H : Hp) (C : Addr) (cl : List (Str × Addr)) (fp : List Addr), PTs (X.blk s H scope (compEnvC scope cl C X.env) fp) ifs (tIf F xi))
    (he : ∀ (s : Shared) (H : Hp) (C : Addr) (cl : List (Str × Addr)) (fp : List Addr), PE (X.blk s H scope (compEnvC scope cl C X.env) fp) elt (tX F xe)) (hs : ∀ x, foldedSetIterable iter X.env x = pure x) :
    PE X (.ListComp elt [⟨tg, iter, ifs, 0⟩] scope pos) (tX F (.comp xe t ik ss xi)) :=
  ⟨fun pins s σ H Q I h => (pe_lc hc hN hi ok hg ht he hs).run pins s σ H Q I (by rw [hown]; exact tLc_of hcp h)⟩
end
end DT

/-! Statements. -/
namespace DT
open PySem L2 PyProof.Rows
/-- what a statement may change of what stood ahead of it -/
def Mv (M0 : Ms) (sa : Addr × Addr) (N : Ms) : Ms := fun a => N a ∧ (M0 a → isS sa a)
structure Nxt (M0 : Ms) (sa : Addr × Addr) (N : Ms) (H : Hp) (N' : Ms) (H' : Hp) : Prop where
  keep : Keep (Mv M0 sa N) H H'
  ups : Ups N H N'
def Fin (D : Ends) (M0 : Ms) : Fl → L2.St → Hp → Prop
  | .nx, σ, H => D.nx σ H
  | .ct, σ, H => D.ct σ H
  | .rt d, _, H => ∀ v, Rep M0 H d v → D.rt v H
/-- the end, and for a return its value -/
def Out (D : Ends) (M0 : Ms) (sa : Addr × Addr) (N : Ms) (H : Hp) (f : Fl) (ρ' : Rho) (g' : PState) : Prop := match f with
  | .nx => ∀ σ' H' N', Nxt M0 sa N H N' H' → StOk M0 sa N' H' σ' ρ' g' → D.nx σ' H'
  | .ct => ∀ σ' H' N', Nxt M0 sa N H N' H' → StOk M0 sa N' H' σ' ρ' g' → D.ct σ' H'
  | .rt d => ∀ v H', Keep (Mv M0 sa N) H H' → SrcOk H' sa g' → Rep M0 H' d v → D.rt v H'
def tS (F : List Fn) (x : Sx) : TS := fun D σ H => ∃ (M0 : Ms) (sa : Addr × Addr) (N : Ms) (ρ : Rho) (g : PState) (f : Fl) (ρ' : Rho) (g' : PState), StOk M0 sa N H σ ρ g ∧ ex F x ρ g = some ((f, ρ'), g') ∧ Out D M0 sa N H f ρ' g'
def tSs (F : List Fn) (x : Sxs) : TS := fun D σ H => ∃ (M0 : Ms) (sa : Addr × Addr) (N : Ms) (ρ : Rho) (g : PState) (f : Fl) (ρ' : Rho) (g' : PState), StOk M0 sa N H σ ρ g ∧ exs F x ρ g = some ((f, ρ'), g') ∧ Out D M0 sa N H f ρ' g'
section
variable {X : Cx} {F : List Fn} {M0 N N1 N2 : Ms} {sa : Addr × Addr} {H H1 H2 : Hp} {σ σ' : L2.St} {ρ ρ' : Rho} {g g1 g2 g' : PState} {tg a b c e : Expr} {xa xe : Ex} {x y d : D} {pos : Pos} {D : Ends} {f : Fl}
theorem Nxt.refl : Nxt M0 sa N H N H := ⟨.refl, fun _ z => .inl z⟩
theorem Mv.back (u : Ups N H N1) {a : Addr} {o : HO} (e : H a = some o) (m : Mv M0 sa N1 a) : Mv M0 sa N a := ⟨(u a m.1).elim id fun z => (by rw [e] at z; cases z), m.2⟩
theorem Nxt.keepOn (a : Nxt M0 sa N H N1 H1) (k : Keep (Mv M0 sa N1) H1 H2) : Keep (Mv M0 sa N) H H2 := fun p o e n => k p o (a.keep p o e n) fun m => n (m.back a.ups e)
theorem Nxt.free (a : Nxt M0 sa N H N1 H1) (S : StOk M0 sa N H σ ρ g) {p : Addr} (e : H1 p = none) : N p ∨ H p = none := by
  by_cases n : N p
  · exact .inl n
  · refine .inr ?_
    cases q : H p with
    | none => rfl
    | some o =>
      rw [a.keep p o q fun m => n m.1] at e
      cases e
theorem Nxt.trans (a : Nxt M0 sa N H N1 H1) (S : StOk M0 sa N H σ ρ g) (b : Nxt M0 sa N1 H1 N2 H2) : Nxt M0 sa N H N2 H2 :=
  ⟨a.keepOn b.keep, fun p z => (b.ups p z).elim (a.ups p) (a.free S)⟩
theorem Out.from (a : Nxt M0 sa N H N1 H1) (S : StOk M0 sa N H σ ρ g) (o : Out D M0 sa N H f ρ' g') : Out D M0 sa N1 H1 f ρ' g' := by
  cases f with
  | nx => exact fun σ' H' N' n => o σ' H' N' (a.trans S n)
  | ct => exact fun σ' H' N' n => o σ' H' N' (a.trans S n)
  | rt d => exact fun v H' k => o v H' (a.keepOn k)
theorem StOk.mv (S : StOk M0 sa N H σ ρ g) {a : Addr} (h : isS sa a) : Mv M0 sa N a := ⟨S.sS a h, fun _ => h⟩
/-- behind an expression -/
theorem StOk.nxt (S : StOk M0 sa N H σ ρ g) (k : Keep (isS sa) H H1) (is : List Nat) : Nxt M0 sa N H (less N ρ σ is) H1 := ⟨k.wide fun _ => S.mv, fun _ z => .inl z.1⟩

/-! ### blocks -/
theorem pss_nilD : PSs X [] (tSs F .nil) := by
  refine ⟨fun pins s σ H D I h => ?_⟩
  obtain ⟨M0, sa, N, ρ, g, f, ρ', g', S, e, o⟩ := h
  rw [exs] at e
  obtain ⟨e1, rfl⟩ := ret_some e
  cases e1
  exact pss_nil.run pins s σ H D I (o σ H N .refl S)
theorem seq_of {xs : Sx} {xr : Sxs} (h : tSs F (.cons xs xr) D σ H) : tSeq (tS F xs) (tSs F xr) D σ H := by
  obtain ⟨M0, sa, N, ρ, g, f, ρ', g', S, e, o⟩ := h
  rw [exs] at e
  obtain ⟨⟨f1, ρ1⟩, g1, e1, e2⟩ := bnd_some e
  clear e
  refine ⟨M0, sa, N, ρ, g, f1, ρ1, g1, S, e1, ?_⟩
  cases f1 with
  | nx => exact fun σ' H' N' n S' => ⟨M0, sa, N', ρ1, g1, f, ρ', g', S', e2, o.from n S⟩
  | ct =>
    obtain ⟨e3, rfl⟩ := ret_some e2
    cases e3
    exact o
  | rt d =>
    obtain ⟨e3, rfl⟩ := ret_some e2
    cases e3
    exact o
theorem pss_consD {st : Stmt} {rest : List Stmt} {xs : Sx} {xr : Sxs} (h1 : PS X st (tS F xs)) (h2 : PSs X rest (tSs F xr)) : PSs X (st :: rest) (tSs F (.cons xs xr)) :=
  ⟨fun pins s σ H D I h => (pss_cons h1 h2).run pins s σ H D I (seq_of h)⟩
theorem ps_passD : PS X (.Pass pos) (tS F .pass) := by
  refine ⟨fun pins s σ H D I h => ?_⟩
  obtain ⟨M0, sa, N, ρ, g, f, ρ', g', S, e, o⟩ := h
  rw [ex] at e
  obtain ⟨e1, rfl⟩ := ret_some e
  cases e1
  exact ps_pass.run pins s σ H D I (o σ H N .refl S)
theorem ps_contD : PS X (.Continue pos) (tS F .cont) := by
  refine ⟨fun pins s σ H D I h => ?_⟩
  obtain ⟨M0, sa, N, ρ, g, f, ρ', g', S, e, o⟩ := h
  rw [ex] at e
  obtain ⟨e1, rfl⟩ := ret_some e
  cases e1
  exact ps_continue.run pins s σ H D I (o σ H N .refl S)
theorem ps_neverD {st : Stmt} : PS X st (tS F .never) := by
  refine ⟨fun pins s σ H D I h => ?_⟩
  obtain ⟨M0, sa, N, ρ, g, f, ρ', g', S, e, o⟩ := h
  rw [ex] at e
  cases e
theorem ps_retD (he : PE X e (tX F xe)) : PS X (.Return (some e) pos) (tS F (.ret xe)) := by
  refine ⟨fun pins s σ H D I h => ?_⟩
  obtain ⟨M0, sa, N, ρ, g, f, ρ', g', S, e, o⟩ := h
  rw [ex] at e
  obtain ⟨d, g1, e1, e2⟩ := bnd_some e
  clear e
  obtain ⟨e3, rfl⟩ := ret_some e2
  cases e3
  refine (ps_ret he).run pins s σ H D I ⟨M0, sa, N, ρ, g, d, _, S, e1, fun v H1 r => o v H1 (r.keep.wide fun _ => S.mv) r.src (r.vo.rep.anti fun _ z => S.lessSub z)⟩
theorem ps_ifD {t : Expr} {p q : List Stmt} {xt : Ex} {xp xq : Sxs} (ht : PT X t (tC F xt)) (hp : PSs X p (tSs F xp)) (hq : PSs X q (tSs F xq)) : PS X (.If t p q pos) (tS F (.iff xt xp xq)) := by
  refine ⟨fun pins s σ H D I h => ?_⟩
  obtain ⟨M0, sa, N, ρ, g, f, ρ', g', S, e, o⟩ := h
  rw [ex] at e
  obtain ⟨x, g1, e1, f1⟩ := bnd_some e
  obtain ⟨b, g2, e2, f2⟩ := bnd_some f1
  clear e f1
  obtain ⟨rfl, rfl⟩ := toB_some e2
  refine (ps_if ht hp hq).run pins s σ H D I ⟨M0, sa, N, ρ, g, b, _, S, e1, fun H1 k r => ?_⟩
  have n : Nxt M0 sa N H N H1 := ⟨k.wide fun _ => S.mv, fun _ z => .inl z⟩
  cases b with
  | true => exact iteT ⟨M0, sa, N, ρ, _, f, ρ', g', S.ext k r, f2, o.from n S⟩
  | false => exact iteF ⟨M0, sa, N, ρ, _, f, ρ', g', S.ext k r, f2, o.from n S⟩

/-! ### stores -/
theorem own_setT {i j : Nat} {p : Addr} {bq : Bool} {v : V} (h : Own (ρ.set i (some (.d bq d))) (σ.set i (some v)) j p) (ne : j ≠ i) : Own ρ σ j p := by
  obtain ⟨y, h1, h2, h3⟩ := h
  rw [List.getElem?_set_ne (Ne.symm ne)] at h1 h3
  exact ⟨y, h1, h2, h3⟩
theorem own_setI {i : Nat} {p : Addr} {bq : Bool} {v : V} (h : Own (ρ.set i (some (.d bq d))) (σ.set i (some v)) i p) : bq = true ∧ isMut d = true ∧ v = .ref p := by
  obtain ⟨hl, hl'⟩ := own_len h
  rw [List.length_set] at hl hl'
  obtain ⟨y, h1, h2, h3⟩ := h
  rw [List.getElem?_set_self hl] at h1
  rw [List.getElem?_set_self hl'] at h3
  cases h1
  cases h3
  exact ⟨rfl, h2, rfl⟩
/-- a slot takes a value: one of the others, or a new one of its own -/
theorem StOk.put (S : StOk M0 sa N H σ ρ g) (i : Nat) {bq : Bool} {v : V} (h : if (bq && isMut d) = true then Top N H d v ∧ ∃ p, v = .ref p ∧ N p ∧ ¬ M0 p ∧ ∀ j, ¬ Own ρ σ j p else Rep N H d v) : StOk M0 sa N H (σ.set i (some v)) (ρ.set i (some (.d bq d))) g := by
  have ok : SlOk M0 sa N H (.d bq d) v := by
    cases bq with
    | false => exact h
    | true =>
      cases m : isMut d with
      | true =>
        rw [if_pos (by rw [m]; rfl)] at h
        obtain ⟨t, p, e, h1, h2, _⟩ := h
        exact ⟨t, fun _ => ⟨p, e, h1, h2⟩⟩
      | false =>
        rw [if_neg (by rw [m]; exact Bool.false_ne_true)] at h
        exact ⟨h.top, fun z => by rw [m] at z; cases z⟩
  have alone : ∀ (j : Nat) (p : Addr), j ≠ i → Own ρ σ j p → ¬ (bq = true ∧ isMut d = true ∧ v = .ref p) := fun j p ne o ⟨z1, z2, z3⟩ => by
    subst z1
    rw [if_pos (by rw [z2]; rfl)] at h
    obtain ⟨_, p', e, _, _, no⟩ := h
    rw [z3] at e
    cases e
    exact no j o
  refine ⟨by rw [List.length_set, List.length_set, S.len], fun j s hs => ?_, fun j k p o o' => ?_, S.sub, S.srcIn, S.mt, S.src⟩
  · by_cases e : i = j
    · subst e
      by_cases hl : i < ρ.length
      · rw [List.getElem?_set_self hl] at hs
        cases hs
        exact ⟨v, by rw [List.getElem?_set_self (by rw [← S.len]; exact hl)], ok⟩
      · rw [List.getElem?_eq_none (by rw [List.length_set]; omega)] at hs
        cases hs
    · rw [List.getElem?_set_ne e] at hs ⊢
      exact S.slot j s hs
  · by_cases ej : j = i
    · by_cases ek : k = i
      · rw [ej, ek]
      · subst ej
        exact (alone k p ek (own_setT o' ek) (own_setI o)).elim
    · by_cases ek : k = i
      · subst ek
        exact (alone j p ej (own_setT o ej) (own_setI o')).elim
      · exact S.inj j k p (own_setT o ej) (own_setT o' ek)
/-- new objects come under N -/
def addL (N : Ms) (l : List Addr) : Ms := fun b => N b ∨ b ∈ l
theorem StOk.grow (S : StOk M0 sa N H σ ρ g) (k : Keep (isS sa) H H1) (q : SrcOk H1 sa g') {l : List Addr} (hl : ∀ p, p ∈ l → H p = none ∧ H1 p ≠ none) : StOk M0 sa (addL N l) H1 σ ρ g' := by
  have tr : ∀ p u, H p = some u → ¬ N p → H1 p = some u ∧ ¬ addL N l p := fun p u e n => ⟨k p u e fun z => n (S.sS p z), fun z => z.elim n fun y => by rw [(hl p y).1] at e; cases e⟩
  refine ⟨S.len, fun i s h => ?_, S.inj, fun p h => .inl (S.sub p h), S.srcIn, fun p h => ?_, q⟩
  · obtain ⟨v, e1, e2⟩ := S.slot i s h
    refine ⟨v, e1, ?_⟩
    cases s with
    | src => exact e2
    | d b x =>
      cases b with
      | false => exact Rep.tr tr e2
      | true =>
        refine ⟨e2.1.tr tr fun m p u ev e => ?_, fun m => ?_⟩
        · obtain ⟨p', ev', _, hm⟩ := e2.2 m
          rw [ev] at ev'
          cases ev'
          exact k p u e fun z => hm (S.srcIn p z)
        · obtain ⟨p, ev, hp, hm⟩ := e2.2 m
          exact ⟨p, ev, .inl hp, hm⟩
  · rcases h with h | h
    · exact (S.ext k q).mt p h
    · exact (hl p h).2
theorem StOk.noOwn (S : StOk M0 sa N H σ ρ g) {p : Addr} (h : H p = none) (i : Nat) : ¬ Own ρ σ i p := fun o => S.mt p (S.own o).1 h
/-- slot i = e: what is left to the code -/
theorem set_of {i : Nat} (h : tS F (.set i xe) D σ H) : tX F xe σ H fun v H1 => D.nx (σ.set i (some v)) H1 := by
  obtain ⟨M0, sa, N, ρ, g, f, ρ', g', S, e, o⟩ := h
  rw [ex] at e
  obtain ⟨d, g1, e1, e2⟩ := bnd_some e
  clear e
  obtain ⟨e3, rfl⟩ := ret_some e2
  cases e3
  refine ⟨M0, sa, N, ρ, g, d, _, S, e1, fun v H1 r => ?_⟩
  cases m : (fresh xe && isMut d) with
  | false =>
    refine o _ H1 _ (S.nxt r.keep (esc xe)) ?_
    refine ((S.ext r.keep r.src).freeze (esc xe)).put i ?_
    rw [if_neg (by rw [m]; exact Bool.false_ne_true)]
    exact r.vo.rep
  | true =>
    obtain ⟨m1, m2⟩ := Bool.and_eq_true_iff.mp m
    obtain ⟨p, rfl, hp, top⟩ := r.fr m1 m2
    have hp1 : H1 p ≠ none := by
      cases d with
      | list ds =>
        obtain ⟨_, q, vs, eq, h, _⟩ := top
        cases eq
        rw [h]
        exact fun z => by cases z
      | dict ds =>
        obtain ⟨_, q, _, vs, eq, h, _⟩ := top
        cases eq
        obtain ⟨o, ho⟩ := h.obj
        rw [ho]
        exact fun z => by cases z
      | _ => cases m2
    have S2 := (S.freeze (esc xe)).grow r.keep r.src (l := [p]) fun q hq => by
      rw [List.mem_singleton.mp hq]
      exact ⟨hp, hp1⟩
    refine o _ H1 (addL (less N ρ σ (esc xe)) [p]) ⟨r.keep.wide fun _ => S.mv, fun q z => z.elim (fun y => .inl y.1) fun y => .inr (by rw [List.mem_singleton.mp y]; exact hp)⟩ (S2.put i ?_)
    rw [if_pos m]
    refine ⟨top.anti fun q z => ?_, p, rfl, .inr (List.mem_singleton.mpr rfl), fun z => S.mt p (S.sub p z) hp, (S.freeze (esc xe)).noOwn hp⟩
    rcases z with z | z
    · exact .inl (less_mono (fun _ hi => List.mem_append_left _ hi) z)
    · exact .inr (List.mem_singleton.mp z)
theorem ps_setD {i : Nat} {nm : Str} {p' : Pos} (hN : X.N.Nodup) (hi : X.N[i]? = some nm) (hx : Loc X.env.scope nm) (he : PE X e (tX F xe)) (hs : swapsWith e (some (.Name nm p')) pos.line X.env = pure false) (hf : X.fn nm = true ∨ X.env.scope.names.lookup nm = some .local) :
    PS X (.Assign [.Name nm p'] e pos) (tS F (.set i xe)) :=
  ⟨fun pins s σ H D I h => (ps_set hN hi hx he hs hf).run pins s σ H D I (set_of h)⟩
theorem ps_unpD {t : Tg} (he : PE X e (tX F xe)) (hg : PG X tg (gD X.K t)) (hs : swapsWithSole [tg] e pos.line X.env = pure false) (hw : swappedStores [tg] e X.env = pure none) (h1 : (assignEach [tg] X.env).map (·.2) = [assign tg X.env]) : PS X (.Assign [tg] e pos) (tS F (.unp t xe)) := by
  refine ⟨fun pins s σ H D I h => (ps_asg he hg hs hw h1).run pins s σ H D I ?_⟩
  obtain ⟨M0, sa, N, ρ, g, f, ρ', g', S, e, o⟩ := h
  rw [ex] at e
  obtain ⟨d, g1, e1, f1⟩ := bnd_some e
  obtain ⟨ρ1, g2, e2, f2⟩ := bnd_some f1
  clear e f1
  obtain ⟨e3, rfl⟩ := ofO_some e2
  obtain ⟨e4, rfl⟩ := ret_some f2
  cases e4
  refine ⟨M0, sa, N, ρ, g, d, _, S, e1, fun v H1 r => ?_⟩
  exact ⟨M0, sa, less N ρ σ (esc xe), freeze (esc xe) ρ, _, d, false, ρ', (S.ext r.keep r.src).freeze (esc xe), r.vo.rep, (fun z => by cases z), e3, fun σ' S' _ _ => o σ' H1 _ (S.nxt r.keep (esc xe)) S'⟩
end
end DT

/-! append, extend, loops. -/
namespace DT
open PySem L2 PyProof.Rows
section
variable {X : Cx} {F : List Fn} {M0 N N1 N2 : Ms} {sa : Addr × Addr} {H H1 H2 : Hp} {σ σ' : L2.St} {ρ ρ' : Rho} {g g1 g2 g' : PState} {tg a b c e : Expr} {xa xe : Ex} {x y d : D} {pos : Pos} {D : Ends} {f : Fl}
/-- the object that slot i owns is rewritten -/
theorem StOk.write {i : Nat} {p : Addr} {u : HO} (S : StOk M0 sa N H σ ρ g) (o : Own ρ σ i p) (m : isMut d = true) (t : Top N (upd H p u) d (.ref p)) : StOk M0 sa N (upd H p u) σ (ρ.set i (some (.d true d))) g := by
  obtain ⟨hp, hm⟩ := S.own o
  have k : Keep N H (upd H p u) := .mut hp
  have own : ∀ {j : Nat} {q : Addr}, Own (ρ.set i (some (.d true d))) σ j q → Own ρ σ j q := fun {j q} h => by
    by_cases e : i = j
    · subst e
      obtain ⟨y, h1, h2, h3⟩ := o
      obtain ⟨y', h1', h2', h3'⟩ := h
      exact ⟨y, h1, h2, h3'⟩
    · obtain ⟨y, h1, h2, h3⟩ := h
      rw [List.getElem?_set_ne e] at h1
      exact ⟨y, h1, h2, h3⟩
  refine ⟨by rw [List.length_set, S.len], fun j s hs => ?_, fun j j' q o1 o2 => S.inj j j' q (own o1) (own o2), S.sub, S.srcIn, fun q hq => ?_, ?_⟩
  · by_cases e : i = j
    · subst e
      have hl := (own_len o).1
      rw [List.getElem?_set_self hl] at hs
      cases hs
      obtain ⟨_, _, _, h3⟩ := o
      exact ⟨.ref p, h3, t, fun _ => ⟨p, rfl, hp, hm⟩⟩
    · rw [List.getElem?_set_ne e] at hs
      obtain ⟨v, e1, e2⟩ := S.slot j s hs
      refine ⟨v, e1, ?_⟩
      cases s with
      | src => exact e2
      | d bq y =>
        cases bq with
        | false => exact Rep.keep e2 k
        | true =>
          refine ⟨e2.1.tr (fun q u e n => ⟨k q u e n, n⟩) fun m q u ev hu => ?_, e2.2⟩
          have ne : q ≠ p := fun z => e (S.inj i j p o ⟨y, hs, m, by rw [e1, ev, z]⟩)
          rw [upd_ne ne]
          exact hu
  · by_cases e : q = p
    · subst e
      rw [upd_same]
      exact fun z => by cases z
    · rw [upd_ne e]
      exact S.mt q hq
  · have s1 : sa.1 ≠ p := fun z => hm (S.srcIn p (.inl z.symm))
    have s2 : sa.2 ≠ p := fun z => hm (S.srcIn p (.inr z.symm))
    exact ⟨by rw [upd_ne s1]; exact S.src.1, by rw [upd_ne s2]; exact S.src.2.1, S.src.2.2⟩
theorem own_frz {is : List Nat} {i : Nat} {p : Addr} (o : Own ρ σ i p) (h : i ∉ is) : Own (freeze is ρ) σ i p := by
  obtain ⟨y, h1, h2, h3⟩ := o
  exact ⟨y, by rw [freeze_get, if_neg h]; exact h1, h2, h3⟩
/-- slot i holds a list of its own, also behind e -/
theorem mine_list {is : List Nat} {i : Nat} {xs : List DT.D} (S : StOk M0 sa N H σ ρ g) (h : (freeze is ρ)[i]? = some (some (.d true (.list xs)))) : ∃ p, i ∉ is ∧ Own ρ σ i p ∧ σ[i]? = some (some (.ref p)) ∧ ∃ vs, H p = some (.lst vs) ∧ RepL N H xs vs := by
  rcases freeze_slot h with ⟨hi, e⟩ | ⟨hi, s0, e, ef⟩
  · obtain ⟨v, e1, t, m⟩ := S.slot i _ e
    obtain ⟨_, p, vs, rfl, h1, r⟩ := t
    exact ⟨p, hi, ⟨_, e, rfl, e1⟩, e1, vs, h1, r⟩
  · cases s0 with
    | src => cases ef
    | d b x => cases ef
theorem tyV_list {K : PySem.W.Frag} {p : Addr} {vs : List V} (h : H p = some (.lst vs)) : tyV K "list" (.ref p) H := .inl ⟨rfl, vs, .of h⟩
/-- both methods that make a list longer -/
theorem mut_nxt {is : List Nat} {p : Addr} {u : HO} (S : StOk M0 sa N H σ ρ g) (k : Keep (isS sa) H H1) (hp : N p) (hm : ¬ M0 p) : Nxt M0 sa N H (less N ρ σ is) (upd H1 p u) :=
  ⟨fun q o e n => by
    have ne : q ≠ p := fun z => n (z ▸ ⟨hp, fun y => (hm y).elim⟩)
    rw [upd_ne ne]
    exact k q o e fun y => n (S.mv y), fun _ z => .inl z.1⟩
theorem app_inv {so : Option (Option Sl)} {k : List DT.D → Fl × Rho} {g : PState} {r : Fl × Rho} {g' : PState}
    (h : (match so with
      | some (some (.d true (.list xs))) => if decide (xs.length < LINE) then ret (k xs) else fail
      | _ => fail) g = some (r, g')) : ∃ xs, so = some (some (.d true (.list xs))) ∧ xs.length < LINE ∧ k xs = r ∧ g' = g := by
  rcases so with _ | _ | _ | ⟨b, z⟩
  · cases h
  · cases h
  · cases h
  · cases b with
    | false => cases h
    | true =>
      cases z with
      | list xs =>
        have h' : (if decide (xs.length < LINE) then ret (k xs) else fail) g = some (r, g') := h
        by_cases c : xs.length < LINE
        · rw [if_pos (decide_eq_true c)] at h'
          obtain ⟨e, e'⟩ := ret_some h'
          exact ⟨xs, rfl, c, e, e'⟩
        · rw [if_neg (by rw [decide_eq_true_eq]; exact c)] at h'
          cases h'
      | _ => cases h
theorem ext_inv {so : Option (Option Sl)} {d : DT.D} {k : List DT.D → List DT.D → Fl × Rho} {g : PState} {r : Fl × Rho} {g' : PState}
    (h : (match d, so with
      | .list ys, some (some (.d true (.list xs))) => if decide (xs.length + ys.length ≤ LINE) then ret (k ys xs) else fail
      | _, _ => fail) g = some (r, g')) : ∃ ys xs, d = .list ys ∧ so = some (some (.d true (.list xs))) ∧ xs.length + ys.length ≤ LINE ∧ k ys xs = r ∧ g' = g := by
  cases d with
  | list ys =>
    rcases so with _ | _ | _ | ⟨b, z⟩
    · cases h
    · cases h
    · cases h
    · cases b with
      | false => cases h
      | true =>
        cases z with
        | list xs =>
          have h' : (if decide (xs.length + ys.length ≤ LINE) then ret (k ys xs) else fail) g = some (r, g') := h
          by_cases c : xs.length + ys.length ≤ LINE
          · rw [if_pos (decide_eq_true c)] at h'
            obtain ⟨e, e'⟩ := ret_some h'
            exact ⟨ys, xs, rfl, rfl, c, e, e'⟩
          · rw [if_neg (by rw [decide_eq_true_eq]; exact c)] at h'
            cases h'
        | _ => cases h
  | _ => cases h
theorem ps_appD {i : Nat} {nm : Str} {p1 apos cpos : Pos} (hN : X.N[i]? = some nm) (hv : Vis X.env.scope nm) (hd : (nm == ("__debug__" : Str)) = false) (hcd : (nm == ("__classdict__" : Str)) = false) (he : PE X e (tX F xe))
    (hbase : attributeBase (.Name nm p1) "append" X.env (eval (.Name nm p1) X.env) = eval (.Name nm p1) X.env)
    (hfew : ((backTo cpos (starEach [e] X.env)).all (fun x => !x.1) && (backToKw cpos (keywordEach [] X.env)).all (fun x => x.1.isSome) && decide ([e].length + ([] : List Keyword).length + (if ([] : List Keyword).isEmpty then 0 else 1) < 30)) = true)
    (hline : (apos.endLine == cpos.line) = true) (hs : starEach [e] X.env = (false, eval e X.env) :: starEach [] X.env) (hplain : (backTo cpos (starEach [] X.env)).any (·.1) = false)
    (hsw : swapsWith (.Call (.Attribute (.Name nm p1) "append" apos) [e] [] cpos) none pos.line X.env = pure false) :
    PS X (.Expr (.Call (.Attribute (.Name nm p1) "append" apos) [e] [] cpos) pos) (tS F (.app i xe)) := by
  refine ⟨fun pins s σ H D I h => (ps_expr (pe_bm PySem.F.plainAttrs_list PySem.F.slot_list_append PySem.F.type_list_append mt_append (pe_var hN hv hd hcd) (pa_cons he pa_nil hs) hbase hfew hline hs hplain) hsw).run pins s σ H D I ?_⟩
  obtain ⟨M0, sa, N, ρ, g, f, ρ', g', S, e, o⟩ := h
  rw [ex] at e
  obtain ⟨d, g1, e1, e2⟩ := bnd_some e
  clear e
  obtain ⟨xs, hslot, hlen, e3, rfl⟩ := app_inv e2
  · · cases e3
      obtain ⟨p, hi, ow, hσ, vs, hp, rl⟩ := mine_list S hslot
      refine ⟨.ref p, hσ, tyV_list hp, M0, sa, N, ρ, g, d, _, S, e1, fun v H1 r => ?_⟩
      have S1 := S.ext r.keep r.src
      obtain ⟨p', _, _, hσ', vs', hp', rl'⟩ := mine_list S1 hslot
      rw [hσ] at hσ'
      cases hσ'
      obtain ⟨hN1, hM⟩ := S.own ow
      have S2 := S1.freeze (esc xe)
      have low : less N ρ σ (esc xe) p := ⟨hN1, fun ⟨j, hj, oj⟩ => hi (S.inj i j p ow oj ▸ hj)⟩
      refine ⟨p, vs', v, rfl, rfl, hp', by rw [rl'.length, ← lineEq]; exact hlen, ?_⟩
      refine o σ _ _ (mut_nxt S r.keep hN1 hM) (S2.write (own_frz ow hi) rfl ⟨by rw [List.length_append]; exact hlen, p, _, rfl, upd_same, ?_⟩)
      exact RepL.keep (RepL.append (.cons r.vo.rep .nil) (rl'.anti fun _ z => z.1)) (.mut low)
theorem ps_extD {i : Nat} {nm : Str} {p1 apos cpos : Pos} (hN : X.N[i]? = some nm) (hv : Vis X.env.scope nm) (hd : (nm == ("__debug__" : Str)) = false) (hcd : (nm == ("__classdict__" : Str)) = false) (he : PE X e (tX F xe))
    (hbase : attributeBase (.Name nm p1) "extend" X.env (eval (.Name nm p1) X.env) = eval (.Name nm p1) X.env)
    (hfew : ((backTo cpos (starEach [e] X.env)).all (fun x => !x.1) && (backToKw cpos (keywordEach [] X.env)).all (fun x => x.1.isSome) && decide ([e].length + ([] : List Keyword).length + (if ([] : List Keyword).isEmpty then 0 else 1) < 30)) = true)
    (hline : (apos.endLine == cpos.line) = true) (hs : starEach [e] X.env = (false, eval e X.env) :: starEach [] X.env) (hplain : (backTo cpos (starEach [] X.env)).any (·.1) = false)
    (hsw : swapsWith (.Call (.Attribute (.Name nm p1) "extend" apos) [e] [] cpos) none pos.line X.env = pure false) :
    PS X (.Expr (.Call (.Attribute (.Name nm p1) "extend" apos) [e] [] cpos) pos) (tS F (.ext i xe)) := by
  refine ⟨fun pins s σ H D I h => (ps_expr (pe_bm PySem.F.plainAttrs_list PySem.F.slot_list_extend PySem.F.type_list_extend mt_extend (pe_var hN hv hd hcd) (pa_cons he pa_nil hs) hbase hfew hline hs hplain) hsw).run pins s σ H D I ?_⟩
  obtain ⟨M0, sa, N, ρ, g, f, ρ', g', S, e, o⟩ := h
  rw [ex] at e
  obtain ⟨d, g1, e1, e2⟩ := bnd_some e
  clear e
  obtain ⟨ys, xs, rfl, hslot, hlen, e3, rfl⟩ := ext_inv e2
  · · cases e3
      obtain ⟨p, hi, ow, hσ, vs, hp, rl⟩ := mine_list S hslot
      refine ⟨.ref p, hσ, tyV_list hp, M0, sa, N, ρ, g, .list ys, _, S, e1, fun v H1 r => ?_⟩
      have S1 := S.ext r.keep r.src
      obtain ⟨p', _, _, hσ', vs', hp', rl'⟩ := mine_list S1 hslot
      rw [hσ] at hσ'
      cases hσ'
      obtain ⟨hN1, hM⟩ := S.own ow
      have S2 := S1.freeze (esc xe)
      have low : less N ρ σ (esc xe) p := ⟨hN1, fun ⟨j, hj, oj⟩ => hi (S.inj i j p ow oj ▸ hj)⟩
      have rv := r.vo.rep
      rw [Rep] at rv
      obtain ⟨_, q, ws, rfl, _, hq, rw'⟩ := rv
      refine ⟨p, q, vs', ws, rfl, rfl, hp', hq, by rw [rl'.length, rw'.length, ← lineEq]; exact hlen, ?_⟩
      refine o σ _ _ (mut_nxt S r.keep hN1 hM) (S2.write (own_frz ow hi) rfl ⟨by rw [List.length_append]; exact hlen, p, _, rfl, upd_same, ?_⟩)
      exact RepL.keep (RepL.append rw' (rl'.anti fun _ z => z.1)) (.mut low)

/-! ### loops -/
theorem for_of {t : Tg} {ik : ItK} {ss : Exs} {body : Sxs} (hcp : pairK ik = true → isT t = true) (h : tS F (.for t ik ss body) D σ H) : tFor (tIt X.K F ik ss) (gD X.K t) (tSs F body) D σ H := by
  obtain ⟨M0, sa, N, ρ, g, f, ρ', g', S, e, o⟩ := h
  rw [ex] at e
  obtain ⟨ds, g1, e1, f1⟩ := bnd_some e
  obtain ⟨xs, g2, e2, f2⟩ := bnd_some f1
  clear e f1
  obtain ⟨e3, rfl⟩ := ofO_some e2
  refine ⟨M0, sa, N, ρ, g, ds, _, xs, S, e1, e3, fun J H1 k1 q1 hl wk => ?_⟩
  have S1 := (S.ext k1 q1).freeze (escs ss)
  have n0 : Nxt M0 sa N H (less N ρ σ (escs ss)) H1 := S.nxt k1 (escs ss)
  have o1 := o.from n0 S
  refine ⟨fun i m σ' H' => m = xs.length - i ∧ i ≤ xs.length ∧ ∃ Ni ρi gi, forL (fun ρ x => bnd (ofO (bindT t x ρ)) fun ρ' => exs F body ρ') (xs.drop i) ρi gi = some ((f, ρ'), g') ∧ StOk M0 sa Ni H' σ' ρi gi ∧ Nxt M0 sa (less N ρ σ (escs ss)) H1 Ni H',
    ⟨xs.length, rfl, Nat.zero_le _, _, _, _, by rw [List.drop_zero]; exact f2, S1, .refl⟩, ?_⟩
  rintro i m σ' H' ⟨rfl, hi, Ni, ρi, gi, c1, Si, ni⟩
  have up : Ups (less N ρ σ (escs ss)) H1 (fun a => less N ρ σ (escs ss) a ∨ Ni a) := fun a z => z.elim .inl (ni.ups a)
  have kp : Keep (fun a => less N ρ σ (escs ss) a ∨ Ni a) H1 H' := fun a u e n => ni.keep a u e fun m => n (.inl m.1)
  obtain ⟨wstop, wgo⟩ := wk _ up
  by_cases hlt : i < xs.length
  · obtain ⟨go, yl⟩ := wgo i xs[i] H' (List.getElem?_eq_getElem hlt) kp
    rw [List.drop_eq_getElem_cons hlt] at c1
    unfold forL at c1
    obtain ⟨⟨fl, ρ3⟩, g3, d1, d2⟩ := bnd_some c1
    obtain ⟨ρ2, g4, d3, d4⟩ := bnd_some d1
    clear c1 d1
    obtain ⟨d5, rfl⟩ := ofO_some d3
    refine .inr ⟨go, fun σ5 H5 => ∃ N5 ρ5 g5, forL (fun ρ x => bnd (ofO (bindT t x ρ)) fun ρ' => exs F body ρ') (xs.drop (i + 1)) ρ5 g5 = some ((f, ρ'), g') ∧ StOk M0 sa N5 H5 σ5 ρ5 g5 ∧ Nxt M0 sa (less N ρ σ (escs ss)) H1 N5 H5,
      fun σ5 H5 ⟨N5, ρ5, g5, h1, h2, h3⟩ => ⟨xs.length - (i + 1), by omega, rfl, hlt, N5, ρ5, g5, h1, h2, h3⟩, fun v H2 y => ?_⟩
    obtain ⟨kk, im⟩ := yl v H2 y
    have S2 : StOk M0 sa Ni H2 σ' ρi g4 := Si.ext (fun a u e _ => kk a u e) ⟨kk _ _ Si.src.1, kk _ _ Si.src.2.1, Si.src.2.2⟩
    have n2 : Nxt M0 sa (less N ρ σ (escs ss)) H1 Ni H2 := ni.trans S1 ⟨fun a u e _ => kk a u e, fun _ z => .inl z⟩
    have im' : Itm X.K (pairK ik) Ni H2 xs[i] v := by
      cases hp : pairK ik with
      | true =>
        rw [hp] at im
        obtain ⟨ds', ex', a', vs', ev', sq', rl'⟩ := im
        exact ⟨ds', ex', a', vs', ev', sq', rl'.anti fun a z => .inr z⟩
      | false =>
        rw [hp] at im
        exact Rep.anti im fun a z => .inr z
    refine ⟨M0, sa, Ni, ρi, g4, xs[i], pairK ik, ρ2, S2, im', hcp, d5, fun σ3 S3 _ _ => ⟨M0, sa, Ni, ρ2, g4, fl, ρ3, g3, S3, d4, ?_⟩⟩
    cases fl with
    | nx => exact fun σ5 H5 N5 n5 S5 => ⟨N5, ρ3, g3, d2, S5, n2.trans S1 n5⟩
    | ct => exact fun σ5 H5 N5 n5 S5 => ⟨N5, ρ3, g3, d2, S5, n2.trans S1 n5⟩
    | rt dd =>
      obtain ⟨d6, rfl⟩ := ret_some d2
      cases d6
      exact o1.from n2 S1
  · have ei : i = xs.length := by omega
    subst ei
    rw [List.drop_length] at c1
    unfold forL at c1
    obtain ⟨c2, rfl⟩ := ret_some c1
    cases c2
    exact .inl ⟨wstop H' kp, o1 σ' H' Ni ni Si⟩
theorem ps_forD {iter : Expr} {body : List Stmt} {t : Tg} {ik : ItK} {ss : Exs} {xb : Sxs} (hcp : pairK ik = true → isT t = true) (hp : PassesOwn (model X.prog X.w) X.A X.env X.xe) (hc : X.calm = true) (hi : PI X tg iter (tIt X.K F ik ss)) (hg : PG X tg (gD X.K t)) (hb : PSs X body (tSs F xb))
    (hs : ∀ x, foldedSetIterable iter X.env x = pure x) : PS X (.For tg iter body [] pos) (tS F (.for t ik ss xb)) :=
  ⟨fun pins s σ H D I h => (ps_for hp hc hi hg hb hs).run pins s σ H D I (for_of hcp h)⟩
theorem while_of {xt : Ex} {body : Sxs} (h : tS F (.whl xt body) D σ H) : tWhile (tC F xt) (tSs F body) D σ H := by
  obtain ⟨M0, sa, N, ρ, g, f, ρ', g', S, e, o⟩ := h
  rw [ex] at e
  generalize FU = n at e
  refine ⟨fun m σ' H' => ∃ Ni ρi gi, whlN (fun ρ => bnd (ev F xt ρ) toB) (fun ρ => exs F body ρ) m ρi gi = some ((f, ρ'), g') ∧ StOk M0 sa Ni H' σ' ρi gi ∧ Nxt M0 sa N H Ni H', ⟨n, N, ρ, g, e, S, .refl⟩, ?_⟩
  rintro m σ' H' ⟨Ni, ρi, gi, c1, Si, ni⟩
  cases m with
  | zero =>
    unfold whlN at c1
    cases c1
  | succ m =>
    unfold whlN at c1
    obtain ⟨b, g1, d1, d2⟩ := bnd_some c1
    clear c1
    refine ⟨M0, sa, Ni, ρi, gi, b, g1, Si, bool_some d1, fun H1 k q => ?_⟩
    have S1 := Si.ext k q
    have n1 : Nxt M0 sa N H Ni H1 := ni.trans S ⟨k.wide fun _ => Si.mv, fun _ z => .inl z⟩
    cases b with
    | false =>
      rw [if_neg Bool.false_ne_true] at d2
      obtain ⟨d3, rfl⟩ := ret_some d2
      cases d3
      exact iteF (o σ' H1 Ni n1 S1)
    | true =>
      rw [if_pos rfl] at d2
      obtain ⟨⟨fl, ρ3⟩, g3, d3, d4⟩ := bnd_some d2
      clear d2
      refine iteT ⟨fun σ5 H5 => ∃ N5 ρ5 g5, whlN (fun ρ => bnd (ev F xt ρ) toB) (fun ρ => exs F body ρ) m ρ5 g5 = some ((f, ρ'), g') ∧ StOk M0 sa N5 H5 σ5 ρ5 g5 ∧ Nxt M0 sa N H N5 H5,
        fun σ5 H5 ⟨N5, ρ5, g5, h1, h2, h3⟩ => ⟨m, Nat.lt_succ_self m, N5, ρ5, g5, h1, h2, h3⟩, M0, sa, Ni, ρi, g1, fl, ρ3, g3, S1, d3, ?_⟩
      cases fl with
      | nx => exact fun σ5 H5 N5 n5 S5 => ⟨N5, ρ3, g3, d4, S5, n1.trans S n5⟩
      | ct => exact fun σ5 H5 N5 n5 S5 => ⟨N5, ρ3, g3, d4, S5, n1.trans S n5⟩
      | rt dd =>
        obtain ⟨d6, rfl⟩ := ret_some d4
        cases d6
        exact o.from n1 S
theorem ps_whileD {t : Expr} {body : List Stmt} {xt : Ex} {xb : Sxs} (hp : PassesOwn (model X.prog X.w) X.A X.env X.xe) (ht : PT X t (tC F xt)) (hb : PSs X body (tSs F xb)) : PS X (.While t body [] pos) (tS F (.whl xt xb)) :=
  ⟨fun pins s σ H D I h => (ps_while hp ht hb).run pins s σ H D I (while_of h)⟩
end
end DT

/-! d[k] = v, d the slot's own. -/
namespace DT
open PySem L2 PyProof.Rows
section
variable {X : Cx} {F : List Fn} {M0 N N1 N2 : Ms} {sa : Addr × Addr} {H H1 H2 : Hp} {σ σ' : L2.St} {ρ ρ' : Rho} {g g1 g2 g' : PState} {tg a b c e : Expr} {xa xe : Ex} {x y d : D} {pos : Pos} {D : Ends} {f : Fl}
theorem mine_dict {is : List Nat} {i : Nat} {kvs : List (DT.D × DT.D)} (S : StOk M0 sa N H σ ρ g) (h : (freeze is ρ)[i]? = some (some (.d true (.dict kvs)))) : ∃ p, i ∉ is ∧ Own ρ σ i p ∧ σ[i]? = some (some (.ref p)) ∧ kvs.length ≤ LINE ∧ ∃ ks vs, DAt H p (toKeys (kvs.map (·.1))) ks vs ∧ RepK N H kvs ks vs := by
  rcases freeze_slot h with ⟨hi, e⟩ | ⟨hi, s0, e, ef⟩
  · obtain ⟨v, e1, t, m⟩ := S.slot i _ e
    obtain ⟨hl, p, ks, vs, rfl, h1, r⟩ := t
    exact ⟨p, hi, ⟨_, e, rfl, e1⟩, e1, hl, ks, vs, h1, r⟩
  · cases s0 with
    | src => cases ef
    | d b x => cases ef
theorem six_inv {so : Option (Option Sl)} {y : DT.D} {k : List (DT.D × DT.D) → Fl × Rho} {g : PState} {r : Fl × Rho} {g' : PState}
    (h : (match so with
      | some (some (.d true (.dict kvs))) => if sixOk kvs y then ret (k kvs) else fail
      | _ => fail) g = some (r, g')) : ∃ kvs, so = some (some (.d true (.dict kvs))) ∧ sixOk kvs y = true ∧ k kvs = r ∧ g' = g := by
  split at h
  · rename_i kvs
    by_cases c : sixOk kvs y = true
    · rw [if_pos c] at h
      obtain ⟨e1, e2⟩ := ret_some h
      exact ⟨kvs, rfl, c, e1, e2.symm ▸ rfl⟩
    · rw [if_neg c] at h
      cases h
  · cases h
theorem dPut_len (kvs : List (DT.D × DT.D)) (k v : DT.D) : (dPut kvs k v).length ≤ kvs.length + 1 := by
  unfold dPut
  split
  · rw [List.length_map]
    omega
  · rw [List.length_append]
    simp
theorem own_top (S : StOk M0 sa N H σ ρ g) {i : Nat} {a : Addr} (o : Own ρ σ i a) : (∃ vs, H a = some (.lst vs)) ∨ ∃ nk ks vs, DAt H a nk ks vs := by
  obtain ⟨x, e1, m, e2⟩ := o
  obtain ⟨v, e3, t, _⟩ := S.slot i _ e1
  rw [e2] at e3
  obtain rfl := Option.some.inj (Option.some.inj e3)
  cases x with
  | list ds =>
    obtain ⟨_, b, vs, eb, h, _⟩ := t
    cases eb
    exact .inl ⟨vs, h⟩
  | dict ds =>
    obtain ⟨_, b, ks, vs, eb, h, _⟩ := t
    cases eb
    exact .inr ⟨_, ks, vs, h⟩
  | _ => cases m
theorem tup_not {H : Hp} {a : Addr} {vs : List V} (t : TupAt H a vs) : (¬ ∃ vs, H a = some (.lst vs)) ∧ ¬ ∃ nk ks vs, DAt H a nk ks vs := by
  obtain ⟨o, e, _⟩ := t
  have z : tupO o vs = .frz o (.tup vs) := if_pos rfl
  rw [z] at e
  refine ⟨fun ⟨ws, h⟩ => ?_, fun ⟨nk, ks, ws, h⟩ => ?_⟩
  · rw [e] at h
    cases h
  · rcases h with ⟨l, h, _⟩ | ⟨l, h, _⟩
    · rw [e] at h
      cases h
    · rw [e] at h
      cases h
mutual
theorem rep_imm {is : List Nat} (S : StOk M0 sa N H σ ρ g) : ∀ (d : DT.D) (v : V), noMut d = true → Rep (less N ρ σ is) H d v → Rep N H d v
  | .none, _, _, h => by
    rw [Rep] at h ⊢
    exact h
  | .bool _, _, _, h => by
    rw [Rep] at h ⊢
    exact h
  | .int _, _, _, h => by
    rw [Rep] at h ⊢
    exact h
  | .str _, _, _, h => by
    rw [Rep] at h ⊢
    exact h
  | .list _, _, c, _ => by cases c
  | .dict _, _, c, _ => by cases c
  | .tuple ds, _, c, h => by
    rw [Rep] at h ⊢
    obtain ⟨z, a, vs, e, n, t, r⟩ := h
    refine ⟨z, a, vs, e, fun hN => ?_, t, reps_imm S ds vs (by simpa only [noMut] using c) r⟩
    have : ∃ i, i ∈ is ∧ Own ρ σ i a := Classical.byContradiction fun q => n ⟨hN, q⟩
    obtain ⟨i, _, o⟩ := this
    rcases own_top S o with q | q
    · exact (tup_not t).1 q
    · exact (tup_not t).2 q
theorem reps_imm {is : List Nat} (S : StOk M0 sa N H σ ρ g) : ∀ (ds : List DT.D) (vs : List V), noMuts ds = true → RepL (less N ρ σ is) H ds vs → RepL N H ds vs
  | [], _, _, h => by
    rw [RepL] at h ⊢
    exact h
  | d :: ds, _, c, h => by
    rw [RepL] at h ⊢
    obtain ⟨v, r, e, h1, h2⟩ := h
    have c' : noMut d = true ∧ noMuts ds = true := by simpa only [noMuts, Bool.and_eq_true] using c
    exact ⟨v, r, e, rep_imm S d v c'.1 h1, reps_imm S ds r c'.2 h2⟩
end
mutual
theorem noMut_key : ∀ d : DT.D, keyOk d = true → noMut d = true
  | .int _, _ => rfl
  | .tuple ds, h => by
    rw [noMut]
    exact noMuts_key ds (by simpa only [keyOk] using h)
  | .none, h => by cases h
  | .bool _, h => by cases h
  | .str _, h => by cases h
  | .list _, h => by cases h
  | .dict _, h => by cases h
theorem noMuts_key : ∀ ds : List DT.D, keysOk ds = true → noMuts ds = true
  | [], _ => rfl
  | d :: ds, h => by
    have h' : keyOk d = true ∧ keysOk ds = true := by simpa only [keysOk, Bool.and_eq_true] using h
    rw [noMuts, noMut_key d h'.1, noMuts_key ds h'.2]
    rfl
end
/-- a value that is stored -/
theorem rep_escV {v : V} (S : StOk M0 sa N H σ ρ g) (r1 : Res sa N ρ σ xe H g1 d v H1) (S1 : StOk M0 sa N H1 σ ρ g1) : Rep (less N ρ σ (escV xe d)) H1 d v := by
  unfold escV
  by_cases c : noMut d = true
  · rw [c, Bool.true_or, if_pos rfl]
    exact (rep_imm S1 d v c r1.vo.rep).anti fun _ h => h.1
  · by_cases c2 : (fresh xe && flatL d) = true
    · rw [c2, Bool.or_true, if_pos rfl]
      obtain ⟨f1, f2⟩ := Bool.and_eq_true_iff.mp c2
      cases d with
      | list ds =>
        obtain ⟨a, e, hn, t⟩ := r1.fr f1 rfl
        obtain ⟨z, b, vs, e', h, r⟩ := t
        obtain rfl : a = b := by
          rw [e] at e'
          injection e'
        have r' : RepL (less N ρ σ (esi xe)) H1 ds vs := r.anti fun _ h => .inl h
        rw [Rep]
        exact ⟨z, a, vs, e, fun q => S.mt a q.1 hn, h, (reps_imm S1 ds vs f2 r').anti fun _ h => h.1⟩
      | _ => cases f2
    · have c3 : (noMut d || (fresh xe && flatL d)) = false := by
        rw [Bool.eq_false_iff.mpr c, Bool.eq_false_iff.mpr c2]
        rfl
      rw [c3, if_neg Bool.false_ne_true]
      exact r1.vo.rep
theorem ps_sixD {i : Nat} {nm : Str} {k : Expr} {xk : Ex} {p1 pos' : Pos} (hu : X.A.units + 65 < cLine) (hN : X.N[i]? = some nm) (hv : Vis X.env.scope nm) (hd : (nm == ("__debug__" : Str)) = false) (hcd : (nm == ("__classdict__" : Str)) = false) (hk : PE X k (tX F xk)) (he : PE X e (tX F xe))
    (hs : swapsWith e (some (.Subscript (.Name nm p1) k pos')) pos.line X.env = pure false) : PS X (.Assign [.Subscript (.Name nm p1) k pos'] e pos) (tS F (.six i xk xe)) := by
  refine ⟨fun pins s σ H D I h => ?_⟩
  obtain ⟨M0, sa, N, ρ, g, f, ρ', g', S, e0, o⟩ := h
  rw [ex] at e0
  obtain ⟨d, g1, e1, e2⟩ := bnd_some e0
  obtain ⟨y, g2, e3, e4⟩ := bnd_some e2
  clear e0 e2
  obtain ⟨kvs, hslot, hok, e5, rfl⟩ := six_inv e4
  cases e5
  obtain ⟨c1, c2⟩ := Bool.and_eq_true_iff.mp hok
  obtain ⟨c2, c3⟩ := Bool.and_eq_true_iff.mp c2
  have hlt : kvs.length < LINE := of_decide_eq_true c3
  refine wpAny_Assign_Subscript (thn (he.run pins s σ H (fun v H1 => Res sa N ρ σ xe H g1 d v H1) I ⟨M0, sa, N, ρ, g, d, g1, S, e1, fun v H1 r => r⟩) fun r s1 ⟨v, H1, I1, rv, r1⟩ => ?_) hs
  have S1 := S.ext r1.keep r1.src
  obtain ⟨p, hi, ow, hσ, _⟩ := mine_dict S1 hslot
  refine thn ((pe_var hN hv hd hcd).run pins s1 σ H1 (fun w H2 => w = .ref p ∧ H2 = H1) I1 ⟨.ref p, hσ, rfl, rfl⟩) fun u s2 ⟨w, H2, I2, rw2, ew, eH⟩ => ?_
  subst ew eH
  cases rw2
  refine thn (hk.run pins s2 σ H2 (fun v H3 => Res sa N ρ σ xk H2 _ y v H3) I2 ⟨M0, sa, N, ρ, g1, y, _, S1, e3, fun v H3 r => r⟩) fun iv s3 ⟨z, H3, I3, ry, r2⟩ => ?_
  have S2 := S1.ext r2.keep r2.src
  obtain ⟨p', _, _, hσ', _, ks, vs, hA, rK⟩ := mine_dict S2 hslot
  rw [hσ] at hσ'
  cases hσ'
  obtain ⟨hN1, hM⟩ := S.own ow
  have S3 := S2.freeze (escV xe d)
  have low : less N ρ σ (escV xe d) p := ⟨hN1, fun ⟨j, hj, oj⟩ => hi (S.inj i j p ow oj ▸ hj)⟩
  have rd : Rep (less N ρ σ (escV xe d)) H3 d v := (rep_escV S r1 S1).tr fun c o' eo n => ⟨r2.keep c o' eo fun zc => n ⟨S1.sS c zc, fun ⟨i, _, ow⟩ => S1.nos i c ow zc⟩, n⟩
  have rk : Rep (less N ρ σ (escV xe d)) H3 y z := (rep_imm S2 y z (noMut_key y (tupKD_ok c1).2.1) r2.vo.rep).anti fun _ h => h.1
  refine dict_put hu I3 hA rK c1 c2 hlt rk ry rv fun l b s' ez l1 l2 l3 I4 => ⟨σ, _, I4, ?_⟩
  subst ez
  have rK' : RepK (less N ρ σ (escV xe d)) H3 kvs (l.map fun x => V.ref x.2.1) (l.map (·.2.2)) := by
    rw [l2, l3]
    exact RepK.tr (fun a o e n => ⟨e, fun z => n z.1⟩) rK
  obtain ⟨w1, w2⟩ := repK_put rk rd l1 rK'
  refine o σ _ _ (mut_nxt S (r1.keep.trans r2.keep) hN1 hM) (S3.write (own_frz ow hi) rfl ⟨?_, p, _, _, rfl, .inr ⟨_, upd_same, w2, rfl, rfl⟩, RepK.tr (fun c o e n => ⟨Keep.mut low c o e n, n⟩) w1⟩)
  have := dPut_len kvs y d
  omega
end
end DT

/-! Defs that call defs. -/
namespace DT
open PySem L2 PyProof.Rows
def CXN : CXT := fun _ _ _ _ _ _ => False
def EN : XK := fun _ _ _ => False
abbrev SpG := List V → Hp → VK → Prop
/-- a def's promise, where no repr is under way -/
structure FnG (P : Program) (w : World) (K : PySem.W.Frag) (mg : Str → Option Value) (base : Heap) (lev : Nat) (f : Addr) (fd : FuncData) (ps : List Str) (sp : SpG) : Prop where
  len : ∀ vs H Q, sp vs H Q → vs.length = ps.length
  run : ∀ (A : Around) (outer : List Env) (s : Shared) (H : Hp) (args : Args) (us : List Value) (vs : List V) (Q : VK), Room lev A → A.guards = some [] → Env0 P w K mg base A outer s H → BindsTo s fd args (ps.zip us) → Vals vs us → sp vs H Q →
    codeAny (model P w) A (.call (.ref f) args) (CR CXN outer P w H s Q EN) s
theorem FnG.mono {P : Program} {w : World} {K : PySem.W.Frag} {mg : Str → Option Value} {base : Heap} {j k : Nat} {f : Addr} {fd : FuncData} {ps : List Str} {sp : SpG} (F : FnG P w K mg base j f fd ps sp) (h : j ≤ k) : FnG P w K mg base k f fd ps sp :=
  ⟨F.len, fun A outer s H args us vs Q r => F.run A outer s H args us vs Q (r.mono h)⟩
section
variable {X : Cx} {lev : Nat} {f : Addr} {fd : FuncData} {ps : List Str} {sp : SpG} {nm : Str} {p pos : Pos} {e : Expr} {es : List Expr} {t : TA}
theorem run_G {pins : List (Addr × Obj)} {σ : L2.St} {H : Hp} {s : Shared} {Q : VK} {us : List Value} {vs : List V} (F : FnG X.prog X.w X.K X.mg X.base lev f fd ps sp) (hr : Room lev X.A) (hg : X.A.guards = some []) (hb : Binds X.K fd ps []) (I : L2.Inv X pins σ H s) (r : Vals vs us) (h : sp vs H Q) :
    wpAny (model X.prog X.w) X.A (PySem.call (.ref f) us) (EP X pins σ Q) X.xe s := by
  have hl : us.length = ps.length := by
    rw [← r.length]
    exact F.len _ _ _ h
  have b := hb s us I.kIn (by rw [List.append_nil]; exact hl)
  rw [List.append_nil] at b
  refine wpAny_call (codeAny_mono (F.run X.A X.stack s H ⟨us, []⟩ us vs Q hr hg I.env0 b r h) fun z s' hz => ?_)
  cases z with
  | error _ => exact False.elim hz
  | ok fl =>
    cases fl with
    | ret _ => exact I.after hz
    | _ => exact False.elim hz
def tCallG (sp : SpG) (t : TA) : TE := fun σ H Q => t σ H fun vs H1 => sp vs H1 Q
theorem pe_callG (F : FnG X.prog X.w X.K X.mg X.base lev f fd ps sp) (hr : Room lev X.A) (hgd : X.A.guards = some []) (hg : Gl X nm) (hm : X.mg nm = some (.ref f)) (hk : PySem.W.keepIn X.K (.ref f) = true) (hb : Binds X.K fd ps []) (ha : PA X (e :: es) t)
    (hdb : (nm == ("__debug__" : Str)) = false) (he : starEach (e :: es) X.env = (false, eval e X.env) :: starEach es X.env) (hpl : (backTo pos (starEach es X.env)).any (·.1) = false) : PE X (.Call (.Name nm p) (e :: es) [] pos) (tCallG sp t) := by
  refine ⟨fun pins s σ H Q I h => wpAny_Call_Name_kw (ld_glob I hg hm ?_ hdb)⟩
  refine PySem.W.callWith_K (h₀ := X.base) I.ok.mod.kin hk (thn (ha.run pos pins s σ H _ I h) fun us s1 z => ?_) he hpl
  obtain ⟨vs, H1, I1, r, q⟩ := z
  exact ⟨I1.kIn, run_G F hr hgd hb I1 r q⟩
end
/-- a def by its body -/
theorem fnG_of {P : Program} {w : World} {K : PySem.W.Frag} {mg : Str → Option Value} {base : Heap} {lev : Nat} {f : Addr} {fd : FuncData} {nm qual : Str} {params : Arguments} {body : List Stmt} {scope : Scope} {dvs : List V} {kws : List (Str × V)} {N ps : List Str} {sp : SpG}
    (D : FunD K nm qual params body scope dvs kws f fd) (S : FnScope N ps scope) (len : ∀ vs H Q, sp vs H Q → vs.length = ps.length)
    (hbody : ∀ (cdv : Value) (A : Around) (outer : List Env) (s : Shared) (H : Hp) (vs : List V) (Q : VK), Room lev (A.deeper (envOfC qual scope s.heap.objs.size f cdv)) → (A.deeper (envOfC qual scope s.heap.objs.size f cdv)).guards = some [] → sp vs H Q →
      ∃ t, PSs (cxOf CXN P w K mg base N qual scope f cdv A outer s H EN) body t ∧ t { nx := fun _ H' => Q .non H', rt := Q } (L2.start N vs) H) : FnG P w K mg base (lev + 1) f fd ps sp := by
  obtain ⟨oc, od, dV, kV, doc, pm, an, cdv, ct, osl, rfl, lk, hcd, _, _⟩ := D.ex
  refine ⟨len, fun A outer s H args us vs Q room gd env bind vals want => ?_⟩
  have ll := len _ _ _ want
  have kin : K.In s.heap := env.mod.kin.keeps fun b o z => (env.bs b o z).1
  have nolim : s.heap.NoLimit := env.mod.nolimit.keeps fun b o z => (env.bs b o z).1
  have kinds : ∀ y ∈ ps.zip us, scope.names.lookup y.1 = some .local ∨ (scope.names.lookup y.1 = some .cell ∧ ((cellsFrom (s.heap.objs.size + 1) scope.names []).lookup y.1).isSome = true) := by
    rintro ⟨m, v⟩ hy
    have hm : m ∈ ps := (List.of_mem_zip hy).1
    exact (S.par m hm).imp id fun z => ⟨z, PySem.W.cellsFrom_some _ _ _ (.inl z)⟩
  refine codeAny_call_function room.depth (kin _ _ lk) rfl S.co S.gen rfl (PySem.W.codeRec_of kin hcd) (bind _ _ _ _ ?_)
  refine wpAny_newFunctionEnv_cells S.kind kinds fun env1 he s1 x => ?_
  subst he
  refine ⟨nolim.keeps x.toInCall.keep, codeAny_func ?_⟩
  obtain ⟨t, ht, hq⟩ := hbody cdv A outer s H vs Q (room.deeper _) gd want
  have I := inv_start (CX := CXN) (E := EN) S room.hd env ll vals x
  refine wpAny_mono (ht.run [] s1 (L2.start N vs) H _ I hq) (fun fl s' hs => ?_) fun e s' hs => hs
  cases fl with
  | ret u =>
    obtain ⟨v, σ', H', J, rv, q⟩ := hs
    exact ⟨v, H', J.os, J.bare, J.base, J.hok, rv, q⟩
  | next =>
    obtain ⟨σ', H', J, q⟩ := hs
    exact ⟨V.non, H', J.os, J.bare, J.base, J.hok, rfl, q⟩
  | brk => exact False.elim hs.choose_spec.choose_spec.2
  | cont => exact False.elim hs.choose_spec.choose_spec.2

/-! ### arguments -/
def ArgL (sa : Addr × Addr) (N : Ms) (H : Hp) : List (Option D) → List V → Prop
  | [], vs => vs = []
  | none :: r, vs => ∃ t, vs = .ref sa.1 :: t ∧ ArgL sa N H r t
  | some d :: r, vs => ∃ v t, vs = v :: t ∧ Rep N H d v ∧ ArgL sa N H r t
theorem ArgL.length {sa : Addr × Addr} {N : Ms} {H : Hp} : ∀ {as : List (Option D)} {vs : List V}, ArgL sa N H as vs → vs.length = as.length
  | [], _, h => by
    have h' : _ = [] := h
    subst h'
    rfl
  | none :: r, _, h => by
    obtain ⟨t, rfl, h⟩ := h
    rw [List.length_cons, List.length_cons, ArgL.length h]
  | some d :: r, _, h => by
    obtain ⟨v, t, rfl, _, h⟩ := h
    rw [List.length_cons, List.length_cons, ArgL.length h]
def tR (F : List Fn) (xs : Ars) : TA := fun σ H Q => ∃ (M0 : Ms) (sa : Addr × Addr) (N : Ms) (ρ : Rho) (g : PState) (as : List (Option D)) (g' : PState), StOk M0 sa N H σ ρ g ∧ evr F xs ρ g = some (as, g') ∧ ∀ vs H', Keep (isS sa) H H' → SrcOk H' sa g' → ArgL sa (less N ρ σ (esca xs)) H' as vs → Q vs H'
/-- what a def of the program promises -/
def spF (n : Nat) (h : Fn) : SpG := fun vs H Q => ∃ (M0 : Ms) (sa : Addr × Addr) (as : List (Option D)) (g : PState) (d : D) (g' : PState), as.length = n ∧ (∀ a, isS sa a → M0 a) ∧ (∀ a, M0 a → H a ≠ none) ∧ SrcOk H sa g ∧ ArgL sa M0 H as vs ∧ h as g = some (d, g') ∧
  ∀ v H', Keep (isS sa) H H' → SrcOk H' sa g' → Rep M0 H' d v → Q v H'
section
variable {X : Cx} {F : List Fn} {M0 N : Ms} {sa : Addr × Addr} {H H1 H2 : Hp} {σ σ' : L2.St} {ρ ρ' : Rho} {g g1 g2 g' : PState} {a b c e : Expr} {es : List Expr} {xa xe : Ex} {xr : Ars} {x y d : D} {pos : Pos}
theorem ArgL.keep {k : Keep (isS sa) H H1} (s : ∀ a, isS sa a → N a) : ∀ {as : List (Option D)} {vs : List V}, ArgL sa N H as vs → ArgL sa N H1 as vs
  | [], _, h => h
  | none :: r, _, h => by
    obtain ⟨t, rfl, h⟩ := h
    exact ⟨t, rfl, ArgL.keep (k := k) s h⟩
  | some d :: r, _, h => by
    obtain ⟨v, t, rfl, q, h⟩ := h
    exact ⟨v, t, rfl, q.keep (k.wide s), ArgL.keep (k := k) s h⟩
theorem ArgL.anti {N' : Ms} (s : ∀ a, N' a → N a) : ∀ {as : List (Option D)} {vs : List V}, ArgL sa N H as vs → ArgL sa N' H as vs
  | [], _, h => h
  | none :: r, _, h => by
    obtain ⟨t, rfl, h⟩ := h
    exact ⟨t, rfl, ArgL.anti s h⟩
  | some d :: r, _, h => by
    obtain ⟨v, t, rfl, q, h⟩ := h
    exact ⟨v, t, rfl, q.anti s, ArgL.anti s h⟩
theorem pr_nil : PA X [] (tR F .nil) := by
  refine ⟨fun pos pins s σ H Q I h => ?_⟩
  obtain ⟨M0, sa, N, ρ, g, as, g', S, e, q⟩ := h
  rw [evr] at e
  obtain ⟨rfl, rfl⟩ := ret_some e
  exact pa_nil.run pos pins s σ H Q I (q [] H .refl S.src rfl)
theorem pr_ex (ha : PE X a (tX F xa)) (hr : PA X es (tR F xr)) (hs : starEach (a :: es) X.env = (false, eval a X.env) :: starEach es X.env) : PA X (a :: es) (tR F (.ex xa xr)) := by
  refine ⟨fun pos pins s σ H Q I h => ?_⟩
  obtain ⟨M0, sa, N, ρ, g, as, g', S, e, q⟩ := h
  rw [evr] at e
  obtain ⟨x, g1, e1, f1⟩ := bnd_some e
  obtain ⟨xs, g2, e2, f2⟩ := bnd_some f1
  clear e f1
  obtain ⟨rfl, rfl⟩ := ret_some f2
  refine (pa_cons ha hr hs).run pos pins s σ H Q I ⟨M0, sa, N, ρ, g, x, g1, S, e1, fun v H1 r1 => ⟨M0, sa, N, ρ, g1, xs, _, S.ext r1.keep r1.src, e2, fun vs H2 k r2 o => ?_⟩⟩
  refine q _ H2 (r1.keep.trans k) r2 ⟨v, vs, rfl, ?_, o.anti fun a z => less_mono (fun i hi => List.mem_append_right _ hi) z⟩
  exact (r1.vo.rep.keep (k.wide fun a z => S.lessSub (S.srcIn a z))).anti fun a z => less_mono (fun i hi => List.mem_append_left _ hi) z
theorem pr_src {i : Nat} {nm : Str} {p : Pos} (hN : X.N[i]? = some nm) (hv : Vis X.env.scope nm) (hd : (nm == ("__debug__" : Str)) = false) (hcd : (nm == ("__classdict__" : Str)) = false) (hr : PA X es (tR F xr)) (hs : starEach (.Name nm p :: es) X.env = (false, eval (.Name nm p) X.env) :: starEach es X.env) : PA X (.Name nm p :: es) (tR F (.src i xr)) := by
  refine ⟨fun pos pins s σ H Q I h => ?_⟩
  obtain ⟨M0, sa, N, ρ, g, as, g', S, e, q⟩ := h
  rw [evr] at e
  have e' : ∃ xs, ρ[i]? = some (some .src) ∧ evr F xr ρ g = some (xs, g') ∧ as = none :: xs := by
    rcases hρ : ρ[i]? with _ | _ | s
    · rw [hρ] at e
      cases e
    · rw [hρ] at e
      cases e
    · cases s with
      | src =>
        rw [hρ] at e
        obtain ⟨xs, g1, e1, f1⟩ := bnd_some e
        obtain ⟨rfl, rfl⟩ := ret_some f1
        exact ⟨xs, rfl, e1, rfl⟩
      | d b x =>
        rw [hρ] at e
        cases e
  obtain ⟨xs, hρ, e1, rfl⟩ := e'
  obtain ⟨v, hσ, ov⟩ := S.slot i _ hρ
  have ov' : v = .ref sa.1 := ov
  subst ov'
  refine (pa_cons (pe_var hN hv hd hcd) hr hs).run pos pins s σ H Q I ⟨_, hσ, M0, sa, N, ρ, g, xs, g', S, e1, fun vs H2 k r2 o => q _ H2 k r2 ⟨vs, rfl, o⟩⟩
/-- f(..), a def of the program -/
theorem call_of {i n : Nat} {h : Fn} {σ : L2.St} {H : Hp} {Q : VK} (hF : F[i]? = some h) (hn : ∀ as ρ g g', evr F xr ρ g = some (as, g') → as.length = n) (z : tX F (.call i xr) σ H Q) : tCallG (spF n h) (tR F xr) σ H Q := by
  obtain ⟨M0, sa, N, ρ, g, d, g', S, e, q⟩ := z
  rw [ev] at e
  obtain ⟨as, g1, e1, f1⟩ := bnd_some e
  clear e
  rw [hF] at f1
  refine ⟨M0, sa, N, ρ, g, as, g1, S, e1, fun vs H1 k r o => ⟨less N ρ σ (esca xr), sa, as, g1, d, g', hn as ρ g g1 e1, fun a z => S.lessSub (S.srcIn a z), fun a z => (S.ext k r).mt a z.1, r, o, f1, fun v H' k' r' rp => ?_⟩⟩
  have vo : Vo sa N ρ σ (.call i xr) H' d v := .item S rp (fun _ z => z) fun _ z => z
  exact q v H' ⟨k.trans k', r', vo, fun z => by cases z⟩
def lenR : Ars → Nat
  | .nil => 0
  | .src _ r => lenR r + 1
  | .ex _ r => lenR r + 1
theorem evr_len : ∀ {xs : Ars} {ρ : Rho} {g g' : PState} {as : List (Option D)}, evr F xs ρ g = some (as, g') → as.length = lenR xs
  | .nil, _, _, _, _, e => by
    rw [evr] at e
    obtain ⟨rfl, _⟩ := ret_some e
    rfl
  | .src i r, ρ, _, _, _, e => by
    rw [evr] at e
    rcases hρ : ρ[i]? with _ | _ | s
    · rw [hρ] at e; cases e
    · rw [hρ] at e; cases e
    · cases s with
      | src =>
        rw [hρ] at e
        obtain ⟨xs, g1, e1, f1⟩ := bnd_some e
        obtain ⟨rfl, rfl⟩ := ret_some f1
        rw [List.length_cons, evr_len e1]
        rfl
      | d b x => rw [hρ] at e; cases e
  | .ex x r, _, _, _, _, e => by
    rw [evr] at e
    obtain ⟨x, g1, e1, f1⟩ := bnd_some e
    obtain ⟨xs, g2, e2, f2⟩ := bnd_some f1
    obtain ⟨rfl, rfl⟩ := ret_some f2
    rw [List.length_cons, evr_len e2]
    rfl
theorem pe_callD {lev i : Nat} {h : Fn} {f : Addr} {fd : FuncData} {ps : List Str} {nm : Str} {p : Pos} (hF : F[i]? = some h) (hn : lenR xr = ps.length) (G : FnG X.prog X.w X.K X.mg X.base lev f fd ps (spF ps.length h)) (hr : Room lev X.A) (hgd : X.A.guards = some []) (hg : Gl X nm) (hm : X.mg nm = some (.ref f)) (hk : PySem.W.keepIn X.K (.ref f) = true) (hb : Binds X.K fd ps [])
    (ha : PA X (e :: es) (tR F xr)) (hdb : (nm == ("__debug__" : Str)) = false) (he : starEach (e :: es) X.env = (false, eval e X.env) :: starEach es X.env) (hpl : (backTo pos (starEach es X.env)).any (·.1) = false) : PE X (.Call (.Name nm p) (e :: es) [] pos) (tX F (.call i xr)) :=
  ⟨fun pins s σ H Q I z => (pe_callG G hr hgd hg hm hk hb ha hdb he hpl).run pins s σ H Q I (call_of hF (fun as ρ g g' e => (evr_len e).trans hn) z)⟩

/-! ### the body at its entry -/
theorem start_get {N : List Str} {vs : List V} {i : Nat} {v : V} (h : vs[i]? = some v) : (L2.start N vs)[i]? = some (some v) := by
  unfold L2.start
  rw [List.getElem?_append_left (by rw [List.length_map]; exact (List.getElem?_eq_some_iff.mp h).1), List.getElem?_map, h]
  rfl
theorem args_slot {M0 : Ms} {k : Nat} : ∀ (as : List (Option D)) (vs : List V) (i : Nat) (s : Sl), ArgL sa M0 H as vs → (as.map sl0 ++ List.replicate k none)[i]? = some (some s) → ∃ v, vs[i]? = some v ∧ SlOk M0 sa M0 H s v
  | [], vs, i, s, o, h => by
    rw [List.map_nil, List.nil_append, List.getElem?_replicate] at h
    split at h <;> cases h
  | none :: r, vs, 0, s, o, h => by
    obtain ⟨t, rfl, o⟩ := o
    have h' : sl0 none = some s := Option.some.inj h
    cases h'
    exact ⟨_, rfl, rfl⟩
  | none :: r, vs, i + 1, s, o, h => by
    obtain ⟨t, rfl, o⟩ := o
    exact args_slot r t i s o h
  | some d :: r, vs, 0, s, o, h => by
    obtain ⟨v, t, rfl, q, o⟩ := o
    have h' : sl0 (some d) = some s := Option.some.inj h
    cases h'
    exact ⟨_, rfl, q⟩
  | some d :: r, vs, i + 1, s, o, h => by
    obtain ⟨v, t, rfl, q, o⟩ := o
    exact args_slot r t i s o h
theorem stOk_start {N : List Str} {M0 : Ms} {as : List (Option D)} {vs : List V} (hl : as.length ≤ N.length) (h1 : ∀ a, isS sa a → M0 a) (h2 : ∀ a, M0 a → H a ≠ none) (q : SrcOk H sa g) (o : ArgL sa M0 H as vs) : StOk M0 sa M0 H (L2.start N vs) (as.map sl0 ++ List.replicate (N.length - as.length) none) g := by
  have lv := o.length
  have noOwn : ∀ {i : Nat} {a : Addr}, ¬ Own (as.map sl0 ++ List.replicate (N.length - as.length) none) (L2.start N vs) i a := fun {i a} ⟨x, e, _, _⟩ => by
    rcases Nat.lt_or_ge i as.length with hi | hi
    · rw [List.getElem?_append_left (by rw [List.length_map]; exact hi), List.getElem?_map, List.getElem?_eq_getElem hi] at e
      have e' : sl0 as[i] = some (.d true x) := Option.some.inj e
      cases ha : as[i] with
      | none => rw [ha] at e'; cases e'
      | some d => rw [ha] at e'; cases e'
    · rw [List.getElem?_append_right (by rw [List.length_map]; exact hi), List.getElem?_replicate] at e
      split at e <;> cases e
  refine ⟨?_, fun i s hs => ?_, fun i j a o1 _ => (noOwn o1).elim, fun _ z => z, h1, h2, q⟩
  · unfold L2.start
    rw [List.length_append, List.length_append, List.length_map, List.length_map, List.length_replicate, List.length_replicate, lv]
  · obtain ⟨v, e1, e2⟩ := args_slot _ _ _ _ o hs
    exact ⟨v, start_get e1, e2⟩
/-- a body at its entry, from the function that tells it -/
theorem entry_of {N : List Str} {n : Nat} {body : Sxs} {vs : List V} {H : Hp} {Q : VK} (hn : n ≤ N.length) (h : spF n (fnOf F N.length body) vs H Q) : tSs F body { nx := fun _ H' => Q .non H', rt := Q } (L2.start N vs) H := by
  obtain ⟨M0, sa, as, g, d, g', hl, h1, h2, q, o, e, z⟩ := h
  unfold fnOf at e
  obtain ⟨⟨fl, ρ'⟩, g1, e1, e2⟩ := bnd_some e
  clear e
  have S := stOk_start (N := N) (by rw [hl]; exact hn) h1 h2 q o
  have mv : ∀ a, Mv M0 sa M0 a → isS sa a := fun a m => m.2 m.1
  refine ⟨M0, sa, M0, _, g, fl, ρ', g1, S, e1, ?_⟩
  cases fl with
  | nx =>
    obtain ⟨e3, rfl⟩ := ret_some e2
    subst e3
    exact fun σ' H' N' nn S' => z .non H' (nn.keep.wide mv) S'.src (by rw [Rep])
  | ct => cases e2
  | rt dd =>
    obtain ⟨e3, rfl⟩ := ret_some e2
    subst e3
    exact fun v H' k r rp => z v H' (k.wide mv) r rp
end
end DT

/-! a, b = x, y. -/
namespace DT
open PySem L2 PyProof.Rows
def own1 (e : Ex) (d : D) : Bool := fresh e && isMut d
/-- the new objects of a display's items -/
def frA : Exs → List D → List V → List Addr
  | .cons e r, d :: ds, v :: vs => (if own1 e d = true then (match v with
    | .ref a => [a]
    | _ => []) else []) ++ frA r ds vs
  | _, _, _ => []
def ElL (L : Ms) (H : Hp) : Exs → List D → List V → Prop
  | .nil, ds, vs => ds = [] ∧ vs = []
  | .cons e r, ds, vs => ∃ d t v w, ds = d :: t ∧ vs = v :: w ∧ (if own1 e d = true then (∃ a, v = .ref a) ∧ Top L H d v else Rep L H d v) ∧ ElL L H r t w
def tAF (F : List Fn) (xs : Exs) : TA := fun σ H Q => ∃ (M0 : Ms) (sa : Addr × Addr) (N : Ms) (ρ : Rho) (g : PState) (ds : List D) (g' : PState), StOk M0 sa N H σ ρ g ∧ evs F xs ρ g = some (ds, g') ∧ ∀ vs H', Keep (isS sa) H H' → SrcOk H' sa g' → (∀ p, p ∈ frA xs ds vs → H p = none ∧ H' p ≠ none) → (frA xs ds vs).Nodup → ElL (addL (less N ρ σ (escs xs)) (frA xs ds vs)) H' xs ds vs → Q vs H'
section
variable {X : Cx} {F : List Fn} {M0 N : Ms} {sa : Addr × Addr} {H H1 H2 : Hp} {σ σ' : L2.St} {ρ ρ' : Rho} {g g1 g2 g' : PState} {a b c e : Expr} {es : List Expr} {xa xe : Ex} {xr : Exs} {x y d : D} {pos : Pos} {D' : Ends}
theorem ElL.tr {L L' : Ms} (k : ∀ p o, H p = some o → ¬ L p → H1 p = some o ∧ ¬ L' p) (m : ∀ p o, H p = some o → H1 p = some o) : ∀ {xs : Exs} {ds : List D} {vs : List V}, ElL L H xs ds vs → ElL L' H1 xs ds vs
  | .nil, _, _, h => h
  | .cons e r, _, _, h => by
    obtain ⟨d, t, v, w, rfl, rfl, q, h⟩ := h
    refine ⟨d, t, v, w, rfl, rfl, ?_, ElL.tr k m h⟩
    split at q
    · rename_i c
      rw [if_pos c]
      exact ⟨q.1, q.2.tr k fun _ p o _ e => m p o e⟩
    · rename_i c
      rw [if_neg c]
      exact Rep.tr k q
theorem Top.at {L : Ms} {p : Addr} (m : isMut d = true) (t : Top L H d (.ref p)) : H p ≠ none := by
  cases d with
  | list ds =>
    obtain ⟨_, q, vs, eq, h, _⟩ := t
    cases eq
    rw [h]
    exact fun z => by cases z
  | dict ds =>
    obtain ⟨_, q, ks, vs, eq, h, _⟩ := t
    cases eq
    obtain ⟨o, ho⟩ := h.obj
    rw [ho]
    exact fun z => by cases z
  | _ => cases m
theorem paF_nil : PA X [] (tAF F .nil) := by
  refine ⟨fun pos pins s σ H Q I h => ?_⟩
  obtain ⟨M0, sa, N, ρ, g, ds, g', S, e, q⟩ := h
  rw [evs] at e
  obtain ⟨rfl, rfl⟩ := ret_some e
  exact pa_nil.run pos pins s σ H Q I (q [] H .refl S.src (fun p z => by cases z) List.nodup_nil ⟨rfl, rfl⟩)
theorem paF_cons (ha : PE X a (tX F xa)) (hr : PA X es (tAF F xr)) (hs : starEach (a :: es) X.env = (false, eval a X.env) :: starEach es X.env) : PA X (a :: es) (tAF F (.cons xa xr)) := by
  refine ⟨fun pos pins s σ H Q I h => ?_⟩
  obtain ⟨M0, sa, N, ρ, g, ds, g', S, e, q⟩ := h
  rw [evs] at e
  obtain ⟨x, g1, e1, f1⟩ := bnd_some e
  obtain ⟨xs, g2, e2, f2⟩ := bnd_some f1
  clear e f1
  obtain ⟨rfl, rfl⟩ := ret_some f2
  refine (pa_cons ha hr hs).run pos pins s σ H Q I ⟨M0, sa, N, ρ, g, x, g1, S, e1, fun v H1 r1 => ?_⟩
  -- what the first item has made
  obtain ⟨fa, hfa, hnew, htop⟩ : ∃ fa : List Addr, (if own1 xa x = true then (match v with
      | .ref a => [a]
      | _ => []) else []) = fa ∧ (∀ p, p ∈ fa → H p = none ∧ H1 p ≠ none) ∧ fa.Nodup ∧ (if own1 xa x = true then (∃ a, v = .ref a) ∧ Top (addL (less N ρ σ (esc xa)) fa) H1 x v else Rep (addL (less N ρ σ (esc xa)) fa) H1 x v) := by
    cases c : own1 xa x with
    | true =>
      obtain ⟨c1, c2⟩ := Bool.and_eq_true_iff.mp c
      obtain ⟨p, rfl, hp, top⟩ := r1.fr c1 c2
      refine ⟨[p], rfl, fun q hq => ?_, List.nodup_cons.mpr ⟨List.not_mem_nil, List.nodup_nil⟩, ?_⟩
      · rw [List.mem_singleton.mp hq]
        exact ⟨hp, top.at c2⟩
      · refine ⟨⟨p, rfl⟩, top.anti fun q z => ?_⟩
        rcases z with z | z
        · exact .inl (less_mono (fun _ hi => List.mem_append_left _ hi) z)
        · exact .inr (List.mem_singleton.mp z)
    | false =>
      refine ⟨[], rfl, (fun q hq => by cases hq), List.nodup_nil, ?_⟩
      exact r1.vo.rep.anti fun q z => z.elim id fun y => by cases y
  have S1 := S.grow r1.keep r1.src hnew
  refine ⟨M0, sa, addL N fa, ρ, g1, xs, _, S1, e2, fun vs H2 k2 r2 new2 nd2 el2 => ?_⟩
  have noOwn : ∀ p, p ∈ fa → ∀ i, ¬ Own ρ σ i p := fun p hp i => S.noOwn (hnew p hp).1 i
  have hF : frA (.cons xa xr) (x :: xs) (v :: vs) = fa ++ frA xr xs vs := by rw [← hfa]; rfl
  have freeH : ∀ p, H1 p = none → H p = none := fun p z => r1.keep.free z fun y => r1.src.there y z
  have keepA : ∀ p o, H1 p = some o → ¬ isS sa p → H2 p = some o := fun p o z n => k2 p o z n
  refine q _ H2 (r1.keep.trans k2) r2 ?_ ?_ ?_
  · rw [hF]
    intro p hp
    rcases List.mem_append.mp hp with hp | hp
    · refine ⟨(hnew p hp).1, ?_⟩
      cases z : H1 p with
      | none => exact ((hnew p hp).2 z).elim
      | some o =>
        have ns : ¬ isS sa p := fun y => S.src.there y (hnew p hp).1
        rw [keepA p o z ns]
        exact fun y => by cases y
    · exact ⟨freeH p (new2 p hp).1, (new2 p hp).2⟩
  · rw [hF]
    refine List.nodup_append.mpr ⟨htop.1, nd2, fun p hp p' hp' z => ?_⟩
    subst z
    exact (hnew p hp).2 (new2 p hp').1
  · rw [hF]
    have hS : ∀ p, isS sa p → less N ρ σ (escs (.cons xa xr)) p := fun p z => S.lessSub (S.srcIn p z)
    -- the first item, as it stands at the end
    have tr1 : ∀ p o, H1 p = some o → ¬ addL (less N ρ σ (esc xa)) fa p → H2 p = some o ∧ ¬ addL (less N ρ σ (escs (.cons xa xr))) (fa ++ frA xr xs vs) p := fun p o z n => by
      refine ⟨keepA p o z fun y => n (.inl (S.lessSub (S.srcIn p y))), fun y => ?_⟩
      rcases y with y | y
      · exact n (.inl (less_mono (fun i hi => List.mem_append_left _ hi) y))
      · rcases List.mem_append.mp y with y | y
        · exact n (.inr y)
        · rw [(new2 p y).1] at z
          cases z
    refine ⟨x, xs, v, vs, rfl, rfl, ?_, ?_⟩
    · have h := htop.2
      cases c : own1 xa x with
      | true =>
        rw [c] at h
        obtain ⟨⟨p, ep⟩, top⟩ := h
        refine ⟨⟨p, ep⟩, top.tr tr1 fun m p' o ev z => ?_⟩
        rw [c] at hfa
        rw [ep] at hfa ev
        have ev' : p = p' := V.ref.inj ev
        subst ev'
        have hp : p ∈ fa := by
          rw [← hfa]
          exact List.mem_singleton.mpr rfl
        exact keepA p o z fun y => S.src.there y (hnew p hp).1
      | false =>
        rw [c] at h
        exact Rep.tr tr1 h
    · refine el2.tr (fun p o z n => ⟨z, fun y => n ?_⟩) fun p o z => z
      rcases y with y | y
      · refine .inl ⟨.inl y.1, fun ⟨i, hi, o⟩ => y.2 ⟨i, ?_, o⟩⟩
        show i ∈ esi xa ++ ael xa ++ escs xr
        exact List.mem_append_right _ hi
      · rcases List.mem_append.mp y with y | y
        · exact .inl ⟨.inr y, fun ⟨i, _, o⟩ => noOwn p y i o⟩
        · exact .inr y
/-- the stores, one after another -/
def setV : List Nat → List V → L2.St → L2.St
  | i :: is, v :: vs, σ => setV is vs (σ.set i (some v))
  | _, _, σ => σ
theorem StOk.puts : ∀ (is : List Nat) (xs : Exs) (ds : List D) (vs : List V) (σ : L2.St) (ρ : Rho), StOk M0 sa N H σ ρ g → ElL N H xs ds vs → (frA xs ds vs).Nodup → (∀ p, p ∈ frA xs ds vs → N p ∧ ¬ M0 p ∧ ∀ j, ¬ Own ρ σ j p) →
    StOk M0 sa N H (setV is vs σ) (setIs is ((fres xs).zip ds) ρ) g
  | [], xs, ds, vs, σ, ρ, S, _, _, _ => by
    have e1 : setV [] vs σ = σ := by cases vs <;> rfl
    have e2 : setIs [] ((fres xs).zip ds) ρ = ρ := by cases ((fres xs).zip ds) <;> rfl
    rw [e1, e2]
    exact S
  | i :: is, .nil, ds, vs, σ, ρ, S, h, _, _ => by
    obtain ⟨rfl, rfl⟩ := h
    exact S
  | i :: is, .cons e r, ds, vs, σ, ρ, S, h, nd, al => by
    obtain ⟨d, t, v, w, rfl, rfl, q, h⟩ := h
    have hF : frA (.cons e r) (d :: t) (v :: w) = (if own1 e d = true then (match v with
      | .ref a => [a]
      | _ => []) else []) ++ frA r t w := rfl
    rw [hF] at nd al
    obtain ⟨nd1, nd2, nd3⟩ := List.nodup_append.mp nd
    have S' : StOk M0 sa N H (σ.set i (some v)) (ρ.set i (some (.d (fresh e) d))) g := by
      refine S.put i ?_
      cases c : own1 e d with
      | true =>
        rw [c] at q al
        obtain ⟨⟨p, ep⟩, top⟩ := q
        subst ep
        obtain ⟨h1, h2, h3⟩ := al p (List.mem_append_left _ (List.mem_singleton.mpr rfl))
        have c' : (fresh e && isMut d) = true := c
        rw [if_pos c']
        exact ⟨top, p, rfl, h1, h2, h3⟩
      | false =>
        rw [c] at q
        have c' : (fresh e && isMut d) = false := c
        rw [if_neg (by rw [c']; exact Bool.false_ne_true)]
        exact q
    refine StOk.puts is r t w _ _ S' h nd2 fun p hp => ?_
    obtain ⟨h1, h2, h3⟩ := al p (List.mem_append_right _ hp)
    refine ⟨h1, h2, fun j o => ?_⟩
    by_cases ej : j = i
    · subst ej
      obtain ⟨b1, b2, b3⟩ := own_setI o
      have c : own1 e d = true := by
        unfold own1
        rw [b1, b2]
        rfl
      rw [c, b3] at nd3
      exact nd3 p (List.mem_singleton.mpr rfl) p hp rfl
    · exact h3 j (own_setT o ej)
theorem par_of {is : List Nat} {xs : Exs} (h : tS F (.par is xs) D' σ H) : tAF F xs σ H fun vs H1 => D'.nx (setV is vs σ) H1 := by
  obtain ⟨M0, sa, N, ρ, g, f, ρ', g', S, e, o⟩ := h
  rw [ex] at e
  obtain ⟨ds, g1, e1, e2⟩ := bnd_some e
  clear e
  obtain ⟨e3, rfl⟩ := ret_some e2
  cases e3
  refine ⟨M0, sa, N, ρ, g, ds, _, S, e1, fun vs H1 k r new nd el => ?_⟩
  have S2 := (S.freeze (escs xs)).grow k r new
  refine o _ H1 (addL (less N ρ σ (escs xs)) (frA xs ds vs)) ⟨k.wide fun _ => S.mv, fun q z => z.elim (fun y => .inl y.1) fun y => .inr (new q y).1⟩ ?_
  exact StOk.puts is xs ds vs σ _ S2 el nd fun p hp => ⟨.inr hp, fun z => S.mt p (S.sub p z) (new p hp).1, (S.freeze (escs xs)).noOwn (new p hp).1⟩
theorem tAF_len {xs : Exs} {L : Ms} : ∀ {xs : Exs} {ds : List D} {vs : List V}, ElL L H xs ds vs → vs.length = lenE xs
  | .nil, _, _, h => by
    obtain ⟨_, rfl⟩ := h
    rfl
  | .cons _ r, _, _, h => by
    obtain ⟨_, _, _, _, _, rfl, _, h⟩ := h
    rw [List.length_cons, tAF_len (xs := r) h]
    rfl
/-- the reading with its length -/
theorem par_len {is : List Nat} {xs : Exs} {Q : List V → Hp → Prop} (h : tAF F xs σ H Q) : tAF F xs σ H fun vs H1 => vs.length = lenE xs ∧ Q vs H1 := by
  obtain ⟨M0, sa, N, ρ, g, ds, g', S, e, q⟩ := h
  exact ⟨M0, sa, N, ρ, g, ds, g', S, e, fun vs H1 k r n nd el => ⟨tAF_len (xs := xs) el, q vs H1 k r n nd el⟩⟩
theorem ps_par2D {i j : Nat} {n1 n2 : Str} {xs : Exs} {px py pt : Pos} {kt k2 pt2} (hl : lenE xs = 2) (hc : X.calm = true) (hN : X.N.Nodup) (hi : X.N[i]? = some n1) (hj : X.N[j]? = some n2) (hij : i ≠ j) (hx : X.env.scope.names.lookup n1 = some .local) (hy : X.env.scope.names.lookup n2 = some .local) (ha : PA X [a, b] (tAF F xs))
    (hw : swappedStores [.Tuple [.Name n1 px, .Name n2 py] kt pt] (.Tuple [a, b] k2 pt2) X.env = pure (some [n1, n2])) (hs : swapsWithSole [.Tuple [.Name n1 px, .Name n2 py] kt pt] (.Tuple [a, b] k2 pt2) pos.line X.env = pure false) :
    PS X (.Assign [.Tuple [.Name n1 px, .Name n2 py] kt pt] (.Tuple [a, b] k2 pt2) pos) (tS F (.par [i, j] xs)) := by
  refine ⟨fun pins s σ H D I h => (ps_par hc hN hi hj hij hx hy ha hw hs).run pins s σ H D I ?_⟩
  obtain ⟨M0, sa, N, ρ, g, ds, g', S, e, q⟩ := par_len (is := []) (par_of h)
  refine ⟨M0, sa, N, ρ, g, ds, g', S, e, fun vs H1 k r n nd el => ?_⟩
  obtain ⟨l, z⟩ := q vs H1 k r n nd el
  rw [hl] at l
  match vs, l, z with
  | [v, w], _, z => exact ⟨v, w, rfl, z⟩
theorem ps_par3D {i j l : Nat} {n1 n2 n3 : Str} {xs : Exs} {px py pz pt : Pos} {kt k2 pt2} (hlen : lenE xs = 3) (hc : X.calm = true) (hN : X.N.Nodup) (hi : X.N[i]? = some n1) (hj : X.N[j]? = some n2) (hk : X.N[l]? = some n3) (hij : i ≠ j) (hil : i ≠ l) (hjl : j ≠ l) (hx : X.env.scope.names.lookup n1 = some .local) (hy : X.env.scope.names.lookup n2 = some .local) (hz : X.env.scope.names.lookup n3 = some .local) (ha : PA X [a, b, c] (tAF F xs))
    (hw : swappedStores [.Tuple [.Name n1 px, .Name n2 py, .Name n3 pz] kt pt] (.Tuple [a, b, c] k2 pt2) X.env = pure (some [n1, n2, n3])) (hs : swapsWithSole [.Tuple [.Name n1 px, .Name n2 py, .Name n3 pz] kt pt] (.Tuple [a, b, c] k2 pt2) pos.line X.env = pure false) :
    PS X (.Assign [.Tuple [.Name n1 px, .Name n2 py, .Name n3 pz] kt pt] (.Tuple [a, b, c] k2 pt2) pos) (tS F (.par [i, j, l] xs)) := by
  refine ⟨fun pins s σ H D I h => (ps_par3 hc hN hi hj hk hij hil hjl hx hy hz ha hw hs).run pins s σ H D I ?_⟩
  obtain ⟨M0, sa, N, ρ, g, ds, g', S, e, q⟩ := par_len (is := []) (par_of h)
  refine ⟨M0, sa, N, ρ, g, ds, g', S, e, fun vs H1 k r n nd el => ?_⟩
  obtain ⟨l', z⟩ := q vs H1 k r n nd el
  rw [hlen] at l'
  match vs, l', z with
  | [v, w, u], _, z => exact ⟨v, w, u, rfl, z⟩
/-! through a tuple -/
def gNames : List Nat → TGs
  | [] => gNil
  | i :: is => gCons (gName i) (gNames is)
theorem gNames_of {D : Ends} : ∀ (is : List Nat) (vs : List V) (σ : L2.St) (H : Hp), vs.length = is.length → D.nx (setV is vs σ) H → gNames is vs σ H D.nx
  | [], [], σ, H, _, h => ⟨rfl, h⟩
  | i :: is, v :: vs, σ, H, l, h => ⟨v, vs, rfl, gNames_of is vs _ H (Nat.succ.inj l) h⟩
  | [], _ :: _, _, _, l, _ => by cases l
  | _ :: _, [], _, _, l, _ => by cases l
theorem ps_parT {is : List Nat} {xs : Exs} {ts : List Expr} {kt k2 : Nat} {pt pt2 : Pos} (hl : lenE xs = is.length) (hz : is.length ≤ 1000) (hc : X.calm = true) (ha : PA X es (tAF F xs)) (hg : PGs X ts (gNames is)) (hn : (assignEach ts X.env).length = is.length) (hst : (assignEach ts X.env).findIdx? (·.1) = none)
    (hs : swapsWithSole [.Tuple ts kt pt] (.Tuple es k2 pt2) pos.line X.env = pure false) (hw : swappedStores [.Tuple ts kt pt] (.Tuple es k2 pt2) X.env = pure none) (h1 : (assignEach [.Tuple ts kt pt] X.env).map (·.2) = [assign (.Tuple ts kt pt) X.env]) :
    PS X (.Assign [.Tuple ts kt pt] (.Tuple es k2 pt2) pos) (tS F (.par is xs)) := by
  refine ⟨fun pins s σ H D I h => (ps_asg (pe_tup ha) (pg_tup hc hg hn hst) hs hw h1).run pins s σ H D I ?_⟩
  obtain ⟨M0, sa, N, ρ, g, f, ρ', g', S, e, o⟩ := h
  rw [ex] at e
  obtain ⟨ds, g1, e1, e2⟩ := bnd_some e
  clear e
  obtain ⟨e3, rfl⟩ := ret_some e2
  cases e3
  refine ⟨M0, sa, N, ρ, g, ds, _, S, e1, fun vs H1 k r new nd el => ?_⟩
  have lv := tAF_len (xs := xs) el
  refine ⟨by rw [lv, hl]; exact Nat.le_trans hz (by decide), fun p hp => ⟨p, vs, rfl, .of upd_same, by rw [lv, hl], gNames_of is vs σ _ (by rw [lv, hl]) ?_⟩⟩
  have kp : Keep (isS sa) H (upd H1 p (.tup vs)) := k.trans (.new hp)
  have r' := r.upd (o := .tup vs) hp
  have hpH : H p = none := k.free hp fun y => r.there y hp
  have tr : ∀ q o, H1 q = some o → upd H1 p (.tup vs) q = some o := fun q o z => by
    rw [upd_ne (ne_of_none z hp)]
    exact z
  have new' : ∀ q, q ∈ frA xs ds vs → H q = none ∧ upd H1 p (.tup vs) q ≠ none := fun q hq => by
    refine ⟨(new q hq).1, ?_⟩
    cases z : H1 q with
    | none => exact ((new q hq).2 z).elim
    | some o =>
      rw [tr q o z]
      exact fun y => by cases y
  have S2 := (S.freeze (escs xs)).grow kp r' new'
  refine o _ _ (addL (less N ρ σ (escs xs)) (frA xs ds vs)) ⟨kp.wide fun _ => S.mv, fun q z => z.elim (fun y => .inl y.1) fun y => .inr (new q y).1⟩ ?_
  exact StOk.puts is xs ds vs σ _ S2 (el.tr (fun q o z n => ⟨tr q o z, n⟩) tr) nd fun q hq => ⟨.inr hq, fun z => S.mt q (S.sub q z) (new q hq).1, (S.freeze (escs xs)).noOwn (new q hq).1⟩
end
end DT

/-! The text of a def against its meaning: views. -/
namespace DT
open PySem L2 PyProof.Rows
/-! ### views of an expression -/
def vName : Expr → Option Str
  | .Name id _ => some id
  | _ => none
def vConst : Expr → Option Const
  | .Constant k _ _ => some k
  | _ => none
def vTup : Expr → Option (List Expr)
  | .Tuple es _ _ => some es
  | _ => none
def vLst : Expr → Option (List Expr)
  | .List es _ => some es
  | _ => none
def vBin : Expr → Option (Expr × Operator × Expr)
  | .BinOp l op r _ => some (l, op, r)
  | _ => none
def vNeg : Expr → Option Expr
  | .UnaryOp .USub a _ => some a
  | _ => none
def vNot : Expr → Option Expr
  | .UnaryOp .Not a _ => some a
  | _ => none
def vAnd : Expr → Option (List Expr)
  | .BoolOp .And es _ => some es
  | _ => none
def vOr : Expr → Option (List Expr)
  | .BoolOp .Or es _ => some es
  | _ => none
def vCmp : Expr → Option (Expr × List CmpOp × List Expr)
  | .Compare l ops rs _ => some (l, ops, rs)
  | _ => none
def vIf : Expr → Option (Expr × Expr × Expr)
  | .IfExp t a b _ => some (t, a, b)
  | _ => none
def vSub : Expr → Option (Expr × Expr)
  | .Subscript o s _ => some (o, s)
  | _ => none
def vPart : Expr → Option (Option Expr × Option Expr)
  | .Slice lo hi none _ => some (lo, hi)
  | _ => none
def vBack : Expr → Bool
  | .Slice none none (some (.UnaryOp .USub (.Constant (.int 1) _ _) _)) _ => true
  | _ => false
def vLc : Expr → Option (Expr × Expr × Expr × List Expr × Scope)
  | .ListComp el [⟨t, it, fs, 0⟩] scope _ => some (el, t, it, fs, scope)
  | _ => none
def vCall : Expr → Option (Str × List Expr)
  | .Call (.Name nm _) es [] _ => some (nm, es)
  | _ => none
def vMeth : Expr → Option (Expr × Str × Pos × List Expr × Pos)
  | .Call (.Attribute o nm ap) es [] cp => some (o, nm, ap, es, cp)
  | _ => none
def vStar : Expr → Option Expr
  | .Starred e _ => some e
  | _ => none
/-- sorted(x, key=abs) -/
def vSabs : Expr → Option Expr
  | .Call (.Name nm _) [x] [⟨some k, .Name ab _, _⟩] _ => if decide (nm = ("sorted" : Str)) && (decide (k = ("key" : Str)) && decide (ab = ("abs" : Str))) then some x else none
  | _ => none
def vDict0 : Expr → Bool
  | .Dict [] [] _ => true
  | _ => false
theorem vStar_eq {e x : Expr} (h : vStar e = some x) : ∃ p, e = .Starred x p := by
  unfold vStar at h
  split at h <;> cases h
  exact ⟨_, rfl⟩
theorem vSabs_eq {e x : Expr} (h : vSabs e = some x) : ∃ p p2 kp pos, e = .Call (.Name "sorted" p) [x] [⟨some "key", .Name "abs" p2, kp⟩] pos := by
  unfold vSabs at h
  split at h
  · rename_i nm p x' k ab p2 kp pos
    obtain ⟨c, e⟩ := Option.ite_none_right_eq_some.mp h
    obtain rfl := Option.some.inj e
    obtain ⟨c1, c⟩ := Bool.and_eq_true_iff.mp c
    obtain ⟨c2, c3⟩ := Bool.and_eq_true_iff.mp c
    cases of_decide_eq_true c1
    cases of_decide_eq_true c2
    cases of_decide_eq_true c3
    exact ⟨p, p2, kp, pos, rfl⟩
  · cases h
theorem vDict0_eq {e : Expr} (h : vDict0 e = true) : ∃ p, e = .Dict [] [] p := by
  unfold vDict0 at h
  split at h
  · exact ⟨_, rfl⟩
  · cases h
theorem vName_eq {e : Expr} {nm : Str} (h : vName e = some nm) : ∃ p, e = .Name nm p := by
  unfold vName at h
  split at h <;> cases h
  exact ⟨_, rfl⟩
theorem vConst_eq {e : Expr} {k : Const} (h : vConst e = some k) : ∃ j p, e = .Constant k j p := by
  unfold vConst at h
  split at h <;> cases h
  exact ⟨_, _, rfl⟩
theorem vTup_eq {e : Expr} {es : List Expr} (h : vTup e = some es) : ∃ k p, e = .Tuple es k p := by
  unfold vTup at h
  split at h <;> cases h
  exact ⟨_, _, rfl⟩
theorem vLst_eq {e : Expr} {es : List Expr} (h : vLst e = some es) : ∃ p, e = .List es p := by
  unfold vLst at h
  split at h <;> cases h
  exact ⟨_, rfl⟩
theorem vBin_eq {e l r : Expr} {op : Operator} (h : vBin e = some (l, op, r)) : ∃ p, e = .BinOp l op r p := by
  unfold vBin at h
  split at h <;> cases h
  exact ⟨_, rfl⟩
theorem vNeg_eq {e a : Expr} (h : vNeg e = some a) : ∃ p, e = .UnaryOp .USub a p := by
  unfold vNeg at h
  split at h <;> cases h
  exact ⟨_, rfl⟩
theorem vNot_eq {e a : Expr} (h : vNot e = some a) : ∃ p, e = .UnaryOp .Not a p := by
  unfold vNot at h
  split at h <;> cases h
  exact ⟨_, rfl⟩
theorem vAnd_eq {e : Expr} {es : List Expr} (h : vAnd e = some es) : ∃ p, e = .BoolOp .And es p := by
  unfold vAnd at h
  split at h <;> cases h
  exact ⟨_, rfl⟩
theorem vOr_eq {e : Expr} {es : List Expr} (h : vOr e = some es) : ∃ p, e = .BoolOp .Or es p := by
  unfold vOr at h
  split at h <;> cases h
  exact ⟨_, rfl⟩
theorem vCmp_eq {e l : Expr} {ops : List CmpOp} {rs : List Expr} (h : vCmp e = some (l, ops, rs)) : ∃ p, e = .Compare l ops rs p := by
  unfold vCmp at h
  split at h <;> cases h
  exact ⟨_, rfl⟩
theorem vIf_eq {e t a b : Expr} (h : vIf e = some (t, a, b)) : ∃ p, e = .IfExp t a b p := by
  unfold vIf at h
  split at h <;> cases h
  exact ⟨_, rfl⟩
theorem vSub_eq {e o s : Expr} (h : vSub e = some (o, s)) : ∃ p, e = .Subscript o s p := by
  unfold vSub at h
  split at h <;> cases h
  exact ⟨_, rfl⟩
theorem vPart_eq {e : Expr} {lo hi : Option Expr} (h : vPart e = some (lo, hi)) : ∃ p, e = .Slice lo hi none p := by
  unfold vPart at h
  split at h <;> cases h
  exact ⟨_, rfl⟩
theorem vBack_eq {e : Expr} (h : vBack e = true) : ∃ k p1 p2 p3, e = .Slice none none (some (.UnaryOp .USub (.Constant (.int 1) k p1) p2)) p3 := by
  unfold vBack at h
  split at h
  · exact ⟨_, _, _, _, rfl⟩
  · cases h
theorem vLc_eq {e el t it : Expr} {fs : List Expr} {scope : Scope} (h : vLc e = some (el, t, it, fs, scope)) : ∃ p, e = .ListComp el [⟨t, it, fs, 0⟩] scope p := by
  unfold vLc at h
  split at h <;> cases h
  exact ⟨_, rfl⟩
theorem vCall_eq {e : Expr} {nm : Str} {es : List Expr} (h : vCall e = some (nm, es)) : ∃ p pos, e = .Call (.Name nm p) es [] pos := by
  unfold vCall at h
  split at h <;> cases h
  exact ⟨_, _, rfl⟩
theorem vMeth_eq {e o : Expr} {nm : Str} {ap cp : Pos} {es : List Expr} (h : vMeth e = some (o, nm, ap, es, cp)) : e = .Call (.Attribute o nm ap) es [] cp := by
  unfold vMeth at h
  split at h <;> cases h
  rfl

/-! ### side conditions -/
def vis (sc : Scope) (nm : Str) : Bool := match sc.names.lookup nm with
  | some .local => true
  | some .cell => true
  | some .free => true
  | _ => false
theorem vis_ok {sc : Scope} {nm : Str} (h : vis sc nm = true) : Vis sc nm := by
  unfold vis at h
  split at h
  · exact .inl (by assumption)
  · exact .inr (.inl (by assumption))
  · exact .inr (.inr (by assumption))
  · cases h
def glb (sc : Scope) (nm : Str) : Bool := match sc.names.lookup nm with
  | some .globalImplicit => true
  | _ => false
theorem glb_ok {X : Cx} {sc : Scope} {nm : Str} (hs : X.env.scope = sc) (h : glb sc nm = true) : Gl X nm := by
  unfold glb at h
  split at h
  · show X.env.scope.names.lookup nm = some .globalImplicit
    rw [hs]
    assumption
  · cases h
/-- a store -/
def sto (sc : Scope) (fc : Str → Bool) (nm : Str) : Bool := match sc.names.lookup nm with
  | some .local => true
  | some .cell => fc nm
  | _ => false
theorem sto_ok {X : Cx} {sc : Scope} {fc : Str → Bool} {nm : Str} (hs : X.env.scope = sc) (hf : ∀ y, fc y = true → X.fn y = true) (h : sto sc fc nm = true) : Loc X.env.scope nm ∧ (X.fn nm = true ∨ X.env.scope.names.lookup nm = some .local) := by
  rw [hs]
  unfold sto at h
  split at h
  · rename_i e
    exact ⟨.inl e, .inr e⟩
  · rename_i e
    exact ⟨.inr e, .inl (hf nm h)⟩
  · cases h
def okN (nm : Str) : Bool := !(nm == ("__debug__" : Str)) && (!(nm == ("__classdict__" : Str)) && decide (nm ≠ ("__name__" : Str)))
theorem okN_ok {nm : Str} (h : okN nm = true) : (nm == ("__debug__" : Str)) = false ∧ (nm == ("__classdict__" : Str)) = false ∧ nm ≠ ("__name__" : Str) := by
  unfold okN at h
  rw [Bool.and_eq_true, Bool.and_eq_true] at h
  exact ⟨Bool.not_eq_true' _ ▸ h.1, Bool.not_eq_true' _ ▸ h.2.1, of_decide_eq_true h.2.2⟩
def kOk : D → Const → Bool
  | .int i, .int j => decide (i = j)
  | .bool a, .bool b => decide (a = b)
  | .none, .none => true
  | .str x, .str y => decide (x = y)
  | _, _ => false
theorem kOk_ok {c : D} {k : Const} (h : kOk c k = true) : (∃ i, c = .int i ∧ k = .int i) ∨ (∃ b, c = .bool b ∧ k = .bool b) ∨ (c = .none ∧ k = .none) ∨ ∃ z, c = .str z ∧ k = .str z := by
  unfold kOk at h
  split at h
  · cases of_decide_eq_true h
    exact .inl ⟨_, rfl, rfl⟩
  · cases of_decide_eq_true h
    exact .inr (.inl ⟨_, rfl, rfl⟩)
  · exact .inr (.inr (.inl ⟨rfl, rfl⟩))
  · cases of_decide_eq_true h
    exact .inr (.inr (.inr ⟨_, rfl, rfl⟩))
  · cases h
def notStar : Expr → Bool
  | .Starred .. => false
  | _ => true
theorem star_cons {env : Env} {e : Expr} (h : notStar e = true) (es : List Expr) : starEach (e :: es) env = (false, eval e env) :: starEach es env := by
  cases e <;> first | rfl | cases h
theorem star_any {env : Env} {pos : Pos} : ∀ {es : List Expr}, es.all notStar = true → (backTo pos (starEach es env)).any (·.1) = false
  | [], _ => rfl
  | e :: es, h => by
    rw [List.all_cons, Bool.and_eq_true] at h
    rw [star_cons h.1]
    show (false || (backTo pos (starEach es env)).any (·.1)) = false
    rw [star_any h.2]
    rfl
theorem assign_cons {env : Env} {e : Expr} (h : notStar e = true) (es : List Expr) : assignEach (e :: es) env = (false, assign e env) :: assignEach es env := by
  cases e <;> first | rfl | cases h
theorem assign_len {env : Env} : ∀ {es : List Expr}, es.all notStar = true → (assignEach es env).length = es.length
  | [], _ => rfl
  | e :: es, h => by
    rw [List.all_cons, Bool.and_eq_true] at h
    rw [assign_cons h.1, List.length_cons, List.length_cons, assign_len h.2]
theorem assign_find {env : Env} : ∀ {es : List Expr}, es.all notStar = true → (assignEach es env).findIdx? (·.1) = none
  | [], _ => rfl
  | e :: es, h => by
    rw [List.all_cons, Bool.and_eq_true] at h
    rw [assign_cons h.1, List.findIdx?_cons, assign_find h.2]
    rfl
/-- forms whose truth is their value's -/
def plainT : Expr → Bool
  | .UnaryOp .Not _ _ => false
  | .BoolOp .. => false
  | .IfExp .. => false
  | .Compare .. => false
  | _ => true
theorem plainT_ok {env : Env} {e : Expr} (h : plainT e = true) (whole : Sem Value) : isTrue e env whole = (do let v ← whole; standAt e.pos; holding [v] (truthy v)) := by
  cases e with
  | UnaryOp op a p =>
    cases op with
    | Not => cases h
    | _ => rfl
  | BoolOp _ _ _ => cases h
  | IfExp _ _ _ _ => cases h
  | Compare _ _ _ _ => cases h
  | _ => rfl
def notSuper : Expr → Bool
  | .Call .. => false
  | _ => true
theorem notSuper_ok {env : Env} {o : Expr} (nm : Str) (h : notSuper o = true) : attributeBase o nm env (eval o env) = eval o env := by
  cases o <;> first | rfl | cases h
def plainI : Expr → Bool
  | .Slice .. => false
  | .Starred .. => false
  | _ => true
theorem plainIx_of {b : Expr} (h : plainI b = true) : PlainIx b := by
  intro o i
  cases b <;> first | rfl | cases h
def notSet : Expr → Bool
  | .Set .. => false
  | _ => true
theorem notSet_ok {env : Env} {e : Expr} (h : notSet e = true) (x : Value) : foldedSetIterable e env x = pure x := by
  cases e <;> first | rfl | cases h
def notComp : Expr → Bool
  | .ListComp .. => false
  | .SetComp .. => false
  | .DictComp .. => false
  | _ => true
theorem notComp_ok {env : Env} {e : Expr} (h : notComp e = true) (t : Option Expr) (l : Nat) : swapsWith e t l env = pure false := by
  cases e <;> first | rfl | cases h
def notTup : Expr → Bool
  | .Tuple .. => false
  | _ => true
end DT

/-! The text of a def against its meaning: the check of an expression. -/
namespace DT
open PySem L2 PyProof.Rows
def bNm : Bl → Option Str
  | .len => some "len"
  | .tuple => some "tuple"
  | .list => some "list"
  | .int => some "int"
  | .abs => some "abs"
  | .sorted => some "sorted"
  | .all => some "all"
  | .any => some "any"
  | .sum => some "sum"
  | .max => some "max"
  | .max2 => some "max"
  | .maxT => some "max"
  | .min => some "min"
  | .min2 => some "min"
  | .repr => some "repr"
  | _ => none
/-- the built-in names that may stand in the text -/
def bltNames : List Str := ["len", "tuple", "list", "int", "abs", "sorted", "all", "any", "sum", "max", "min", "repr", "isinstance", "range", "enumerate", "zip", "bool", "str", "dict", "set"]
theorem bNm_ok : ∀ {b : Bl} {nm : Str}, bNm b = some nm → nm ∈ bltNames ∧ ((∃ id, blF b = some (.builtin id) ∧ bootBuiltins nm = some (.builtin id)) ∨ ∃ T, blF b = some (.type T) ∧ bootBuiltins nm = some (.type T)) := by
  intro b nm h
  cases b <;> first
    | (cases h; done)
    | (cases h; exact ⟨by decide +kernel, .inl ⟨_, rfl, by decide +kernel⟩⟩)
    | (cases h; exact ⟨by decide +kernel, .inr ⟨_, rfl, by decide +kernel⟩⟩)
def fcOf (scope : Scope) : Str → Bool := fun x => scope.names.lookup x == some .cell
def isAbs : Ex → Bool
  | .abs => true
  | _ => false

mutual
def chG (N : List Str) (sc : Scope) (fc : Str → Bool) : Tg → Expr → Bool
  | .n i, e => match vName e with
    | some nm => decide (N[i]? = some nm) && sto sc fc nm
    | none => false
  | .t ts, e => match vTup e with
    | some es => chGs N sc fc ts es
    | none => false
def chGs (N : List Str) (sc : Scope) (fc : Str → Bool) : List Tg → List Expr → Bool
  | [], [] => true
  | t :: ts, e :: es => notStar e && (chG N sc fc t e && chGs N sc fc ts es)
  | _, _ => false
end
/-- a comprehension's block -/
def chB (N : List Str) (sc scope : Scope) (is : List Nat) : Bool :=
  decide (scope.kind = .function) && (decide (∀ y ∈ scope.names, scope.names.lookup y.1 = some y.2) && (decide (∀ i ∈ is, (N[i]?).isSome = true) &&
    (decide (∀ y ∈ scope.names, y.2 = .free → sc.names.lookup y.1 = some .cell ∨ sc.names.lookup y.1 = some .free) && decide (∀ y ∈ scope.names, y.2 = .local ∨ y.2 = .cell → y.1 ∈ is.map (fun i => N.getD i "") ∨ y.1 ∉ N))))
def ownOf (N : List Str) (is : List Nat) : List (Str × Nat) := is.map fun i => (N.getD i "", i)
def chG1 (gls : List (Str × Int)) (sc : Scope) (nm : Str) : D → Bool
  | .int i => decide ((nm, i) ∈ gls) && (glb sc nm && okN nm)
  | _ => false
def chK (gls : List (Str × Int)) (sc : Scope) (c : D) (e : Expr) : Bool := match vConst e with
  | some k => kOk c k
  | none => match vName e with
    | some nm => chG1 gls sc nm c
    | none => false
def okI : ItK → Str → Nat → Bool
  | .rng1, nm, n => decide (nm = ("range" : Str)) && decide (n = 0)
  | .rng2, nm, n => decide (nm = ("range" : Str)) && decide (n = 1)
  | .enum, nm, n => decide (nm = ("enumerate" : Str)) && decide (n = 0)
  | .zip2, nm, n => decide (nm = ("zip" : Str)) && decide (n = 1)
  | _, _, _ => false
section
variable (gls : List (Str × Int)) (nms : List (Str × Nat)) (lim : Nat) (N : List Str)
mutual

def chE : Ex → Bool → Scope → (Str → Bool) → Expr → Bool
  | .v i, t, sc, _, e => (!t || plainT e) && match vName e with
    | some nm => decide (N[i]? = some nm) && (vis sc nm && okN nm)
    | none => false
  | .k c, t, sc, _, e => (!t || plainT e) && chK gls sc c e
  | .tup es, t, sc, fc, e => (!t || plainT e) && match vTup e with
    | some xs => chL es false sc fc xs && decide (lenE es ≤ 1000)
    | none => false
  | .lst es, t, sc, fc, e => (!t || plainT e) && match vLst e with
    | some xs => chL es false sc fc xs && decide (lenE es ≤ 1000)
    | none => false
  | .bin o a b, t, sc, fc, e => (!t || plainT e) && match vBin e with
    | some (l, op, r) => decide (op = bop o) && (chE a false sc fc l && chE b false sc fc r)
    | none => false
  | .neg a, t, sc, fc, e => (!t || plainT e) && match vNeg e with
    | some x => chE a false sc fc x
    | none => false
  | .not a, t, sc, fc, e => match vNot e with
    | some x => chE a t sc fc x
    | none => false
  | .and es, t, sc, fc, e => match vAnd e with
    | some xs => chL es t sc fc xs && decide (0 < lenE es)
    | none => false
  | .or es, t, sc, fc, e => match vOr e with
    | some xs => chL es t sc fc xs && decide (0 < lenE es)
    | none => false
  | .cmp a cs, _, sc, fc, e => match vCmp e with
    | some (l, ops, rs) => chE a false sc fc l && (chC cs sc fc ops rs && !lastMarks ops rs)
    | none => false
  | .ite c a b, t, sc, fc, e => !t && match vIf e with
    | some (x, y, z) => chE c true sc fc x && (chE a false sc fc y && chE b false sc fc z)
    | none => false
  | .ix a i, t, sc, fc, e => (!t || plainT e) && match vSub e with
    | some (o, s) => chE a false sc fc o && (chE i false sc fc s && plainI s)
    | none => false
  | .sl a lo hi, t, sc, fc, e => (!t || plainT e) && match vSub e with
    | some (o, s) => chE a false sc fc o && match vPart s with
      | some (l, h) => (match l with
        | none => isAbs lo
        | some l' => chE lo false sc fc l') && (match h with
        | none => isAbs hi
        | some h' => chE hi false sc fc h')
      | none => false
    | none => false
  | .rev a, t, sc, fc, e => (!t || plainT e) && match vSub e with
    | some (o, s) => chE a false sc fc o && vBack s
    | none => false
  | .abs, _, _, _, _ => false
  | .comp elt tg ik ss ifs, t, sc, fc, e => (!t || plainT e) && match vLc e with
    | some (el, te, it, fs, scope) => chB N sc scope (slotsT tg) && (chG N (relS scope sc) (fcOf scope) tg te && ((!pairK ik || (isT tg && (vTup te).isSome)) && (notSet it &&
        (chI ik ss sc fc it && (chE elt false (relS scope sc) (fcOf scope) el && (match ifs, fs with
          | .nil, [] => true
          | .cons c .nil, [f] => chE c true (relS scope sc) (fcOf scope) f
          | _, _ => false))))))
    | none => false
  | .call f args, t, sc, fc, e => (!t || plainT e) && match vCall e with
    | some (nm, xs) => decide (nms[f]? = some (nm, lenR args)) && (decide (f < lim) && (glb sc nm && (okN nm && (chR args sc fc xs && !xs.isEmpty))))
    | none => false
  | .blt b es, t, sc, fc, e => (!t || plainT e) && match vCall e with
    | some (nm, xs) => glb sc nm && match b with
      | .isi ty => decide (nm = ("isinstance" : Str)) && (match es, xs with
        | .cons xa .nil, [x, y] => chE xa false sc fc x && (notStar x && (decide (vName y = some (Str.ofString (tyS ty))) && glb sc (Str.ofString (tyS ty))))
        | _, _ => false)
      | .listR1 => decide (nm = ("list" : Str)) && (match es, xs with
        | .cons xa .nil, [x] => (match vCall x with
          | some (nm', [y]) => decide (nm' = ("range" : Str)) && (glb sc ("range" : Str) && (chE xa false sc fc y && notStar y))
          | _ => false)
        | _, _ => false)
      | .tupR1 => decide (nm = ("tuple" : Str)) && (match es, xs with
        | .cons xa .nil, [x] => (match vCall x with
          | some (nm', [y]) => decide (nm' = ("range" : Str)) && (glb sc ("range" : Str) && (chE xa false sc fc y && notStar y))
          | _ => false)
        | _, _ => false)
      | .lenDict => decide (nm = ("len" : Str)) && (match es, xs with
        | .cons xa .nil, [x] => (match vCall x with
          | some (nm', [y]) => decide (nm' = ("dict" : Str)) && (glb sc ("dict" : Str) && (chE xa false sc fc y && notStar y))
          | _ => false)
        | _, _ => false)
      | .lenSet => decide (nm = ("len" : Str)) && (match es, xs with
        | .cons xa .nil, [x] => (match vCall x with
          | some (nm', [y]) => decide (nm' = ("set" : Str)) && (glb sc ("set" : Str) && (chE xa false sc fc y && notStar y))
          | _ => false)
        | _, _ => false)
      | .sortSet => decide (nm = ("sorted" : Str)) && (match es, xs with
        | .cons xa .nil, [x] => (match vCall x with
          | some (nm', [y]) => decide (nm' = ("set" : Str)) && (glb sc ("set" : Str) && (chE xa false sc fc y && notStar y))
          | _ => false)
        | _, _ => false)
      | .listR2 => decide (nm = ("list" : Str)) && (match es, xs with
        | .cons xa (.cons xb .nil), [x] => (match vCall x with
          | some (nm', [y, z]) => decide (nm' = ("range" : Str)) && (glb sc ("range" : Str) && (chE xa false sc fc y && (notStar y && (chE xb false sc fc z && notStar z))))
          | _ => false)
        | _, _ => false)
      | b => decide (bNm b = some nm) && (okN nm && (chL es false sc fc xs && !xs.isEmpty))
    | none => false
  | .meth m o es, t, sc, fc, e => (!t || plainT e) && match vMeth e with
    | some (x, nm, ap, xs, cp) => (match m, es, xs with
      | .index, .cons xa .nil, [y] => decide (nm = ("index" : Str)) && (FZ && (chE o false sc fc x && (notSuper x && (chE xa false sc fc y && (notStar y && (ap.endLine == cp.line))))))
      | .get, .cons xa (.cons xb .nil), [y, z] => decide (nm = ("get" : Str)) && (chE o false sc fc x && (notSuper x && (chE xa false sc fc y && (notStar y && (chE xb false sc fc z && (notStar z && (ap.endLine == cp.line)))))))
      | _, _, _ => false)
    | none => false
  | .dnew _, t, _, _, e => (!t || plainT e) && vDict0 e
  | .disp d fl es, t, sc, fc, e => (!t || plainT e) && (match (if d = true then vTup e else vLst e) with
    | some xs => chP es fl sc fc xs
    | none => false)
  | .sabs a, t, sc, fc, e => (!t || plainT e) && (match vSabs e with
    | some x => glb sc "sorted" && (glb sc "abs" && (chE a false sc fc x && notStar x))
    | none => false)
def chL : Exs → Bool → Scope → (Str → Bool) → List Expr → Bool
  | .nil, _, _, _, [] => true
  | .cons x r, t, sc, fc, e :: es => notStar e && (chE x t sc fc e && chL r t sc fc es)
  | _, _, _, _, _ => false
def chP : Exs → List Bool → Scope → (Str → Bool) → List Expr → Bool
  | .nil, [], _, _, [] => true
  | .cons x r, false :: fl, sc, fc, e :: es => notStar e && (chE x false sc fc e && chP r fl sc fc es)
  | .cons x r, true :: fl, sc, fc, e :: es => (match vStar e with
    | some e' => chE x false sc fc e'
    | none => false) && chP r fl sc fc es
  | _, _, _, _, _ => false
def chC : Cps → Scope → (Str → Bool) → List CmpOp → List Expr → Bool
  | .cons o x .nil, sc, fc, [op], [e] => decide (op = cop o) && chE x false sc fc e
  | .cons o x r, sc, fc, op :: ops, e :: es => decide (op = cop o) && (chE x false sc fc e && chC r sc fc ops es)
  | _, _, _, _, _ => false
def chR : Ars → Scope → (Str → Bool) → List Expr → Bool
  | .nil, _, _, [] => true
  | .src i r, sc, fc, e :: es => (match vName e with
    | some nm => decide (N[i]? = some nm) && (vis sc nm && okN nm)
    | none => false) && chR r sc fc es
  | .ex x r, sc, fc, e :: es => notStar e && (chE x false sc fc e && chR r sc fc es)
  | _, _, _, _ => false
def chI : ItK → Exs → Scope → (Str → Bool) → Expr → Bool
  | .seq, .cons x .nil, sc, fc, e => chE x false sc fc e
  | ik, .cons x r, sc, fc, e => match vCall e with
    | some (nm, e1 :: es) => glb sc nm && (okI ik nm es.length && (notStar e1 && (chE x false sc fc e1 && chL r false sc fc es)))
    | _ => false
  | _, .nil, _, _, _ => false
end
end
end DT

/-! The check is sound: expressions. -/
namespace DT
open PySem L2 PyProof.Rows
structure Cok (F : List Fn) (gls : List (Str × Int)) (nms : List (Str × Nat)) (lim lev : Nat) (N : List Str) (X : Cx) (sc : Scope) (fc : Str → Bool) : Prop where
  calm : X.calm = true
  hN : X.N = N
  nd : X.N.Nodup
  hsc : X.env.scope = sc
  kind : sc.kind = .function
  room : Room lev X.A
  gd : X.A.guards = some []
  mgB : ∀ nm, nm ∈ bltNames → X.mg nm = none
  fnc : ∀ nm, fc nm = true → X.fn nm = true
  glo : ∀ nm i, (nm, i) ∈ gls → ∃ t, X.mg nm = some (.int i t)
  tab : ∀ i nm n h, i < lim → nms[i]? = some (nm, n) → F[i]? = some h → ∃ (f : Addr) (fd : FuncData) (ps : List Str), ps.length = n ∧ X.mg nm = some (.ref f) ∧ PySem.W.keepIn X.K (.ref f) = true ∧ Binds X.K fd ps [] ∧ FnG X.prog X.w X.K X.mg X.base lev f fd ps (spF ps.length h)
section
variable {F : List Fn} {gls : List (Str × Int)} {nms : List (Str × Nat)} {lim lev : Nat} {N : List Str}
theorem Cok.hu {X : Cx} {sc : Scope} {fc : Str → Bool} (C : Cok F gls nms lim lev N X sc fc) : X.A.units + 65 < cLine := by
  have := C.room.un
  omega
theorem Cok.blk {X : Cx} {sc : Scope} {fc : Str → Bool} (C : Cok F gls nms lim lev N X sc fc) {scope : Scope} (hk : scope.kind = .function) (s : Shared) (H : Hp) (A : Addr) (cl : List (Str × Addr)) (fp : List Addr) :
    Cok F gls nms lim lev N (X.blk s H scope (compEnvC scope cl A X.env) fp) (relS scope sc) (fcOf scope) := by
  refine ⟨C.calm, C.hN, C.nd, ?_, hk, C.room, C.gd, C.mgB, fun nm h => h, C.glo, C.tab⟩
  rw [← C.hsc]
  rfl
theorem ba {a b : Bool} (h : (a && b) = true) : a = true ∧ b = true := Bool.and_eq_true_iff.mp h
/-- a form that is no test of its own -/
theorem fin_ {X : Cx} {e : Expr} {x : Ex} {R : Bool} (h : R = true → PE X e (tX F x)) : (((!false || plainT e) && R) = true → PE X e (tX F x)) ∧ (((!true || plainT e) && R) = true → PT X e (tC F x)) :=
  ⟨fun z => h (ba z).2, fun z => pt_D (h (ba z).2) fun w => plainT_ok (by simpa using (ba z).1) w⟩
theorem two_ {A B : Prop} {t : Bool} {R : Bool → Bool} (h : (R false = true → A) ∧ (R true = true → B)) : R t = true → if t = true then B else A := by
  cases t with
  | true => exact fun z => h.2 z
  | false => exact fun z => h.1 z
/-! ### targets -/
mutual
theorem sG {X : Cx} {sc : Scope} {fc : Str → Bool} (C : Cok F gls nms lim lev N X sc fc) : ∀ (t : Tg) (e : Expr), chG N sc fc t e = true → PG X e (gD X.K t)
  | .n i, e, h => by
    unfold chG at h
    cases v : vName e with
    | none => rw [v] at h; cases h
    | some nm =>
      rw [v] at h
      obtain ⟨p, rfl⟩ := vName_eq v
      obtain ⟨h1, h2⟩ := ba h
      obtain ⟨l1, l2⟩ := sto_ok C.hsc C.fnc h2
      exact pg_nameD C.nd (by rw [C.hN]; exact of_decide_eq_true h1) l1 l2
  | .t ts, e, h => by
    unfold chG at h
    cases v : vTup e with
    | none => rw [v] at h; cases h
    | some es =>
      rw [v] at h
      obtain ⟨k, p, rfl⟩ := vTup_eq v
      obtain ⟨q, st, ln⟩ := sGs C ts es h
      exact pg_tupD C.calm q (by rw [assign_len st, ln]) (assign_find st)
theorem sGs {X : Cx} {sc : Scope} {fc : Str → Bool} (C : Cok F gls nms lim lev N X sc fc) : ∀ (ts : List Tg) (es : List Expr), chGs N sc fc ts es = true → PGs X es (gDs X.K ts) ∧ es.all notStar = true ∧ es.length = ts.length
  | [], [], _ => ⟨pgs_nilD, rfl, rfl⟩
  | t :: ts, e :: es, h => by
    unfold chGs at h
    obtain ⟨h1, h2⟩ := ba h
    obtain ⟨h3, h4⟩ := ba h2
    obtain ⟨q, st, ln⟩ := sGs C ts es h4
    refine ⟨pgs_consD (sG C t e h3) q (by rw [assign_cons h1]; rfl), by rw [List.all_cons, h1, st]; rfl, by rw [List.length_cons, List.length_cons, ln]⟩
  | [], _ :: _, h => by
    unfold chGs at h
    cases h
  | _ :: _, [], h => by
    unfold chGs at h
    cases h
end
theorem chB_ok {sc scope : Scope} {is : List Nat} (h : chB N sc scope is = true) : BlkOk N sc scope (ownOf N is) ∧ (ownOf N is).map (·.2) = is ∧ scope.kind = .function := by
  unfold chB at h
  obtain ⟨h1, h⟩ := ba h
  obtain ⟨h2, h⟩ := ba h
  obtain ⟨h3, h⟩ := ba h
  obtain ⟨h4, h5⟩ := ba h
  have h1 := of_decide_eq_true h1
  have h2 := of_decide_eq_true h2
  have h3 := of_decide_eq_true h3
  have h4 := of_decide_eq_true h4
  have h5 := of_decide_eq_true h5
  refine ⟨⟨h1, h2, fun p hp => ?_, h4, fun y hy hk => ?_⟩, ?_, h1⟩
  · obtain ⟨i, hi, rfl⟩ := List.mem_map.mp hp
    have q := h3 i hi
    obtain ⟨x, e⟩ := Option.isSome_iff_exists.mp q
    have z : N.getD i "" = x := by
      rw [List.getD_eq_getElem?_getD, e]
      rfl
    show N[i]? = some (N.getD i "")
    rw [z]
    exact e
  · rcases h5 y hy hk with z | z
    · refine .inl ?_
      unfold ownOf
      rw [List.map_map]
      exact z
    · exact .inr z
  · unfold ownOf
    rw [List.map_map]
    exact List.map_id is
end
end DT

/-! The check is sound: expressions, all forms. -/
namespace DT
open PySem L2 PyProof.Rows
section
variable {F : List Fn} {gls : List (Str × Int)} {nms : List (Str × Nat)} {lim lev : Nat} {N : List Str}
theorem pe_gloD {X : Cx} {nm : Str} {i : Int} {t : Tok} {p : Pos} (hg : Gl X nm) (hm : X.mg nm = some (.int i t)) (hd : (nm == ("__debug__" : Str)) = false) : PE X (.Name nm p) (tX F (.k (.int i))) := by
  refine ⟨fun pins s σ H Q I h' => ?_⟩
  obtain ⟨M0, sa, N, ρ, g, d, g', S, e, q⟩ := h'
  rw [ev] at e
  obtain ⟨rfl, rfl⟩ := ret_some e
  exact ld_glob I hg hm ⟨.int i, H, I, ⟨t, rfl⟩, q _ H (.int S i)⟩ hd
theorem isAbs_eq {x : Ex} (h : isAbs x = true) : x = .abs := by
  cases x <;> first | rfl | cases h
theorem notAbs {x : Ex} {t : Bool} {sc : Scope} {fc : Str → Bool} {e : Expr} (h : chE gls nms lim N x t sc fc e = true) : x ≠ .abs := fun z => by
  subst z
  rw [chE] at h
  cases h
theorem emp {α : Type} {xs : List α} (h : (!xs.isEmpty) = true) : ∃ y ys, xs = y :: ys := by
  cases xs with
  | nil => cases h
  | cons y ys => exact ⟨y, ys, rfl⟩
theorem few_one {env : Env} {pos : Pos} {e : Expr} (h : notStar e = true) : ((backTo pos (starEach [e] env)).all (fun x => !x.1) && (backToKw pos (keywordEach [] env)).all (fun x => x.1.isSome) && decide ([e].length + ([] : List Keyword).length + (if ([] : List Keyword).isEmpty then 0 else 1) < 30)) = true := by
  rw [star_cons h]
  rfl
theorem bltDef {X : Cx} {sc : Scope} {fc : Str → Bool} (C : Cok F gls nms lim lev N X sc fc) {b : Bl} {es : Exs} {xs : List Expr} {nm : Str} {p pos : Pos} (hg : glb sc nm = true) (h1 : bNm b = some nm) (h2 : okN nm = true) (ha : PA X xs (tA F es)) (st : xs.all notStar = true) (h3 : (!xs.isEmpty) = true) : PE X (.Call (.Name nm p) xs [] pos) (tX F (.blt b es)) := by
  obtain ⟨y, ys, rfl⟩ := emp h3
  rw [List.all_cons] at st
  obtain ⟨s1, s2⟩ := ba st
  obtain ⟨o1, o2, o3⟩ := okN_ok h2
  obtain ⟨hm, z⟩ := bNm_ok h1
  rcases z with ⟨id, z1, z2⟩ | ⟨T, z1, z2⟩
  · exact pe_bltD C.calm C.gd C.room z1 (glb_ok C.hsc hg) (C.mgB nm hm) z2 ha o3 o1 (star_cons s1 _) (star_any s2)
  · exact pe_bltTyD C.calm C.gd C.room z1 (glb_ok C.hsc hg) (C.mgB nm hm) z2 ha o3 o1 (star_cons s1 _) (star_any s2)
theorem mem_blt {nm : Str} (h : nm = "isinstance" ∨ nm = "range" ∨ nm = "enumerate" ∨ nm = "zip" ∨ nm = "list") : nm ∈ bltNames := by
  rcases h with rfl | rfl | rfl | rfl | rfl <;> decide +kernel
theorem ty_mem (t : Ty) : Str.ofString (tyS t) ∈ bltNames := by
  cases t <;> decide +kernel
mutual
theorem sE : ∀ (x : Ex) (X : Cx) (sc : Scope) (fc : Str → Bool) (e : Expr), Cok F gls nms lim lev N X sc fc → (chE gls nms lim N x false sc fc e = true → PE X e (tX F x)) ∧ (chE gls nms lim N x true sc fc e = true → PT X e (tC F x))
  | .v i, X, sc, fc, e, C => by
    rw [chE, chE]
    refine fin_ fun h => ?_
    cases v : vName e with
    | none => rw [v] at h; cases h
    | some nm =>
      rw [v] at h
      obtain ⟨p, rfl⟩ := vName_eq v
      obtain ⟨h1, h⟩ := ba h
      obtain ⟨h2, h3⟩ := ba h
      obtain ⟨o1, o2, _⟩ := okN_ok h3
      exact pe_vD (by rw [C.hN]; exact of_decide_eq_true h1) (by rw [C.hsc]; exact vis_ok h2) o1 o2
  | .k c, X, sc, fc, e, C => by
    rw [chE, chE]
    refine fin_ fun h => ?_
    unfold chK at h
    cases v : vConst e with
    | none =>
      rw [v] at h
      dsimp only at h
      cases w : vName e with
      | none => rw [w] at h; cases h
      | some nm =>
        rw [w] at h
        obtain ⟨p, rfl⟩ := vName_eq w
        unfold chG1 at h
        cases c with
        | int i =>
          obtain ⟨h1, h⟩ := ba h
          obtain ⟨h2, h3⟩ := ba h
          obtain ⟨t, ht⟩ := C.glo nm i (of_decide_eq_true h1)
          exact pe_gloD (glb_ok C.hsc h2) ht (okN_ok h3).1
        | _ => cases h
    | some k =>
      rw [v] at h
      obtain ⟨j, p, rfl⟩ := vConst_eq v
      exact pe_kD (kOk_ok h)
  | .tup es, X, sc, fc, e, C => by
    rw [chE, chE]
    refine fin_ fun h => ?_
    cases v : vTup e with
    | none => rw [v] at h; cases h
    | some xs =>
      rw [v] at h
      obtain ⟨k, p, rfl⟩ := vTup_eq v
      obtain ⟨h1, h2⟩ := ba h
      exact pe_tupD ((sL es X sc fc xs C).1 h1).1 (of_decide_eq_true h2)
  | .lst es, X, sc, fc, e, C => by
    rw [chE, chE]
    refine fin_ fun h => ?_
    cases v : vLst e with
    | none => rw [v] at h; cases h
    | some xs =>
      rw [v] at h
      obtain ⟨p, rfl⟩ := vLst_eq v
      obtain ⟨h1, h2⟩ := ba h
      exact pe_lstD ((sL es X sc fc xs C).1 h1).1 (of_decide_eq_true h2)
  | .bin o a b, X, sc, fc, e, C => by
    rw [chE, chE]
    refine fin_ fun h => ?_
    cases v : vBin e with
    | none => rw [v] at h; cases h
    | some q =>
      obtain ⟨l, op, r⟩ := q
      rw [v] at h
      obtain ⟨p, rfl⟩ := vBin_eq v
      obtain ⟨h1, h⟩ := ba h
      obtain ⟨h2, h3⟩ := ba h
      cases of_decide_eq_true h1
      exact pe_binD ((sE a X sc fc l C).1 h2) ((sE b X sc fc r C).1 h3)
  | .neg a, X, sc, fc, e, C => by
    rw [chE, chE]
    refine fin_ fun h => ?_
    cases v : vNeg e with
    | none => rw [v] at h; cases h
    | some x =>
      rw [v] at h
      obtain ⟨p, rfl⟩ := vNeg_eq v
      exact pe_negD ((sE a X sc fc x C).1 h)
  | .not a, X, sc, fc, e, C => by
    rw [chE, chE]
    cases v : vNot e with
    | none => exact ⟨fun h => (by cases h), fun h => (by cases h)⟩
    | some x =>
      obtain ⟨p, rfl⟩ := vNot_eq v
      exact ⟨fun h => pe_notD ((sE a X sc fc x C).1 h), fun h => pt_notD ((sE a X sc fc x C).2 h)⟩
  | .and es, X, sc, fc, e, C => by
    rw [chE, chE]
    cases v : vAnd e with
    | none => exact ⟨fun h => (by cases h), fun h => (by cases h)⟩
    | some xs =>
      obtain ⟨p, rfl⟩ := vAnd_eq v
      exact ⟨fun h => pe_ofA (((sL es X sc fc xs C).1 (ba h).1).2.2 (of_decide_eq_true (ba h).2) p).1, fun h => pt_ofA ((sL es X sc fc xs C).2 (ba h).1 (of_decide_eq_true (ba h).2) p).1⟩
  | .or es, X, sc, fc, e, C => by
    rw [chE, chE]
    cases v : vOr e with
    | none => exact ⟨fun h => (by cases h), fun h => (by cases h)⟩
    | some xs =>
      obtain ⟨p, rfl⟩ := vOr_eq v
      exact ⟨fun h => pe_ofO (((sL es X sc fc xs C).1 (ba h).1).2.2 (of_decide_eq_true (ba h).2) p).2, fun h => pt_ofO ((sL es X sc fc xs C).2 (ba h).1 (of_decide_eq_true (ba h).2) p).2⟩
  | .cmp a cs, X, sc, fc, e, C => by
    rw [chE, chE]
    cases v : vCmp e with
    | none => exact ⟨fun h => (by cases h), fun h => (by cases h)⟩
    | some q =>
      obtain ⟨l, ops, rs⟩ := q
      obtain ⟨p, rfl⟩ := vCmp_eq v
      refine ⟨fun h => ?_, fun h => ?_⟩
      · obtain ⟨h1, h⟩ := ba h
        obtain ⟨h2, h3⟩ := ba h
        exact pe_cmpD (Bool.not_eq_true' _ ▸ h3) ((sE a X sc fc l C).1 h1) (sC cs X sc fc ops rs C h2)
      · obtain ⟨h1, h⟩ := ba h
        obtain ⟨h2, h3⟩ := ba h
        exact pt_cmpD (Bool.not_eq_true' _ ▸ h3) ((sE a X sc fc l C).1 h1) (sC cs X sc fc ops rs C h2)
  | .ite c a b, X, sc, fc, e, C => by
    rw [chE, chE]
    refine ⟨fun h => ?_, fun h => (by cases h)⟩
    have g := (ba h).2
    clear h
    cases v : vIf e with
    | none => rw [v] at g; cases g
    | some q =>
      obtain ⟨x, y, z⟩ := q
      rw [v] at g
      obtain ⟨p, rfl⟩ := vIf_eq v
      obtain ⟨h1, g1⟩ := ba g
      obtain ⟨h2, h3⟩ := ba g1
      exact pe_iteD ((sE c X sc fc x C).2 h1) ((sE a X sc fc y C).1 h2) ((sE b X sc fc z C).1 h3)
  | .ix a i, X, sc, fc, e, C => by
    rw [chE, chE]
    refine fin_ fun h => ?_
    cases v : vSub e with
    | none => rw [v] at h; cases h
    | some q =>
      obtain ⟨o, s⟩ := q
      rw [v] at h
      obtain ⟨p, rfl⟩ := vSub_eq v
      obtain ⟨h1, h⟩ := ba h
      obtain ⟨h2, h3⟩ := ba h
      exact pe_ixD C.hu ((sE a X sc fc o C).1 h1) ((sE i X sc fc s C).1 h2) (plainIx_of h3)
  | .sl a lo hi, X, sc, fc, e, C => by
    rw [chE, chE]
    refine fin_ fun h => ?_
    cases v : vSub e with
    | none => rw [v] at h; cases h
    | some q =>
      obtain ⟨o, s⟩ := q
      rw [v] at h
      obtain ⟨p, rfl⟩ := vSub_eq v
      obtain ⟨h1, g1⟩ := ba h
      clear h
      cases w : vPart s with
      | none => rw [w] at g1; cases g1
      | some q =>
        obtain ⟨l, u⟩ := q
        rw [w] at g1
        obtain ⟨p2, rfl⟩ := vPart_eq w
        clear w v
        obtain ⟨h2, h3⟩ := ba g1
        clear g1
        refine pe_slD ((sE a X sc fc o C).1 h1) ?_ ?_
        · cases l with
          | none =>
            rw [isAbs_eq h2]
            exact po_noneD
          | some l' => exact po_someD ((sE lo X sc fc l' C).1 h2) (notAbs h2)
        · cases u with
          | none =>
            rw [isAbs_eq h3]
            exact po_noneD
          | some u' => exact po_someD ((sE hi X sc fc u' C).1 h3) (notAbs h3)
  | .rev a, X, sc, fc, e, C => by
    rw [chE, chE]
    refine fin_ fun h => ?_
    cases v : vSub e with
    | none => rw [v] at h; cases h
    | some q =>
      obtain ⟨o, s⟩ := q
      rw [v] at h
      obtain ⟨p, rfl⟩ := vSub_eq v
      obtain ⟨h1, h2⟩ := ba h
      obtain ⟨k, p1, p2, p3, rfl⟩ := vBack_eq h2
      exact pe_revD ((sE a X sc fc o C).1 h1)
  | .abs, X, sc, fc, e, C => by
    rw [chE, chE]
    exact ⟨fun h => (by cases h), fun h => (by cases h)⟩
  | .comp elt tg ik ss ifs, X, sc, fc, e, C => by
    rw [chE, chE]
    refine fin_ fun h => ?_
    cases v : vLc e with
    | none => rw [v] at h; cases h
    | some q =>
      obtain ⟨el, te, it, fs, scope⟩ := q
      rw [v] at h
      obtain ⟨p, rfl⟩ := vLc_eq v
      obtain ⟨h1, h⟩ := ba h
      obtain ⟨h2, h⟩ := ba h
      obtain ⟨h3, h⟩ := ba h
      obtain ⟨h4, h⟩ := ba h
      obtain ⟨h5, h⟩ := ba h
      obtain ⟨h6, h7⟩ := ba h
      obtain ⟨ok, own, hk⟩ := chB_ok h1
      have hcp : pairK ik = true → isT tg = true ∧ ∃ elts k p, te = .Tuple elts k p := fun z => by
        rw [z] at h3
        obtain ⟨i1, i2⟩ := ba (show (isT tg && (vTup te).isSome) = true from h3)
        obtain ⟨xs, w⟩ := Option.isSome_iff_exists.mp i2
        obtain ⟨k, p, rfl⟩ := vTup_eq w
        exact ⟨i1, xs, k, p, rfl⟩
      have ok' : BlkOk X.N X.env.scope scope (ownOf N (slotsT tg)) := by
        rw [C.hN, C.hsc]
        exact ok
      refine pe_lcD (fun _ z => (hcp z).1) C.calm C.nd (sI ss ik X sc fc it C h5 te fun z => (hcp z).2) ok' own (fun s H A cl fp => ?_) (fun s H A cl fp => ?_) (fun s H A cl fp => ?_) (notSet_ok h4)
      · exact sG (C.blk hk s H A cl fp) tg te h2
      · have C' := C.blk hk s H A cl fp
        cases ifs with
        | nil =>
          cases fs with
          | nil => exact pts_nilD
          | cons f fs => cases h7
        | cons c r =>
          cases r with
          | nil =>
            cases fs with
            | nil => cases h7
            | cons f fs =>
              cases fs with
              | nil => exact pts_oneD ((sE c _ _ _ f C').2 h7)
              | cons f' fs => cases h7
          | cons c' r' =>
            cases fs with
            | nil => cases h7
            | cons f fs => cases h7
      · exact (sE elt _ _ _ el (C.blk hk s H A cl fp)).1 h6
  | .call f args, X, sc, fc, e, C => by
    rw [chE, chE]
    refine fin_ fun h => ?_
    cases v : vCall e with
    | none => rw [v] at h; cases h
    | some q =>
      obtain ⟨nm, xs⟩ := q
      rw [v] at h
      obtain ⟨p, pos, rfl⟩ := vCall_eq v
      obtain ⟨h1, h⟩ := ba h
      obtain ⟨h2, h⟩ := ba h
      obtain ⟨h3, h⟩ := ba h
      obtain ⟨h4, h⟩ := ba h
      obtain ⟨h5, h6⟩ := ba h
      obtain ⟨y, ys, rfl⟩ := emp h6
      obtain ⟨pr, st⟩ := sR args X sc fc (y :: ys) C h5
      rw [List.all_cons] at st
      obtain ⟨s1, s2⟩ := ba st
      obtain ⟨o1, _, _⟩ := okN_ok h4
      cases hF : F[f]? with
      | none =>
        refine ⟨fun pins s σ H Q I z => ?_⟩
        obtain ⟨M0, sa, N', ρ, g, d, g', S, e, q⟩ := z
        rw [ev] at e
        obtain ⟨as, g1, e1, f1⟩ := bnd_some e
        rw [hF] at f1
        cases f1
      | some hh =>
        obtain ⟨fa, fd, ps, l, q1, q2, q3, q4⟩ := C.tab f nm (lenR args) hh (of_decide_eq_true h2) (of_decide_eq_true h1) hF
        exact pe_callD hF l.symm q4 C.room C.gd (glb_ok C.hsc h3) q1 q2 q3 pr o1 (star_cons s1 _) (star_any s2)
  | .blt b es, X, sc, fc, e, C => by
    rw [chE, chE]
    refine fin_ fun h => ?_
    cases v : vCall e with
    | none => rw [v] at h; cases h
    | some q =>
      obtain ⟨nm, xs⟩ := q
      rw [v] at h
      obtain ⟨p, pos, rfl⟩ := vCall_eq v
      obtain ⟨h1, h⟩ := ba h
      have dflt : (decide (bNm b = some nm) && (okN nm && (chL gls nms lim N es false sc fc xs && !xs.isEmpty))) = true → PE X (.Call (.Name nm p) xs [] pos) (tX F (.blt b es)) := fun z => by
        obtain ⟨z1, z⟩ := ba z
        obtain ⟨z2, z⟩ := ba z
        obtain ⟨z3, z4⟩ := ba z
        obtain ⟨pa, st, _⟩ := (sL es X sc fc xs C).1 z3
        exact bltDef C h1 (of_decide_eq_true z1) z2 pa st z4
      cases b with
      | isi ty =>
        obtain ⟨i1, i2⟩ := ba h
        cases of_decide_eq_true i1
        match es, xs, i2 with
        | .cons xa .nil, [x, y], i2 =>
          obtain ⟨j1, i2⟩ := ba i2
          obtain ⟨j2, i2⟩ := ba i2
          obtain ⟨j3, j4⟩ := ba i2
          obtain ⟨p2, rfl⟩ := vName_eq (of_decide_eq_true j3)
          exact pe_isiD (glb_ok C.hsc h1) (C.mgB _ (mem_blt (.inl rfl))) (glb_ok C.hsc j4) (C.mgB _ (ty_mem ty)) ((sE xa X sc fc x C).1 j1) (star_cons j2 _) (by rfl)
      | listR1 =>
        obtain ⟨i1, i2⟩ := ba h
        cases of_decide_eq_true i1
        match es, xs, i2 with
        | .cons xa .nil, [x], i2 =>
          dsimp only at i2
          cases w : vCall x with
          | none => rw [w] at i2; cases i2
          | some q =>
            obtain ⟨nm', ys⟩ := q
            rw [w] at i2
            match ys, i2, w with
            | [y], i2, w =>
              obtain ⟨p2, q2, rfl⟩ := vCall_eq w
              obtain ⟨j1, i2⟩ := ba i2
              obtain ⟨j2, i2⟩ := ba i2
              obtain ⟨j3, j4⟩ := ba i2
              cases of_decide_eq_true j1
              exact pe_listR1D C.calm (glb_ok C.hsc h1) (C.mgB _ (mem_blt (.inr (.inr (.inr (.inr rfl)))))) (glb_ok C.hsc j2) (C.mgB _ (mem_blt (.inr (.inl rfl)))) ((sE xa X sc fc y C).1 j3) (star_cons j4 _) (by rfl)
      | tupR1 =>
        obtain ⟨i1, i2⟩ := ba h
        cases of_decide_eq_true i1
        match es, xs, i2 with
        | .cons xa .nil, [x], i2 =>
          dsimp only at i2
          cases w : vCall x with
          | none => rw [w] at i2; cases i2
          | some q =>
            obtain ⟨nm', ys⟩ := q
            rw [w] at i2
            match ys, i2, w with
            | [y], i2, w =>
              obtain ⟨p2, q2, rfl⟩ := vCall_eq w
              obtain ⟨j1, i2⟩ := ba i2
              obtain ⟨j2, i2⟩ := ba i2
              obtain ⟨j3, j4⟩ := ba i2
              cases of_decide_eq_true j1
              exact pe_tupR1D C.calm (glb_ok C.hsc h1) (C.mgB _ (by decide +kernel)) (glb_ok C.hsc j2) (C.mgB _ (mem_blt (.inr (.inl rfl)))) ((sE xa X sc fc y C).1 j3) (star_cons j4 _) (by rfl)
      | lenDict =>
        obtain ⟨i1, i2⟩ := ba h
        cases of_decide_eq_true i1
        match es, xs, i2 with
        | .cons xa .nil, [x], i2 =>
          dsimp only at i2
          cases w : vCall x with
          | none => rw [w] at i2; cases i2
          | some q =>
            obtain ⟨nm', ys⟩ := q
            rw [w] at i2
            match ys, i2, w with
            | [y], i2, w =>
              obtain ⟨p2, q2, rfl⟩ := vCall_eq w
              obtain ⟨j1, i2⟩ := ba i2
              obtain ⟨j2, i2⟩ := ba i2
              obtain ⟨j3, j4⟩ := ba i2
              cases of_decide_eq_true j1
              exact pe_lenDictD C.calm C.hu (glb_ok C.hsc h1) (C.mgB _ (by decide +kernel)) (glb_ok C.hsc j2) (C.mgB _ (by decide +kernel)) ((sE xa X sc fc y C).1 j3) (star_cons j4 _)
      | lenSet =>
        obtain ⟨i1, i2⟩ := ba h
        cases of_decide_eq_true i1
        match es, xs, i2 with
        | .cons xa .nil, [x], i2 =>
          dsimp only at i2
          cases w : vCall x with
          | none => rw [w] at i2; cases i2
          | some q =>
            obtain ⟨nm', ys⟩ := q
            rw [w] at i2
            match ys, i2, w with
            | [y], i2, w =>
              obtain ⟨p2, q2, rfl⟩ := vCall_eq w
              obtain ⟨j1, i2⟩ := ba i2
              obtain ⟨j2, i2⟩ := ba i2
              obtain ⟨j3, j4⟩ := ba i2
              cases of_decide_eq_true j1
              exact pe_lenSetL C.calm (glb_ok C.hsc h1) (C.mgB _ (by decide +kernel)) (glb_ok C.hsc j2) (C.mgB _ (by decide +kernel)) ((sE xa X sc fc y C).1 j3) (by have := C.hu; omega) (star_cons j4 _)
      | sortSet =>
        obtain ⟨i1, i2⟩ := ba h
        cases of_decide_eq_true i1
        match es, xs, i2 with
        | .cons xa .nil, [x], i2 =>
          dsimp only at i2
          cases w : vCall x with
          | none => rw [w] at i2; cases i2
          | some q =>
            obtain ⟨nm', ys⟩ := q
            rw [w] at i2
            match ys, i2, w with
            | [y], i2, w =>
              obtain ⟨p2, q2, rfl⟩ := vCall_eq w
              obtain ⟨j1, i2⟩ := ba i2
              obtain ⟨j2, i2⟩ := ba i2
              obtain ⟨j3, j4⟩ := ba i2
              cases of_decide_eq_true j1
              exact pe_sortSetD C.calm (glb_ok C.hsc h1) (C.mgB _ (by decide +kernel)) (glb_ok C.hsc j2) (C.mgB _ (by decide +kernel)) ((sE xa X sc fc y C).1 j3) (star_cons j4 _)
      | listR2 =>
        obtain ⟨i1, i2⟩ := ba h
        cases of_decide_eq_true i1
        match es, xs, i2 with
        | .cons xa (.cons xb .nil), [x], i2 =>
          dsimp only at i2
          cases w : vCall x with
          | none => rw [w] at i2; cases i2
          | some q =>
            obtain ⟨nm', ys⟩ := q
            rw [w] at i2
            match ys, i2, w with
            | [y, z], i2, w =>
              obtain ⟨p2, q2, rfl⟩ := vCall_eq w
              obtain ⟨j1, i2⟩ := ba i2
              obtain ⟨j2, i2⟩ := ba i2
              obtain ⟨j3, i2⟩ := ba i2
              obtain ⟨j4, i2⟩ := ba i2
              obtain ⟨j5, j6⟩ := ba i2
              cases of_decide_eq_true j1
              exact pe_listR2D C.calm (glb_ok C.hsc h1) (C.mgB _ (mem_blt (.inr (.inr (.inr (.inr rfl)))))) (glb_ok C.hsc j2) (C.mgB _ (mem_blt (.inr (.inl rfl)))) ((sE xa X sc fc y C).1 j3) ((sE xb X sc fc z C).1 j5) (star_cons j4 _) (star_cons j6 _) (star_any (by rw [List.all_cons, j6]; rfl)) (by rfl)
      | _ => exact dflt h
  | .meth m o es, X, sc, fc, e, C => by
    rw [chE, chE]
    refine fin_ fun h => ?_
    cases v : vMeth e with
    | none => rw [v] at h; cases h
    | some q =>
      obtain ⟨x, nm, ap, xs, cp⟩ := q
      rw [v] at h
      have ev := vMeth_eq v
      subst ev
      match m, es, xs, h with
      | .index, .cons xa .nil, [y], h =>
        obtain ⟨h1, h⟩ := ba h
        obtain ⟨h2, h⟩ := ba h
        obtain ⟨h3, h⟩ := ba h
        obtain ⟨h4, h⟩ := ba h
        obtain ⟨h5, h⟩ := ba h
        obtain ⟨h6, h7⟩ := ba h
        cases of_decide_eq_true h1
        exact pe_indexD h2 C.hu ((sE o X sc fc x C).1 h3) ((sE xa X sc fc y C).1 h5) (notSuper_ok _ h4) (few_one h6) h7 (star_cons h6 _) (by rfl)
      | .get, .cons xa (.cons xb .nil), [y, z], h =>
        obtain ⟨h1, h⟩ := ba h
        obtain ⟨h2, h⟩ := ba h
        obtain ⟨h3, h⟩ := ba h
        obtain ⟨h4, h⟩ := ba h
        obtain ⟨h5, h⟩ := ba h
        obtain ⟨h6, h⟩ := ba h
        obtain ⟨h7, h8⟩ := ba h
        cases of_decide_eq_true h1
        exact pe_getD C.hu ((sE o X sc fc x C).1 h2) ((sE xa X sc fc y C).1 h4) ((sE xb X sc fc z C).1 h6) (notSuper_ok _ h3) (by rw [star_cons h5, star_cons h7]; rfl) h8 (by rw [star_cons h5, star_cons h7]; rfl)
  | .dnew d, X, sc, fc, e, C => by
    rw [chE, chE]
    refine fin_ fun h => ?_
    obtain ⟨p, rfl⟩ := vDict0_eq h
    exact pe_dnewD
  | .disp d fl es, X, sc, fc, e, C => by
    rw [chE, chE]
    refine fin_ fun h => ?_
    cases d with
    | true =>
      rw [if_pos rfl] at h
      cases v : vTup e with
      | none => rw [v] at h; cases h
      | some xs =>
        rw [v] at h
        obtain ⟨k, p, rfl⟩ := vTup_eq v
        exact pe_dispT (sP es fl X sc fc xs C h)
    | false =>
      rw [if_neg Bool.false_ne_true] at h
      cases v : vLst e with
      | none => rw [v] at h; cases h
      | some xs =>
        rw [v] at h
        obtain ⟨p, rfl⟩ := vLst_eq v
        exact pe_dispL (sP es fl X sc fc xs C h)
  | .sabs a, X, sc, fc, e, C => by
    rw [chE, chE]
    refine fin_ fun h => ?_
    cases v : vSabs e with
    | none => rw [v] at h; cases h
    | some x =>
      rw [v] at h
      obtain ⟨p, p2, kp, pos, rfl⟩ := vSabs_eq v
      obtain ⟨h1, h⟩ := ba h
      obtain ⟨h2, h⟩ := ba h
      obtain ⟨h3, h4⟩ := ba h
      exact pe_sabsD C.calm C.room (glb_ok C.hsc h1) (C.mgB _ (by decide +kernel)) (glb_ok C.hsc h2) (C.mgB _ (by decide +kernel)) ((sE a X sc fc x C).1 h3) (star_cons h4 _)
theorem sP : ∀ (xs : Exs) (fl : List Bool) (X : Cx) (sc : Scope) (fc : Str → Bool) (es : List Expr), Cok F gls nms lim lev N X sc fc → chP gls nms lim N xs fl sc fc es = true → PA X es (tSp F fl xs)
  | .nil, fl, X, sc, fc, es, C, h => by
    match fl, es, h with
    | [], [], _ => exact pa_spn
    | [], _ :: _, h =>
      unfold chP at h
      cases h
    | _ :: _, _, h =>
      unfold chP at h
      cases h
  | .cons x r, fl, X, sc, fc, es, C, h => by
    match fl, es, h with
    | [], _, h =>
      unfold chP at h
      cases h
    | true :: fl, [], h =>
      unfold chP at h
      cases h
    | false :: fl, [], h =>
      unfold chP at h
      cases h
    | false :: fl, e :: es, h =>
      rw [chP] at h
      obtain ⟨h1, h⟩ := ba h
      obtain ⟨h2, h3⟩ := ba h
      exact pa_spf ((sE x X sc fc e C).1 h2) (sP r fl X sc fc es C h3) (star_cons h1 _)
    | true :: fl, e :: es, h =>
      rw [chP] at h
      obtain ⟨h1, h2⟩ := ba h
      cases v : vStar e with
      | none => rw [v] at h1; cases h1
      | some e' =>
        rw [v] at h1
        obtain ⟨p1, rfl⟩ := vStar_eq v
        exact pa_spt ((sE x X sc fc e' C).1 h1) (sP r fl X sc fc es C h2)
theorem sL : ∀ (xs : Exs) (X : Cx) (sc : Scope) (fc : Str → Bool) (es : List Expr), Cok F gls nms lim lev N X sc fc →
    (chL gls nms lim N xs false sc fc es = true → PA X es (tA F xs) ∧ es.all notStar = true ∧ (0 < lenE xs → ∀ pos, PE X (.BoolOp .And es pos) (tXA F xs) ∧ PE X (.BoolOp .Or es pos) (tXO F xs))) ∧
    (chL gls nms lim N xs true sc fc es = true → 0 < lenE xs → ∀ pos, PW X (.BoolOp .And es pos) (tCA F xs) ∧ PW X (.BoolOp .Or es pos) (tCO F xs))
  | .nil, X, sc, fc, es, C => by
    cases es with
    | nil => exact ⟨fun _ => ⟨pa_nilD, rfl, fun z => absurd z (Nat.lt_irrefl 0)⟩, fun _ z => absurd z (Nat.lt_irrefl 0)⟩
    | cons e es => exact ⟨fun h => (by rw [chL] at h <;> first | cases h | exact fun z => by cases z), fun h => (by rw [chL] at h <;> first | cases h | exact fun z => by cases z)⟩
  | .cons x r, X, sc, fc, es, C => by
    cases es with
    | nil => exact ⟨fun h => (by rw [chL] at h <;> first | cases h | exact fun _ _ _ _ z => by cases z), fun h => (by rw [chL] at h <;> first | cases h | exact fun _ _ _ _ z => by cases z)⟩
    | cons e es =>
      refine ⟨fun h => ?_, fun h _ pos => ?_⟩
      · rw [chL] at h
        obtain ⟨h1, h⟩ := ba h
        obtain ⟨h2, h3⟩ := ba h
        have pe := (sE x X sc fc e C).1 h2
        obtain ⟨pa, st, bo⟩ := (sL r X sc fc es C).1 h3
        refine ⟨pa_consD pe pa (star_cons h1 _), by rw [List.all_cons, h1, st]; rfl, fun _ pos => ?_⟩
        cases r with
        | nil =>
          cases es with
          | nil => exact ⟨pe_and1D pe, pe_or1D pe⟩
          | cons e' es' => rw [chL] at h3 <;> first | cases h3 | exact fun z => by cases z
        | cons y r' =>
          cases es with
          | nil => rw [chL] at h3 <;> first | cases h3 | exact fun _ _ _ _ z => by cases z
          | cons e' es' =>
            obtain ⟨b1, b2⟩ := bo (Nat.succ_pos _) pos
            exact ⟨pe_andD pe b1, pe_orD pe b2⟩
      · rw [chL] at h
        obtain ⟨h1, h⟩ := ba h
        obtain ⟨h2, h3⟩ := ba h
        have pt := (sE x X sc fc e C).2 h2
        have bo := (sL r X sc fc es C).2 h3
        cases r with
        | nil =>
          cases es with
          | nil => exact ⟨pw_and1D pt, pw_or1D pt⟩
          | cons e' es' => rw [chL] at h3 <;> first | cases h3 | exact fun z => by cases z
        | cons y r' =>
          cases es with
          | nil => rw [chL] at h3 <;> first | cases h3 | exact fun _ _ _ _ z => by cases z
          | cons e' es' =>
            obtain ⟨b1, b2⟩ := bo (Nat.succ_pos _) pos
            exact ⟨pw_andD pt b1, pw_orD pt b2⟩
theorem sC : ∀ (cs : Cps) (X : Cx) (sc : Scope) (fc : Str → Bool) (ops : List CmpOp) (es : List Expr), Cok F gls nms lim lev N X sc fc → chC gls nms lim N cs sc fc ops es = true → PCh X F ops es cs
  | .nil, X, sc, fc, ops, es, C, h => by
    unfold chC at h
    cases h
  | .cons o x .nil, X, sc, fc, ops, es, C, h => by
    match ops, es, h with
    | [op], [e], h =>
      unfold chC at h
      obtain ⟨h1, h2⟩ := ba h
      cases of_decide_eq_true h1
      exact pch_one C.hu ((sE x X sc fc e C).1 h2)
    | [], _, h =>
      unfold chC at h
      cases h
    | op :: ops, [], h =>
      unfold chC at h
      cases ops <;> cases h
    | op :: op' :: ops, e :: es, h =>
      unfold chC at h
      have h3 := (ba (ba h).2).2
      unfold chC at h3
      cases h3
    | [op], e :: e' :: es, h =>
      unfold chC at h
      have h3 := (ba (ba h).2).2
      unfold chC at h3
      cases h3
  | .cons o x (.cons o' y r), X, sc, fc, ops, es, C, h => by
    match ops, es, h with
    | op :: ops, e :: es, h =>
      unfold chC at h
      obtain ⟨h1, h⟩ := ba h
      obtain ⟨h2, h3⟩ := ba h
      cases of_decide_eq_true h1
      have q := sC (.cons o' y r) X sc fc ops es C h3
      match ops, es, h3, q with
      | op' :: ops', e' :: es', h3, q =>
        have eo : op' = cop o' := by
          cases r with
          | nil =>
            match ops', es', h3 with
            | [], [], h3 =>
              unfold chC at h3
              exact of_decide_eq_true (ba h3).1
            | [], _ :: _, h3 =>
              unfold chC at h3
              exact of_decide_eq_true (ba h3).1
            | _ :: _, [], h3 =>
              unfold chC at h3
              exact of_decide_eq_true (ba h3).1
            | _ :: _, _ :: _, h3 =>
              unfold chC at h3
              exact of_decide_eq_true (ba h3).1
          | cons o2 y2 r2 =>
            unfold chC at h3
            exact of_decide_eq_true (ba h3).1
        subst eo
        exact pch_cons C.hu ((sE x X sc fc e C).1 h2) q
      | [], _, h3, q =>
        unfold chC at h3
        cases r <;> cases h3
      | _ :: _, [], h3, q =>
        unfold chC at h3
        cases r <;> cases ‹List CmpOp› <;> cases h3
    | [], _, h =>
      unfold chC at h
      cases h
    | op :: ops, [], h =>
      unfold chC at h
      cases h
theorem sR : ∀ (xs : Ars) (X : Cx) (sc : Scope) (fc : Str → Bool) (es : List Expr), Cok F gls nms lim lev N X sc fc → chR gls nms lim N xs sc fc es = true → PA X es (tR F xs) ∧ es.all notStar = true
  | .nil, X, sc, fc, es, C, h => by
    cases es with
    | nil => exact ⟨pr_nil, rfl⟩
    | cons e es => rw [chR] at h <;> first | cases h | exact fun z => by cases z
  | .src i r, X, sc, fc, es, C, h => by
    cases es with
    | nil => rw [chR] at h <;> first | cases h | exact fun _ _ _ _ z => by cases z
    | cons e es =>
      rw [chR] at h
      obtain ⟨h1, h2⟩ := ba h
      obtain ⟨pr, st⟩ := sR r X sc fc es C h2
      cases v : vName e with
      | none => rw [v] at h1; cases h1
      | some nm =>
        rw [v] at h1
        obtain ⟨p, rfl⟩ := vName_eq v
        obtain ⟨h3, h1⟩ := ba h1
        obtain ⟨h4, h5⟩ := ba h1
        obtain ⟨o1, o2, _⟩ := okN_ok h5
        exact ⟨pr_src (by rw [C.hN]; exact of_decide_eq_true h3) (by rw [C.hsc]; exact vis_ok h4) o1 o2 pr (by rfl), by rw [List.all_cons, st]; rfl⟩
  | .ex x r, X, sc, fc, es, C, h => by
    cases es with
    | nil => rw [chR] at h <;> first | cases h | exact fun _ _ _ _ z => by cases z
    | cons e es =>
      rw [chR] at h
      obtain ⟨h1, h⟩ := ba h
      obtain ⟨h2, h3⟩ := ba h
      obtain ⟨pr, st⟩ := sR r X sc fc es C h3
      exact ⟨pr_ex ((sE x X sc fc e C).1 h2) pr (star_cons h1 _), by rw [List.all_cons, h1, st]; rfl⟩
theorem sI : ∀ (ss : Exs) (ik : ItK) (X : Cx) (sc : Scope) (fc : Str → Bool) (it : Expr), Cok F gls nms lim lev N X sc fc → chI gls nms lim N ik ss sc fc it = true → ∀ te : Expr, (pairK ik = true → ∃ elts k p, te = .Tuple elts k p) → PI X te it (tIt X.K F ik ss)
  | .nil, ik, X, sc, fc, it, C, h, te, ht => by
    cases ik <;> (rw [chI] at h; cases h)
  | .cons x r, ik, X, sc, fc, it, C, h, te, ht => by
    have main : ∀ nm e1 es, vCall it = some (nm, e1 :: es) → (glb sc nm && (okI ik nm es.length && (notStar e1 && (chE gls nms lim N x false sc fc e1 && chL gls nms lim N r false sc fc es)))) = true → PI X te it (tIt X.K F ik (.cons x r)) := fun nm e1 es v hm => by
          obtain ⟨p, pos, rfl⟩ := vCall_eq v
          obtain ⟨h1, hm⟩ := ba hm
          obtain ⟨h2, hm⟩ := ba hm
          obtain ⟨h4, hm⟩ := ba hm
          obtain ⟨h5, h6⟩ := ba hm
          clear h hm
          have pe := (sE x X sc fc e1 C).1 h5
          obtain ⟨pa, st, _⟩ := (sL r X sc fc es C).1 h6
          have pall := pa_consD pe pa (star_cons h4 _)
          cases ik with
          | rng1 =>
            obtain ⟨i1, i2⟩ := ba h2
            cases of_decide_eq_true i1
            have i3 : es = [] := List.length_eq_zero_iff.mp (of_decide_eq_true i2)
            subst i3
            match r, h6, pall with
            | .nil, _, pall => exact pi_rng1D (glb_ok C.hsc h1) (C.mgB _ (mem_blt (.inr (.inl rfl)))) pall (star_cons h4 _)
            | .cons _ _, h6, _ => rw [chL] at h6 <;> first | cases h6 | exact fun _ _ _ _ z => by cases z
          | rng2 =>
            obtain ⟨i1, i2⟩ := ba h2
            cases of_decide_eq_true i1
            match es, of_decide_eq_true i2, h6, pall, st with
            | [e2], _, h6, pall, st =>
              have s2 : notStar e2 = true := by simpa using st
              match r, h6, pall with
              | .nil, h6, _ => rw [chL] at h6 <;> first | cases h6 | exact fun z => by cases z
              | .cons y .nil, _, pall => exact pi_rng2D (glb_ok C.hsc h1) (C.mgB _ (mem_blt (.inr (.inl rfl)))) pall (by rw [star_cons h4, star_cons s2]; rfl) (star_cons s2 _)
              | .cons y (.cons _ _), h6, _ =>
                rw [chL] at h6
                have h7 := (ba (ba h6).2).2
                rw [chL] at h7 <;> first | cases h7 | exact fun _ _ _ _ z => by cases z
          | enum =>
            obtain ⟨i1, i2⟩ := ba h2
            cases of_decide_eq_true i1
            obtain ⟨elts, k, p', rfl⟩ := ht rfl
            have i3 : es = [] := List.length_eq_zero_iff.mp (of_decide_eq_true i2)
            subst i3
            match r, h6, pall with
            | .nil, _, pall => exact pi_enumD (glb_ok C.hsc h1) (C.mgB _ (mem_blt (.inr (.inr (.inl rfl))))) pall (star_cons h4 _)
            | .cons _ _, h6, _ => rw [chL] at h6 <;> first | cases h6 | exact fun _ _ _ _ z => by cases z
          | zip2 =>
            obtain ⟨i1, i2⟩ := ba h2
            cases of_decide_eq_true i1
            obtain ⟨elts, k, p', rfl⟩ := ht rfl
            match es, of_decide_eq_true i2, h6, pall, st with
            | [e2], _, h6, pall, st =>
              match r, h6, pall with
              | .nil, h6, _ => rw [chL] at h6 <;> first | cases h6 | exact fun z => by cases z
              | .cons y .nil, _, pall => exact pi_zip2D (glb_ok C.hsc h1) (C.mgB _ (mem_blt (.inr (.inr (.inr (.inl rfl)))))) pall (star_cons h4 _) (star_any st)
              | .cons y (.cons _ _), h6, _ =>
                rw [chL] at h6
                have h7 := (ba (ba h6).2).2
                rw [chL] at h7 <;> first | cases h7 | exact fun _ _ _ _ z => by cases z
          | seq => cases h2
          | zip3 => cases h2
          | items => cases h2
    have main2 : (match vCall it with
      | some (nm, e1 :: es) => glb sc nm && (okI ik nm es.length && (notStar e1 && (chE gls nms lim N x false sc fc e1 && chL gls nms lim N r false sc fc es)))
      | _ => false) = true → PI X te it (tIt X.K F ik (.cons x r)) := fun z => by
      cases v : vCall it with
      | none => rw [v] at z; cases z
      | some q =>
        obtain ⟨nm, xs⟩ := q
        rw [v] at z
        cases xs with
        | nil => cases z
        | cons e1 es => exact main nm e1 es v z
    cases ik with
    | seq =>
      cases r with
      | nil =>
        rw [chI] at h
        exact pi_seqD ((sE x X sc fc it C).1 h)
      | cons y r' =>
        rw [chI] at h
        · exact main2 h
        · exact fun _ z => by cases z
    | _ =>
      rw [chI] at h
      · exact main2 h
      · exact fun z => by cases z
end
end
end DT

/-! The check of statements. -/
namespace DT
open PySem L2 PyProof.Rows
def swSt (sc : Scope) (ts vs : List Expr) : Option (Option (List Str)) :=
  if (!(ts.length == 2 || ts.length == 3) || vs.length != ts.length || sc.kind != .function) = true then some none
  else if (vs.any fun | .Starred .. => true | _ => false) = true then some none
  else if ((ts.filterMap fun
    | .Name id pos => if sc.names.lookup id == some .local && pos.line == (ts.head?.map (·.pos.line)).getD 0 then some id else none
    | _ => none).length != ts.length || (ts.filterMap fun
    | .Name id pos => if sc.names.lookup id == some .local && pos.line == (ts.head?.map (·.pos.line)).getD 0 then some id else none
    | _ => none).eraseDups.length != (ts.filterMap fun
    | .Name id pos => if sc.names.lookup id == some .local && pos.line == (ts.head?.map (·.pos.line)).getD 0 then some id else none
    | _ => none).length) = true then some none
  else if vs.all (foldedForSure 8) = true then some none
  else if vs.all (constantsAlone 8) = true then none
  else some (some (ts.filterMap fun
    | .Name id pos => if sc.names.lookup id == some .local && pos.line == (ts.head?.map (·.pos.line)).getD 0 then some id else none
    | _ => none))
theorem swSt_ok {env : Env} {sc : Scope} (hs : env.scope = sc) (hk : sc.kind = .function) {ts vs : List Expr} {k k' : Nat} {p p' : Pos} {r : Option (List Str)} (h : swSt sc ts vs = some r) : swappedStores [.Tuple ts k p] (.Tuple vs k' p') env = pure r := by
  have hb : env.blockKind = sc.kind := by
    unfold Env.blockKind
    rw [hs, hk]
    rfl
  have hkind : ∀ id, env.kindOf id = sc.names.lookup id := fun id => by
    unfold Env.kindOf
    rw [hs]
  unfold swSt at h
  unfold swappedStores
  simp only [hb, hkind]
  split at h
  · rename_i c
    refine (if_pos c).trans ?_
    cases h
    rfl
  · rename_i c
    refine (if_neg c).trans ?_
    split at h
    · rename_i c
      refine (if_pos c).trans ?_
      cases h
      rfl
    · rename_i c
      refine (if_neg c).trans ?_
      split at h
      · rename_i c
        refine (if_pos c).trans ?_
        cases h
        rfl
      · rename_i c
        refine (if_neg c).trans ?_
        split at h
        · rename_i c
          refine (if_pos c).trans ?_
          cases h
          rfl
        · rename_i c
          refine (if_neg c).trans ?_
          split at h
          · cases h
          · rename_i c
            refine (if_neg c).trans ?_
            cases h
            rfl
theorem swNone {env : Env} {t : Expr} {e : Expr} (h : notTup e = true) : swappedStores [t] e env = pure none := by
  unfold swappedStores
  cases t <;> cases e <;> first | rfl | cases h
theorem swTup {env : Env} {e : Expr} {ts : List Expr} {k : Nat} {p : Pos} {l : Nat} : swapsWithSole [.Tuple ts k p] e l env = pure false := by
  cases e <;> rfl
def swB (sc scope : Scope) (t : Str) (p q : Pos) : Bool := sc.kind == .function && (sc.names.lookup t == some .local) && p.line == q.line && !(scope.names.any fun (n, k) => n == t && (k == .local || k == .cell))
theorem swB_ok {env : Env} {sc : Scope} (hs : env.scope = sc) (hk : sc.kind = .function) {el : Expr} {gs : List Comprehension} {scope : Scope} {q p : Pos} {t : Str} {l : Nat} : swapsWith (.ListComp el gs scope q) (some (.Name t p)) l env = pure (swB sc scope t p q) := by
  have hb : env.blockKind = sc.kind := by
    unfold Env.blockKind
    rw [hs, hk]
    rfl
  have hkind : env.kindOf t = sc.names.lookup t := by
    unfold Env.kindOf
    rw [hs]
  unfold swapsWith swB
  simp only [hb, hkind]
  rfl

/-! ### views of statements -/
def vAsg : Stmt → Option (Expr × Expr)
  | .Assign [t] e _ => some (t, e)
  | _ => none
def vExp : Stmt → Option Expr
  | .Expr e _ => some e
  | _ => none
def vIfS : Stmt → Option (Expr × List Stmt × List Stmt)
  | .If t a b _ => some (t, a, b)
  | _ => none
def vFor : Stmt → Option (Expr × Expr × List Stmt)
  | .For t i b [] _ => some (t, i, b)
  | _ => none
def vWhl : Stmt → Option (Expr × List Stmt)
  | .While t b [] _ => some (t, b)
  | _ => none
def vRet : Stmt → Option Expr
  | .Return (some e) _ => some e
  | _ => none
def vCont : Stmt → Bool
  | .Continue _ => true
  | _ => false
def vPass : Stmt → Bool
  | .Pass _ => true
  | _ => false
theorem vAsg_eq {s : Stmt} {t e : Expr} (h : vAsg s = some (t, e)) : ∃ p, s = .Assign [t] e p := by
  unfold vAsg at h
  split at h <;> cases h
  exact ⟨_, rfl⟩
theorem vExp_eq {s : Stmt} {e : Expr} (h : vExp s = some e) : ∃ p, s = .Expr e p := by
  unfold vExp at h
  split at h <;> cases h
  exact ⟨_, rfl⟩
theorem vIfS_eq {s : Stmt} {t : Expr} {a b : List Stmt} (h : vIfS s = some (t, a, b)) : ∃ p, s = .If t a b p := by
  unfold vIfS at h
  split at h <;> cases h
  exact ⟨_, rfl⟩
theorem vFor_eq {s : Stmt} {t i : Expr} {b : List Stmt} (h : vFor s = some (t, i, b)) : ∃ p, s = .For t i b [] p := by
  unfold vFor at h
  split at h <;> cases h
  exact ⟨_, rfl⟩
theorem vWhl_eq {s : Stmt} {t : Expr} {b : List Stmt} (h : vWhl s = some (t, b)) : ∃ p, s = .While t b [] p := by
  unfold vWhl at h
  split at h <;> cases h
  exact ⟨_, rfl⟩
theorem vRet_eq {s : Stmt} {e : Expr} (h : vRet s = some e) : ∃ p, s = .Return (some e) p := by
  unfold vRet at h
  split at h <;> cases h
  exact ⟨_, rfl⟩
theorem vCont_eq {s : Stmt} (h : vCont s = true) : ∃ p, s = .Continue p := by
  unfold vCont at h
  split at h
  · exact ⟨_, rfl⟩
  · cases h
theorem vPass_eq {s : Stmt} (h : vPass s = true) : ∃ p, s = .Pass p := by
  unfold vPass at h
  split at h
  · exact ⟨_, rfl⟩
  · cases h
/-- targets that are names, in these slots -/
def chNs (N : List Str) (sc : Scope) : List Nat → List Expr → Bool
  | [], [] => true
  | i :: is, e :: es => (match vName e with
    | some nm => decide (N[i]? = some nm) && sto sc (fun _ => true) nm
    | none => false) && chNs N sc is es
  | _, _ => false
def loc2 (sc : Scope) (e : Expr) : Bool := match vName e with
  | some nm => decide (sc.names.lookup nm = some .local)
  | none => false
/-- tuples on both sides that are no swap -/
def noSw (sc : Scope) (t e : Expr) : Bool := match vTup t, vTup e with
  | some ts, some vs => (match swSt sc ts vs with
    | some none => true
    | _ => false)
  | _, _ => false
theorem noSw_ok {env : Env} {sc : Scope} (hs : env.scope = sc) (hk : sc.kind = .function) {t e : Expr} (h : noSw sc t e = true) : swappedStores [t] e env = pure none := by
  unfold noSw at h
  cases w1 : vTup t with
  | none => rw [w1] at h; cases h
  | some ts =>
    cases w2 : vTup e with
    | none => rw [w1, w2] at h; cases h
    | some vs =>
      rw [w1, w2] at h
      obtain ⟨k1, p1, rfl⟩ := vTup_eq w1
      obtain ⟨k2, p2, rfl⟩ := vTup_eq w2
      cases w3 : swSt sc ts vs with
      | none => simp only [w3] at h; cases h
      | some r =>
        cases r with
        | none => exact swSt_ok hs hk w3
        | some _ => simp only [w3] at h; cases h
section
variable (gls : List (Str × Int)) (nms : List (Str × Nat)) (lim : Nat) (N : List Str)
mutual
def chS : Sx → Scope → Stmt → Bool
  | .set i x, sc, s => match vAsg s with
    | some (t, e) => (match vName t with
      | some nm => decide (N[i]? = some nm) && sto sc (fun _ => true) nm
      | none => false) && (chE gls nms lim N x false sc (fun _ => true) e && (notComp e || (vLc e).isSome))
    | none => false
  | .par is xs, sc, s => match vAsg s with
    | some (t, e) => (match vTup t, vTup e with
      | some ts, some vs => chNs N sc is ts && (chL gls nms lim N xs false sc (fun _ => true) vs && (decide (lenE xs = is.length) && (decide (is.length ≤ 1000) && (match swSt sc ts vs with
        | some none => true
        | some (some ns) => decide (ns = ts.filterMap vName) && (decide is.Nodup && (ts.all (loc2 sc) && (decide (is.length = 2) || decide (is.length = 3))))
        | none => false))))
      | _, _ => false)
    | none => false
  | .unp tg x, sc, s => match vAsg s with
    | some (t, e) => (vTup t).isSome && (chG N sc (fun _ => true) tg t && (chE gls nms lim N x false sc (fun _ => true) e && (notTup e || noSw sc t e)))
    | none => false
  | .six i k x, sc, s => match vAsg s with
    | some (t, e) => (match vSub t with
      | some (o, sl) => (match vName o with
        | some nm => decide (N[i]? = some nm) && (vis sc nm && okN nm)
        | none => false) && chE gls nms lim N k false sc (fun _ => true) sl
      | none => false) && (chE gls nms lim N x false sc (fun _ => true) e && notComp e)
    | none => false
  | .app i x, sc, s => match vExp s with
    | some c => (match vMeth c with
      | some (o, nm, ap, [e], cp) => decide (nm = ("append" : Str)) && ((match vName o with
        | some y => decide (N[i]? = some y) && (vis sc y && okN y)
        | none => false) && (chE gls nms lim N x false sc (fun _ => true) e && (notStar e && (ap.endLine == cp.line))))
      | _ => false)
    | none => false
  | .ext i x, sc, s => match vExp s with
    | some c => (match vMeth c with
      | some (o, nm, ap, [e], cp) => decide (nm = ("extend" : Str)) && ((match vName o with
        | some y => decide (N[i]? = some y) && (vis sc y && okN y)
        | none => false) && (chE gls nms lim N x false sc (fun _ => true) e && (notStar e && (ap.endLine == cp.line))))
      | _ => false)
    | none => false
  | .iff x a b, sc, s => match vIfS s with
    | some (t, p, q) => chE gls nms lim N x true sc (fun _ => true) t && (chSs a sc p && chSs b sc q)
    | none => false
  | .for tg ik ss body, sc, s => match vFor s with
    | some (t, it, b) => chG N sc (fun _ => true) tg t && ((!pairK ik || (isT tg && (vTup t).isSome)) && (notSet it && (chI gls nms lim N ik ss sc (fun _ => true) it && chSs body sc b)))
    | none => false
  | .whl x body, sc, s => match vWhl s with
    | some (t, b) => chE gls nms lim N x true sc (fun _ => true) t && chSs body sc b
    | none => false
  | .ret x, sc, s => match vRet s with
    | some e => chE gls nms lim N x false sc (fun _ => true) e
    | none => false
  | .cont, _, s => vCont s
  | .pass, _, s => vPass s
  | .never, _, _ => true
def chSs : Sxs → Scope → List Stmt → Bool
  | .nil, _, [] => true
  | .cons x r, sc, s :: ss => chS x sc s && chSs r sc ss
  | _, _, _ => false
end
end
end DT

/-! The check of statements is sound. -/
namespace DT
open PySem L2 PyProof.Rows
section
variable {F : List Fn} {gls : List (Str × Int)} {nms : List (Str × Nat)} {lim lev : Nat} {N : List Str}
theorem sF : ∀ (xs : Exs) (X : Cx) (sc : Scope) (fc : Str → Bool) (es : List Expr), Cok F gls nms lim lev N X sc fc → chL gls nms lim N xs false sc fc es = true → PA X es (tAF F xs)
  | .nil, X, sc, fc, [], C, _ => paF_nil
  | .nil, X, sc, fc, _ :: _, C, h => by rw [chL] at h <;> first | cases h | exact fun z => by cases z
  | .cons _ _, X, sc, fc, [], C, h => by rw [chL] at h <;> first | cases h | exact fun _ _ _ _ z => by cases z
  | .cons x r, X, sc, fc, e :: es, C, h => by
    rw [chL] at h
    obtain ⟨h1, h⟩ := ba h
    obtain ⟨h2, h3⟩ := ba h
    exact paF_cons ((sE x X sc fc e C).1 h2) (sF r X sc fc es C h3) (star_cons h1 _)
theorem sNs {X : Cx} {sc : Scope} (C : Cok F gls nms lim lev N X sc fun _ => true) : ∀ (is : List Nat) (ts : List Expr), chNs N sc is ts = true → PGs X ts (gNames is) ∧ ts.all notStar = true ∧ ts.length = is.length ∧ ∀ (k i : Nat), is[k]? = some i → ∃ (t : Expr) (nm : Str) (p : Pos), ts[k]? = some t ∧ t = Expr.Name nm p ∧ N[i]? = some nm
  | [], [], _ => ⟨pgs_nil, rfl, rfl, fun k i z => by simp at z⟩
  | [], _ :: _, h => by cases h
  | _ :: _, [], h => by cases h
  | i :: is, e :: es, h => by
    unfold chNs at h
    obtain ⟨h1, h2⟩ := ba h
    obtain ⟨q, st, ln, at_⟩ := sNs C is es h2
    cases v : vName e with
    | none => rw [v] at h1; cases h1
    | some nm =>
      rw [v] at h1
      obtain ⟨p, rfl⟩ := vName_eq v
      obtain ⟨h3, h4⟩ := ba h1
      have h3 := of_decide_eq_true h3
      obtain ⟨l1, l2⟩ := sto_ok C.hsc C.fnc h4
      refine ⟨pgs_cons (pg_name C.nd (by rw [C.hN]; exact h3) l1 l2) q (by rfl), by rw [List.all_cons, st]; rfl, by rw [List.length_cons, List.length_cons, ln], fun k j z => ?_⟩
      cases k with
      | zero =>
        have z' : i = j := Option.some.inj z
        subst z'
        exact ⟨_, nm, p, rfl, rfl, h3⟩
      | succ k => exact at_ k j z
/-- a comprehension's parts -/
theorem lcParts {elt : Ex} {tg : Tg} {ik : ItK} {ss ifs : Exs} {X : Cx} {sc : Scope} {fc : Str → Bool} {el te it : Expr} {fs : List Expr} {scope : Scope} {p : Pos} (C : Cok F gls nms lim lev N X sc fc) (h : chE gls nms lim N (.comp elt tg ik ss ifs) false sc fc (.ListComp el [⟨te, it, fs, 0⟩] scope p) = true) :
    (pairK ik = true → isT tg = true) ∧ PI X te it (tIt X.K F ik ss) ∧ BlkOk X.N X.env.scope scope (ownOf N (slotsT tg)) ∧ (ownOf N (slotsT tg)).map (·.2) = slotsT tg ∧
    (∀ (s : Shared) (H : Hp) (A : Addr) (cl : List (Str × Addr)) (fp : List Addr), PG (X.blk s H scope (compEnvC scope cl A X.env) fp) te (gD X.K tg)) ∧ (∀ (s : Shared) (H : Hp) (A : Addr) (cl : List (Str × Addr)) (fp : List Addr), PTs (X.blk s H scope (compEnvC scope cl A X.env) fp) fs (tIf F ifs)) ∧
    (∀ (s : Shared) (H : Hp) (A : Addr) (cl : List (Str × Addr)) (fp : List Addr), PE (X.blk s H scope (compEnvC scope cl A X.env) fp) el (tX F elt)) ∧ ∀ x, foldedSetIterable it X.env x = pure x := by
  rw [chE] at h
  have h := (ba h).2
  obtain ⟨h1, h⟩ := ba h
  obtain ⟨h2, h⟩ := ba h
  obtain ⟨h3, h⟩ := ba h
  obtain ⟨h4, h⟩ := ba h
  obtain ⟨h5, h⟩ := ba h
  obtain ⟨h6, h7⟩ := ba h
  obtain ⟨ok, own, hk⟩ := chB_ok h1
  have hcp : pairK ik = true → isT tg = true ∧ ∃ elts k p, te = .Tuple elts k p := fun z => by
    rw [z] at h3
    obtain ⟨i1, i2⟩ := ba (show (isT tg && (vTup te).isSome) = true from h3)
    obtain ⟨xs, w⟩ := Option.isSome_iff_exists.mp i2
    obtain ⟨k, p, rfl⟩ := vTup_eq w
    exact ⟨i1, xs, k, p, rfl⟩
  refine ⟨fun z => (hcp z).1, sI ss ik X sc fc it C h5 te fun z => (hcp z).2, by rw [C.hN, C.hsc]; exact ok, own, fun s H A cl fp => sG (C.blk hk s H A cl fp) tg te h2, fun s H A cl fp => ?_, fun s H A cl fp => (sE elt _ _ _ el (C.blk hk s H A cl fp)).1 h6, notSet_ok h4⟩
  have C' := C.blk hk s H A cl fp
  match ifs, fs, h7 with
  | .nil, [], _ => exact pts_nilD
  | .cons c .nil, [f], h7 => exact pts_oneD ((sE c _ _ _ f C').2 h7)
theorem ps_setLcD {elt : Ex} {tg : Tg} {ik : ItK} {ss ifs : Exs} {X : Cx} {sc : Scope} {el te it : Expr} {fs : List Expr} {scope : Scope} {p py spos : Pos} {i : Nat} {nm : Str} (C : Cok F gls nms lim lev N X sc fun _ => true) (h : chE gls nms lim N (.comp elt tg ik ss ifs) false sc (fun _ => true) (.ListComp el [⟨te, it, fs, 0⟩] scope p) = true)
    (hy : X.N[i]? = some nm) (hl : X.env.scope.names.lookup nm = some .local) (hsw : swapsWith (.ListComp el [⟨te, it, fs, 0⟩] scope p) (some (.Name nm py)) spos.line X.env = pure true) : PS X (.Assign [.Name nm py] (.ListComp el [⟨te, it, fs, 0⟩] scope p) spos) (tS F (.set i (.comp elt tg ik ss ifs))) := by
  obtain ⟨p1, p2, p3, p4, p5, p6, p7, p8⟩ := lcParts C h
  refine ⟨fun pins s σ H D I z => (ps_setLc C.calm C.nd hy hl hsw p2 p3 p5 p6 p7 p8).run pins s σ H D I ?_⟩
  rw [p4]
  exact tLc_of (fun _ => p1) (set_of z)
theorem comp_of {x : Ex} {t : Bool} {sc : Scope} {fc : Str → Bool} {e el te it : Expr} {fs : List Expr} {scope : Scope} {p : Pos} (he : e = .ListComp el [⟨te, it, fs, 0⟩] scope p) (h : chE gls nms lim N x t sc fc e = true) : ∃ elt tg ik ss ifs, x = .comp elt tg ik ss ifs := by
  subst he
  cases x with
  | comp elt tg ik ss ifs => exact ⟨elt, tg, ik, ss, ifs, rfl⟩
  | disp d fl es =>
    rw [chE] at h
    have h' := (ba h).2
    cases d <;> cases h'
  | _ =>
    rw [chE] at h
    first
      | cases h
      | (have h' := (ba h).2
         cases h')
theorem tups_of {α : Type} {l : List α} (h : l.length = 2) : ∃ a b, l = [a, b] := by
  match l, h with
  | [a, b], _ => exact ⟨a, b, rfl⟩
theorem trip_of {α : Type} {l : List α} (h : l.length = 3) : ∃ a b c, l = [a, b, c] := by
  match l, h with
  | [a, b, c], _ => exact ⟨a, b, c, rfl⟩
theorem chL_len {t : Bool} {sc : Scope} {fc : Str → Bool} : ∀ (xs : Exs) (es : List Expr), chL gls nms lim N xs t sc fc es = true → es.length = lenE xs
  | .nil, [], _ => rfl
  | .nil, _ :: _, h => by rw [chL] at h <;> first | cases h | exact fun z => by cases z
  | .cons _ _, [], h => by rw [chL] at h <;> first | cases h | exact fun _ _ _ _ z => by cases z
  | .cons x r, e :: es, h => by
    rw [chL] at h
    rw [List.length_cons, chL_len r es (ba (ba h).2).2]
    rfl
theorem loc2_ok {sc : Scope} {nm : Str} {p : Pos} (h : loc2 sc (.Name nm p) = true) : sc.names.lookup nm = some .local := of_decide_eq_true h
theorem sPar {X : Cx} {sc : Scope} (C : Cok F gls nms lim lev N X sc fun _ => true) {is : List Nat} {xs : Exs} {ts vs : List Expr} {k k' : Nat} {p p' pos : Pos} (h1 : chNs N sc is ts = true) (h2 : chL gls nms lim N xs false sc (fun _ => true) vs = true) (h3 : lenE xs = is.length) (h4 : is.length ≤ 1000)
    (h5 : (match swSt sc ts vs with
        | some none => true
        | some (some ns) => decide (ns = ts.filterMap vName) && (decide is.Nodup && (ts.all (loc2 sc) && (decide (is.length = 2) || decide (is.length = 3))))
        | none => false) = true) : PS X (.Assign [.Tuple ts k p] (.Tuple vs k' p') pos) (tS F (.par is xs)) := by
  obtain ⟨pg, st, ln, at_⟩ := sNs C is ts h1
  have pa := sF xs X sc _ vs C h2
  have lv := ((sL xs X sc _ vs C).1 h2)
  have lenV : vs.length = lenE xs := chL_len xs vs h2
  cases sw : swSt sc ts vs with
  | none => rw [sw] at h5; cases h5
  | some r =>
    rw [sw] at h5
    have hw := swSt_ok (k := k) (k' := k') (p := p) (p' := p') C.hsc C.kind sw
    cases r with
    | none => exact ps_parT h3 h4 C.calm pa pg (by rw [assign_len st, ln]) (assign_find st) swTup hw (by rfl)
    | some ns =>
      obtain ⟨i1, h5⟩ := ba h5
      obtain ⟨i2, h5⟩ := ba h5
      obtain ⟨i3, i4⟩ := ba h5
      have i2 := of_decide_eq_true i2
      cases of_decide_eq_true i1
      rcases Bool.or_eq_true_iff.mp i4 with i4 | i4
      · obtain ⟨i, j, rfl⟩ := tups_of (of_decide_eq_true i4)
        obtain ⟨t1, n1, q1, g1, rfl, m1⟩ := at_ 0 i rfl
        obtain ⟨t2, n2, q2, g2, rfl, m2⟩ := at_ 1 j rfl
        obtain ⟨a, b, rfl⟩ := tups_of ln
        cases g1
        cases g2
        obtain ⟨v1, v2, rfl⟩ := tups_of (lenV.trans h3)
        obtain ⟨z1, z2⟩ := ba i3
        obtain ⟨z2, _⟩ := ba z2
        have hij : i ≠ j := fun e => by
          rw [e] at i2
          exact (List.nodup_cons.mp i2).1 List.mem_cons_self
        exact ps_par2D h3 C.calm C.nd (by rw [C.hN]; exact m1) (by rw [C.hN]; exact m2) hij (by rw [C.hsc]; exact loc2_ok z1) (by rw [C.hsc]; exact loc2_ok z2) pa hw swTup
      · obtain ⟨i, j, l, rfl⟩ := trip_of (of_decide_eq_true i4)
        obtain ⟨t1, n1, q1, g1, rfl, m1⟩ := at_ 0 i rfl
        obtain ⟨t2, n2, q2, g2, rfl, m2⟩ := at_ 1 j rfl
        obtain ⟨t3, n3, q3, g3, rfl, m3⟩ := at_ 2 l rfl
        obtain ⟨a, b, c, rfl⟩ := trip_of ln
        cases g1
        cases g2
        cases g3
        obtain ⟨v1, v2, v3, rfl⟩ := trip_of (lenV.trans h3)
        obtain ⟨z1, z2⟩ := ba i3
        obtain ⟨z2, z3⟩ := ba z2
        obtain ⟨z3, _⟩ := ba z3
        obtain ⟨nd1, nd2⟩ := List.nodup_cons.mp i2
        obtain ⟨nd3, _⟩ := List.nodup_cons.mp nd2
        have hij : i ≠ j := fun e => nd1 (by rw [e]; exact List.mem_cons_self)
        have hil : i ≠ l := fun e => nd1 (by rw [e]; exact List.mem_cons_of_mem _ List.mem_cons_self)
        have hjl : j ≠ l := fun e => nd3 (by rw [e]; exact List.mem_cons_self)
        exact ps_par3D h3 C.calm C.nd (by rw [C.hN]; exact m1) (by rw [C.hN]; exact m2) (by rw [C.hN]; exact m3) hij hil hjl (by rw [C.hsc]; exact loc2_ok z1) (by rw [C.hsc]; exact loc2_ok z2) (by rw [C.hsc]; exact loc2_ok z3) pa hw swTup
mutual
theorem sS : ∀ (x : Sx) (X : Cx) (sc : Scope) (s : Stmt), Cok F gls nms lim lev N X sc (fun _ => true) → PassesOwn (model X.prog X.w) X.A X.env X.xe → chS gls nms lim N x sc s = true → PS X s (tS F x)
  | .set i x, X, sc, s, C, P, h => by
    rw [chS] at h
    cases v : vAsg s with
    | none => rw [v] at h; cases h
    | some q =>
      obtain ⟨t, e⟩ := q
      rw [v] at h
      dsimp only at h
      obtain ⟨pos, rfl⟩ := vAsg_eq v
      obtain ⟨h1, h⟩ := ba h
      obtain ⟨h2, h3⟩ := ba h
      cases w : vName t with
      | none => rw [w] at h1; cases h1
      | some nm =>
        rw [w] at h1
        obtain ⟨p, rfl⟩ := vName_eq w
        obtain ⟨h4, h5⟩ := ba h1
        have h4 := of_decide_eq_true h4
        obtain ⟨l1, l2⟩ := sto_ok C.hsc C.fnc h5
        have pe := (sE x X sc _ e C).1 h2
        have plain : swapsWith e (some (.Name nm p)) pos.line X.env = pure false → PS X (.Assign [.Name nm p] e pos) (tS F (.set i x)) := fun z => ps_setD C.nd (by rw [C.hN]; exact h4) l1 pe z l2
        rcases Bool.or_eq_true_iff.mp h3 with h3 | h3
        · exact plain (notComp_ok h3 _ _)
        · obtain ⟨q, hq⟩ := Option.isSome_iff_exists.mp h3
          obtain ⟨el, te, it, fs, scope⟩ := q
          obtain ⟨p2, e2⟩ := vLc_eq hq
          obtain ⟨elt, tg, ik, ss, ifs, rfl⟩ := comp_of e2 h2
          subst e2
          have sw := swB_ok (env := X.env) (el := el) (gs := [⟨te, it, fs, 0⟩]) (scope := scope) (q := p2) (p := p) (t := nm) (l := pos.line) C.hsc C.kind
          cases hb : swB sc scope nm p p2 with
          | false =>
            rw [hb] at sw
            exact plain sw
          | true =>
            rw [hb] at sw
            refine ps_setLcD C h2 (by rw [C.hN]; exact h4) ?_ sw
            unfold swB at hb
            have h6 := (ba (ba (ba hb).1).1).2
            rw [C.hsc]
            exact eq_of_beq h6
  | .par is xs, X, sc, s, C, P, h => by
    rw [chS] at h
    cases v : vAsg s with
    | none => rw [v] at h; cases h
    | some q =>
      obtain ⟨t, e⟩ := q
      rw [v] at h
      dsimp only at h
      obtain ⟨pos, rfl⟩ := vAsg_eq v
      cases w : vTup t with
      | none => rw [w] at h; cases h
      | some ts =>
        cases w2 : vTup e with
        | none => rw [w, w2] at h; cases h
        | some vs =>
          rw [w, w2] at h
          obtain ⟨k, p, rfl⟩ := vTup_eq w
          obtain ⟨k', p', rfl⟩ := vTup_eq w2
          obtain ⟨h1, g1⟩ := ba h
          obtain ⟨h2, g2⟩ := ba g1
          obtain ⟨h3, g3⟩ := ba g2
          obtain ⟨h4, h5⟩ := ba g3
          exact sPar C h1 h2 (of_decide_eq_true h3) (of_decide_eq_true h4) h5
  | .unp tg x, X, sc, s, C, P, h => by
    rw [chS] at h
    cases v : vAsg s with
    | none => rw [v] at h; cases h
    | some q =>
      obtain ⟨t, e⟩ := q
      rw [v] at h
      dsimp only at h
      obtain ⟨pos, rfl⟩ := vAsg_eq v
      obtain ⟨h1, g1⟩ := ba h
      obtain ⟨h2, g2⟩ := ba g1
      obtain ⟨h3, h4⟩ := ba g2
      obtain ⟨ts, w⟩ := Option.isSome_iff_exists.mp h1
      obtain ⟨k, p, rfl⟩ := vTup_eq w
      have hw : swappedStores [.Tuple ts k p] e X.env = pure none := by
        rcases Bool.or_eq_true_iff.mp h4 with h4 | h4
        · exact swNone h4
        · exact noSw_ok C.hsc C.kind h4
      exact ps_unpD ((sE x X sc _ e C).1 h3) (sG C tg _ h2) swTup hw (by rfl)
  | .six i k x, X, sc, s, C, P, h => by
    rw [chS] at h
    cases v : vAsg s with
    | none => rw [v] at h; cases h
    | some q =>
      obtain ⟨tt, e⟩ := q
      rw [v] at h
      obtain ⟨pos, rfl⟩ := vAsg_eq v
      obtain ⟨h1, h⟩ := ba h
      obtain ⟨h2, h3⟩ := ba h
      cases w : vSub tt with
      | none => rw [w] at h1; cases h1
      | some q =>
        obtain ⟨o, sl⟩ := q
        rw [w] at h1
        obtain ⟨pos', rfl⟩ := vSub_eq w
        obtain ⟨h4, h5⟩ := ba h1
        cases u : vName o with
        | none => rw [u] at h4; cases h4
        | some nm =>
          rw [u] at h4
          obtain ⟨p1, rfl⟩ := vName_eq u
          obtain ⟨h6, h4⟩ := ba h4
          obtain ⟨h7, h8⟩ := ba h4
          obtain ⟨o1, o2, _⟩ := okN_ok h8
          exact ps_sixD C.hu (by rw [C.hN]; exact of_decide_eq_true h6) (by rw [C.hsc]; exact vis_ok h7) o1 o2 ((sE k X sc _ sl C).1 h5) ((sE x X sc _ e C).1 h2) (notComp_ok h3 _ _)
  | .app i x, X, sc, s, C, P, h => by
    rw [chS] at h
    cases v : vExp s with
    | none => rw [v] at h; cases h
    | some c =>
      rw [v] at h
      dsimp only at h
      obtain ⟨pos, rfl⟩ := vExp_eq v
      cases w : vMeth c with
      | none => rw [w] at h; cases h
      | some q =>
        obtain ⟨o, nm, ap, es, cp⟩ := q
        rw [w] at h
        have ec := vMeth_eq w
        subst ec
        match es, h with
        | [e], h =>
          obtain ⟨h1, g1⟩ := ba h
          obtain ⟨h2, g2⟩ := ba g1
          obtain ⟨h3, g3⟩ := ba g2
          obtain ⟨h4, h5⟩ := ba g3
          cases of_decide_eq_true h1
          cases u : vName o with
          | none => rw [u] at h2; cases h2
          | some y =>
            rw [u] at h2
            obtain ⟨p, rfl⟩ := vName_eq u
            obtain ⟨h6, g6⟩ := ba h2
            obtain ⟨h7, h8⟩ := ba g6
            obtain ⟨o1, o2, _⟩ := okN_ok h8
            exact ps_appD (by rw [C.hN]; exact of_decide_eq_true h6) (by rw [C.hsc]; exact vis_ok h7) o1 o2 ((sE x X sc _ e C).1 h3) (by rfl) (few_one h4) h5 (star_cons h4 _) (by rfl) (by rfl)
  | .ext i x, X, sc, s, C, P, h => by
    rw [chS] at h
    cases v : vExp s with
    | none => rw [v] at h; cases h
    | some c =>
      rw [v] at h
      dsimp only at h
      obtain ⟨pos, rfl⟩ := vExp_eq v
      cases w : vMeth c with
      | none => rw [w] at h; cases h
      | some q =>
        obtain ⟨o, nm, ap, es, cp⟩ := q
        rw [w] at h
        have ec := vMeth_eq w
        subst ec
        match es, h with
        | [e], h =>
          obtain ⟨h1, g1⟩ := ba h
          obtain ⟨h2, g2⟩ := ba g1
          obtain ⟨h3, g3⟩ := ba g2
          obtain ⟨h4, h5⟩ := ba g3
          cases of_decide_eq_true h1
          cases u : vName o with
          | none => rw [u] at h2; cases h2
          | some y =>
            rw [u] at h2
            obtain ⟨p, rfl⟩ := vName_eq u
            obtain ⟨h6, g6⟩ := ba h2
            obtain ⟨h7, h8⟩ := ba g6
            obtain ⟨o1, o2, _⟩ := okN_ok h8
            exact ps_extD (by rw [C.hN]; exact of_decide_eq_true h6) (by rw [C.hsc]; exact vis_ok h7) o1 o2 ((sE x X sc _ e C).1 h3) (by rfl) (few_one h4) h5 (star_cons h4 _) (by rfl) (by rfl)
  | .iff x a b, X, sc, s, C, P, h => by
    rw [chS] at h
    cases v : vIfS s with
    | none => rw [v] at h; cases h
    | some q =>
      obtain ⟨t, p, r⟩ := q
      rw [v] at h
      dsimp only at h
      obtain ⟨pos, rfl⟩ := vIfS_eq v
      obtain ⟨h1, g1⟩ := ba h
      obtain ⟨h2, h3⟩ := ba g1
      exact ps_ifD ((sE x X sc _ t C).2 h1) (sSs a X sc p C P h2) (sSs b X sc r C P h3)
  | .for tg ik ss body, X, sc, s, C, P, h => by
    rw [chS] at h
    cases v : vFor s with
    | none => rw [v] at h; cases h
    | some q =>
      obtain ⟨t, it, b⟩ := q
      rw [v] at h
      dsimp only at h
      obtain ⟨pos, rfl⟩ := vFor_eq v
      obtain ⟨h1, g1⟩ := ba h
      obtain ⟨h2, g2⟩ := ba g1
      obtain ⟨h3, g3⟩ := ba g2
      obtain ⟨h4, h5⟩ := ba g3
      have hcp : pairK ik = true → isT tg = true ∧ ∃ elts k p, t = .Tuple elts k p := fun z => by
        rw [z] at h2
        obtain ⟨i1, i2⟩ := ba (show (isT tg && (vTup t).isSome) = true from h2)
        obtain ⟨xs, w⟩ := Option.isSome_iff_exists.mp i2
        obtain ⟨k, p, rfl⟩ := vTup_eq w
        exact ⟨i1, xs, k, p, rfl⟩
      exact ps_forD (fun z => (hcp z).1) P C.calm (sI ss ik X sc _ it C h4 t fun z => (hcp z).2) (sG C tg t h1) (sSs body X sc b C P h5) (notSet_ok h3)
  | .whl x body, X, sc, s, C, P, h => by
    rw [chS] at h
    cases v : vWhl s with
    | none => rw [v] at h; cases h
    | some q =>
      obtain ⟨t, b⟩ := q
      rw [v] at h
      dsimp only at h
      obtain ⟨pos, rfl⟩ := vWhl_eq v
      obtain ⟨h1, h2⟩ := ba h
      exact ps_whileD P ((sE x X sc _ t C).2 h1) (sSs body X sc b C P h2)
  | .ret x, X, sc, s, C, P, h => by
    rw [chS] at h
    cases v : vRet s with
    | none => rw [v] at h; cases h
    | some e =>
      rw [v] at h
      dsimp only at h
      obtain ⟨pos, rfl⟩ := vRet_eq v
      exact ps_retD ((sE x X sc _ e C).1 h)
  | .cont, X, sc, s, C, P, h => by
    rw [chS] at h
    obtain ⟨p, rfl⟩ := vCont_eq h
    exact ps_contD
  | .pass, X, sc, s, C, P, h => by
    rw [chS] at h
    obtain ⟨p, rfl⟩ := vPass_eq h
    exact ps_passD
  | .never, X, sc, s, C, P, h => ps_neverD
theorem sSs : ∀ (x : Sxs) (X : Cx) (sc : Scope) (s : List Stmt), Cok F gls nms lim lev N X sc (fun _ => true) → PassesOwn (model X.prog X.w) X.A X.env X.xe → chSs gls nms lim N x sc s = true → PSs X s (tSs F x)
  | .nil, X, sc, s, C, P, h => by
    cases s with
    | nil => exact pss_nilD
    | cons e es => rw [chSs] at h <;> first | cases h | exact fun z => by cases z
  | .cons x r, X, sc, s, C, P, h => by
    cases s with
    | nil => rw [chSs] at h <;> first | cases h | exact fun _ _ _ _ z => by cases z
    | cons e es =>
      rw [chSs] at h
      obtain ⟨h1, h2⟩ := ba h
      exact pss_consD (sS x X sc e C P h1) (sSs r X sc es C P h2)
end
end
end DT

/-! Defs, the table of a program's defs, the law's end. -/
namespace DT
open PySem L2 PyProof.Rows
/-- what is known of the defs of a table -/
def TabOk (P : Program) (w : World) (K : PySem.W.Frag) (mg : Str → Option Value) (base : Heap) (lev : Nat) (nms : List (Str × Nat)) (F : List Fn) : Prop := ∀ (i : Nat) (nm : Str) (n : Nat) (h : Fn), nms[i]? = some (nm, n) → F[i]? = some h →
  ∃ (f : Addr) (fd : FuncData) (ps : List Str), ps.length = n ∧ mg nm = some (.ref f) ∧ PySem.W.keepIn K (.ref f) = true ∧ Binds K fd ps [] ∧ FnG P w K mg base lev f fd ps (spF ps.length h)
section
variable {P : Program} {w : World} {K : PySem.W.Frag} {mg : Str → Option Value} {base : Heap} {lev : Nat} {gls : List (Str × Int)} {nms : List (Str × Nat)} {F : List Fn} {f : Addr} {fd : FuncData} {nm qual : Str} {params : Arguments} {body : List Stmt} {scope : Scope} {dvs : List V} {kws : List (Str × V)} {N ps : List Str}
theorem TabOk.nil : TabOk P w K mg base lev [] [] := fun i nm n h e => by simp at e
theorem TabOk.snoc {h : Fn} (T : TabOk P w K mg base lev nms F) (hl : nms.length = F.length) (gm : mg nm = some (.ref f)) (hk : PySem.W.keepIn K (.ref f) = true) (hb : Binds K fd ps []) (G : FnG P w K mg base (lev + 1) f fd ps (spF ps.length h)) : TabOk P w K mg base (lev + 1) (nms ++ [(nm, ps.length)]) (F ++ [h]) := by
  intro i x n h' e1 e2
  rcases Nat.lt_or_ge i nms.length with hi | hi
  · rw [List.getElem?_append_left hi] at e1
    rw [List.getElem?_append_left (by omega)] at e2
    obtain ⟨f', fd', ps', q1, q2, q3, q4, q5⟩ := T i x n h' e1 e2
    exact ⟨f', fd', ps', q1, q2, q3, q4, q5.mono (Nat.le_succ _)⟩
  · rw [List.getElem?_append_right hi] at e1
    rw [List.getElem?_append_right (by omega)] at e2
    have hz : i - nms.length = 0 := by
      rcases Nat.eq_zero_or_pos (i - nms.length) with z | z
      · exact z
      · rw [List.getElem?_eq_none (by simp; omega)] at e1
        cases e1
    rw [hz] at e1
    rw [← hl, hz] at e2
    cases e1
    cases e2
    exact ⟨f, fd, ps, rfl, gm, hk, hb, G⟩
theorem cok_def {cdv : Value} {A : Around} {outer : List Env} {s : Shared} {H : Hp} (T : TabOk P w K mg base lev nms F) (gl : ∀ x i, (x, i) ∈ gls → ∃ t, mg x = some (.int i t)) (S : FnScope N ps scope) (hr : Room lev (A.deeper (envOfC qual scope s.heap.objs.size f cdv))) (hg : (A.deeper (envOfC qual scope s.heap.objs.size f cdv)).guards = some []) (mb : ∀ x, x ∈ bltNames → mg x = none) :
    Cok F gls nms nms.length lev N (cxOf CXN P w K mg base N qual scope f cdv A outer s H EN) scope (fun _ => true) :=
  ⟨rfl, rfl, S.nd, rfl, S.kind, hr, hg, mb, fun _ _ => rfl, gl, fun i x n h _ e1 e2 => T i x n h e1 e2⟩
theorem ps_le (S : FnScope N ps scope) : ps.length ≤ N.length := by
  have := congrArg List.length S.pre
  rw [List.length_take] at this
  omega
/-- a def that its text tells -/
theorem fn_text {xb : Sxs} (D : FunD K nm qual params body scope dvs kws f fd) (S : FnScope N ps scope) (T : TabOk P w K mg base lev nms F) (gl : ∀ x i, (x, i) ∈ gls → ∃ t, mg x = some (.int i t)) (mb : ∀ x, x ∈ bltNames → mg x = none) (h : chSs gls nms nms.length N xb scope body = true) : FnG P w K mg base (lev + 1) f fd ps (spF ps.length (fnOf F N.length xb)) := by
  refine fnG_of D S (fun vs H Q z => ?_) fun cdv A outer s H vs Q hr hg z => ⟨_, sSs xb _ scope body (cok_def T gl S hr hg mb) PassesOwn.leaving h, entry_of (ps_le S) z⟩
  obtain ⟨M0, sa, as, g, d, g', hl, _, _, _, o, _⟩ := z
  rw [o.length, hl]
end

/-! ### the law's def: its first statement opens the source -/
/-- the promise of the opening def -/
def spOpen (K : PySem.W.Frag) (open_ : List Int → PState) : SpG := fun vs H Q => ∃ (a : Addr) (ns : List Int), vs = [.ref a] ∧ SqL K H a (ns.map V.int) ∧ ns.length ≤ 63 ∧ ∀ d c H', (∀ p o, H p = some o → H' p = some o) → SrcOk H' (d, c) (open_ ns) → Q (.ref d) H'
/-- the law's promise -/
def spLawG (K : PySem.W.Frag) : SpG := fun vs H Q => ∃ (a : Addr) (ns : List Int), vs = [.ref a] ∧ SqL K H a (ns.map V.int) ∧ ns.length ≤ 63 ∧ ∀ H', Q (.bl true) H'
def lawR (n : Nat) : Rho := none :: some .src :: List.replicate (n - 2) none
section
variable {P : Program} {w : World} {K : PySem.W.Frag} {mg : Str → Option Value} {base : Heap} {lev : Nat} {gls : List (Str × Int)} {nms : List (Str × Nat)} {F : List Fn} {f fo : Addr} {fd fdo : FuncData} {nm qual : Str} {params : Arguments} {body rest : List Stmt} {scope : Scope} {dvs : List V} {kws : List (Str × V)} {N : List Str}
theorem law_text {xb : Sxs} {open_ : List Int → PState} {s1 s2 : Str} {p1 p2 p3 p4 p5 : Pos} {so : Str} (hlev : 0 < lev) (D : FunD K nm qual params body scope dvs kws f fd) (S : FnScope N [s1] scope) (T : TabOk P w K mg base lev nms F) (gl : ∀ x i, (x, i) ∈ gls → ∃ t, mg x = some (.int i t)) (mb : ∀ x, x ∈ bltNames → mg x = none)
    (hb : body = .Assign [.Name s2 p1] (.Call (.Name so p2) [.Name s1 p3] [] p4) p5 :: rest) (h : chSs gls nms nms.length N xb scope rest = true) (n1 : N[0]? = some s1) (n2 : N[1]? = some s2) (v1 : vis scope s1 = true) (v2 : sto scope (fun _ => true) s2 = true) (o1 : okN s1 = true) (go : glb scope so = true) (oo : okN so = true)
    (mo : mg so = some (.ref fo)) (ko : PySem.W.keepIn K (.ref fo) = true) (bo : Binds K fdo ["script"] []) (O : FnG P w K mg base lev fo fdo ["script"] (spOpen K open_))
    (law : ∀ ns : List Int, ns.length ≤ 63 → ∃ ρ' g', exs F xb (lawR N.length) (open_ ns) = some ((.rt (.bool true), ρ'), g')) : FnG P w K mg base (lev + 1) f fd [s1] (spLawG K) := by
  refine fnG_of D S (fun vs H Q z => ?_) fun cdv A outer s H vs Q hr hg z => ?_
  · obtain ⟨a, ns, rfl, _⟩ := z
    rfl
  have C := cok_def (cdv := cdv) (f := f) (qual := qual) (outer := outer) (H := H) T gl S hr hg mb
  obtain ⟨q1, q2, q3⟩ := okN_ok o1
  obtain ⟨r1, r2, r3⟩ := okN_ok oo
  obtain ⟨l1, l2⟩ := sto_ok (sc := scope) C.hsc C.fnc v2
  subst hb
  refine ⟨_, pss_cons (ps_set (i := 1) C.nd (by rw [C.hN]; exact n2) l1 (pe_callG O hr hg (glb_ok C.hsc go) mo ko bo (pa_cons (pe_var (i := 0) (by rw [C.hN]; exact n1) (by rw [C.hsc]; exact vis_ok v1) q1 q2) pa_nil (by rfl)) r1 (by rfl) (by rfl)) (by rfl) l2) (sSs xb _ scope rest C PassesOwn.leaving h), ?_⟩
  obtain ⟨a, ns, rfl, hS, hl, want⟩ := z
  have h2 : 2 ≤ N.length := (List.getElem?_eq_some_iff.mp n2).1
  refine ⟨.ref a, start_get rfl, a, ns, rfl, hS, hl, fun d c H' k src => ?_⟩
  obtain ⟨ρ', g', e⟩ := law ns hl
  have k2 : isS (d, c) d := .inl rfl
  refine ⟨isS (d, c), (d, c), isS (d, c), lawR N.length, open_ ns, .rt (.bool true), ρ', g', ?_, e, fun v H2 _ _ rp => ?_⟩
  · refine ⟨?_, fun i sl hs => ?_, fun i j p o1 _ => ?_, fun _ z => z, fun _ z => z, fun p z => src.there z, src⟩
    · unfold lawR L2.start
      rw [List.length_set, List.length_append]
      simp
      omega
    · unfold lawR at hs
      match i, hs with
      | 0, hs => cases hs
      | 1, hs =>
        have hs' : Sl.src = sl := Option.some.inj (Option.some.inj hs)
        subst hs'
        refine ⟨.ref d, ?_, rfl⟩
        rw [List.getElem?_set_self]
        unfold L2.start
        rw [List.length_append]
        simp
        omega
      | i + 2, hs =>
        have hs' : (List.replicate (N.length - 2) none)[i]? = some (some sl) := hs
        rw [List.getElem?_replicate] at hs'
        split at hs' <;> cases hs'
    · obtain ⟨x, e1, _, _⟩ := o1
      unfold lawR at e1
      match i, e1 with
      | 0, e1 => cases e1
      | 1, e1 => cases e1
      | i + 2, e1 =>
        have e2 : (List.replicate (N.length - 2) none)[i]? = some (some (Sl.d true x)) := e1
        rw [List.getElem?_replicate] at e2
        split at e2 <;> cases e2
  · rw [Rep] at rp
    subst rp
    exact want H2
end
/-- the law's call -/
theorem law_callG {P : Program} {w : World} {K : PySem.W.Frag} {mg mb : Str → Option Value} {lev : Nat} {fa a : Addr} {fd : FuncData} {x : Str} {st : Shared} {vs : List Value} {ns : List Int}
    (kin : K.In st.heap) (gns : st.heap.Ns mainGlobals mg) (bns : st.heap.Ns builtinsNs mb) (bb : ∀ x : Str, x ≠ "__name__" → mb x = bootBuiltins x) (lim : st.heap.NoLimit) (gens : st.gens = #[])
    (obj : st.heap.get? a = some { cls := .type "list", data := .seq vs.toArray }) (are : IntsAre vs ns) (few : ns.length ≤ 63) (room : Room lev callerA)
    (G : ∀ base : Heap, K.In base → base.Ns mainGlobals mg → FnG P w K mg base lev fa fd [x] (spLawG K)) (bind : ∀ (s : Shared) (u : Value), BindsTo s fd ⟨[u], []⟩ [(x, u)]) :
    codeAny (model P w) callerA (.call (.ref fa) ⟨[.ref a], []⟩) (fun r t => r = .ok (.ret (.bool true)) ∧ OldK st.heap t.heap ∧ t.os = st.os ∧ AllBare t.gens) st := by
  have rvals := vals_ints are
  have lens := are.length
  have small : ns.length ≤ sizeLine := Nat.le_trans few (by decide)
  have main : ∀ Hh : Hp, Only Hh → SqL K Hh a (ns.map V.int) → HOk P w Hh st.heap → (∀ b, Hh b ≠ none → b = a) → (Hh a ≠ none → K.lookup a = none) →
      codeAny (model P w) callerA (.call (.ref fa) ⟨[.ref a], []⟩) (fun r t => r = .ok (.ret (.bool true)) ∧ OldK st.heap t.heap ∧ t.os = st.os ∧ AllBare t.gens) st := by
    intro Hh only sq hok at_a hK
    have under : ∀ {b : Addr} {o : Obj}, st.heap.get? b = some o → Hh b = none → (hidT st.heap Hh).get? b = some o := fun e n => hidT_get e n
    have free : ∀ {b : Addr} {o : Obj}, st.heap.get? b = some o → (b = a → False) → Hh b = none := fun {b o} _ n => by
      cases q : Hh b with
      | none => rfl
      | some u => exact (n (at_a b (by rw [q]; simp))).elim
    have noDict : ∀ {b : Addr} {o : Obj} {es : Array DictEntry} {ep : Nat}, st.heap.get? b = some o → o.data = .dict es ep → Hh b = none := fun {b o es ep} e d => free e fun z => by
      subst z
      rw [obj] at e
      cases e
      cases (show Data.seq vs.toArray _ = Data.dict es ep from d)
    have spaces : ∀ {b : Addr} {m : Str → Option Value}, st.heap.Ns b m → (hidT st.heap Hh).Ns b m := fun {b m} ⟨o, es, ep, e, d, r⟩ => ⟨o, es, ep, under e (noDict e d), d, r⟩
    have kbase : K.In (hidT st.heap Hh) := fun b o e => under (kin b o e) (by
      cases q : Hh b with
      | none => rfl
      | some u =>
        have z : b = a := at_a b (by rw [q]; simp)
        subst z
        rw [hK (by rw [q]; simp)] at e
        cases e)
    have modl : Mod K mg (hidT st.heap Hh) := ⟨kbase, spaces gns, ⟨mb, spaces bns, bb⟩, let ⟨mc, h1, h2⟩ := lim; ⟨mc, spaces h1, h2⟩⟩
    have env : Env0 P w K mg (hidT st.heap Hh) callerA [] st Hh := ⟨rfl, modl, fun b o e => of_hidT e, Nat.le_of_eq (hidT_size _ _), trivial, fun b hb => (List.not_mem_nil hb).elim, hok, .of_eq gens⟩
    refine codeAny_mono ((G _ kbase (spaces gns)).run callerA [] st Hh ⟨[.ref a], []⟩ [.ref a] [.ref a] (fun v _ => v = .bl true) room rfl env (bind st (.ref a)) (.cons rfl .nil) ⟨a, ns, rfl, sq, few, fun _ => rfl⟩) fun r t z => ?_
    cases r with
    | error e => exact False.elim z
    | ok fl =>
      cases fl with
      | ret u =>
        obtain ⟨v, H', os, bare, un, hok', r', q⟩ := z
        cases (show v = .bl true from q)
        cases (show u = Value.bool true from r')
        refine ⟨rfl, OldK.of_keep fun b o e => ?_, os, bare⟩
        cases q : Hh b with
        | none => exact un.keep b o e q (fun z => List.not_mem_nil z) List.not_mem_nil
        | some u =>
          rcases only b with z | ⟨ob, xs, z⟩
          · rw [q] at z
            cases z
          · obtain ⟨e1, _⟩ := hok b _ z
            obtain ⟨e2, _⟩ := hok' b _ (un.frzs b ob _ z)
            rw [e] at e1
            cases e1
            exact e2
      | _ => exact False.elim z
  cases hk : K.lookup a with
  | some o =>
    have e := kin a o hk
    rw [obj] at e
    cases e
    exact main (fun _ => none) (fun _ => .inl rfl) (.inr ⟨_, vs.toArray, _, hk, rfl, rfl, rfl, by rw [List.size_toArray, lens]; exact small, by simpa using rvals⟩) (fun b u z => by cases (show (none : Option HO) = some u from z)) (fun b z => (z rfl).elim) fun z => (z rfl).elim
  | none =>
    refine main (fun b => if b = a then some (.frz { cls := .type "list", data := .seq vs.toArray } (.lst (ns.map V.int))) else none) (fun b => ?_) (.inl (.inr ⟨{ cls := .type "list", data := .seq vs.toArray }, if_pos rfl⟩)) (fun b u z => ?_) (fun b z => ?_) fun _ => hk
    · rcases Classical.em (b = a) with hb | hb
      · exact .inr ⟨_, _, if_pos hb⟩
      · exact .inl (if_neg hb)
    · rcases Classical.em (b = a) with hb | hb
      · cases (if_pos hb).symm.trans z
        subst hb
        exact ⟨obj, by rw [List.length_map]; exact small, vs, _, rvals, obj⟩
      · cases (if_neg hb).symm.trans z
    · exact Classical.byContradiction fun hb => z (if_neg hb)
/-- a law, over a head by facts -/
theorem walk_G {l : PySem.W.OpenLaw} {lev : Nat} {q : Program} {loose : List Str} {XP : (Str → Option Value) → Heap → Prop} {YP : World → Heap → Prop} {d : DefRec} {x : Str} (hn : l.most = some 63) (hdf : d.params.defaults = []) (hr : Room lev callerA)
    (G : ∀ (w : World) (mg : Str → Option Value) (fa : Addr) (h : Heap), YP w h → h.Ns mainGlobals mg → mg d.name = some (.ref fa) →
      ∃ (K : PySem.W.Frag) (fd : FuncData), K.In h ∧ (∀ (s : Shared) (u : Value), BindsTo s fd ⟨[u], []⟩ [(x, u)]) ∧ ∀ base : Heap, K.In base → base.Ns mainGlobals mg → FnG l.prog w K mg base lev fa fd [x] (spLawG K)) :
    PySem.W.WalkO q loose XP YP l.row.toRowW d [] (fun f vs => PySem.call f vs) := by
  refine Att.attach_call hn hdf fun w s0 st mg mb fa o pm cd doc a vs ns Gd Y ho hd hcd hmg hobj hints hlen hg => ?_
  obtain ⟨K, fd, kin, hb, hF⟩ := G w mg fa _ Y Gd.T.g hmg
  exact law_callG kin Gd.T.g Gd.T.b Gd.T.builtins Gd.T.nolimit hg hobj hints hlen hr hF hb
end DT

/-! Running the functions: plain lemmas. -/
namespace DT
open PySem
theorem bnd_ret {α β : Type} (a : α) (f : α → M β) : bnd (ret a) f = f a := rfl
theorem bnd_ofO {α β : Type} (a : α) (f : α → M β) : bnd (ofO (some a)) f = f a := rfl
theorem bnd_bnd {α β γ : Type} (m : M α) (f : α → M β) (h : β → M γ) : bnd (bnd m f) h = bnd m fun a => bnd (f a) h := by
  funext g
  unfold bnd
  cases m g with
  | none => rfl
  | some p => rfl
theorem ofO_some' {α : Type} (a : α) : ofO (some a) = ret a := rfl
theorem toB_b (b : Bool) : toB (.bool b) = ret b := rfl
theorem partO_i (i : Int) : partO (.int i) = ret (some i) := rfl
/-- a step that gives h x, for each x -/
theorem compL_fm {f : D → M (Option D)} {h : D → Option D} : ∀ {xs : List D}, (∀ x, x ∈ xs → f x = ret (h x)) → compL f xs = ret (xs.filterMap h)
  | [], _ => rfl
  | x :: xs, e => by
    unfold compL
    rw [e x List.mem_cons_self, bnd_ret, compL_fm fun y hy => e y (List.mem_cons_of_mem _ hy), bnd_ret]
    cases hx : h x with
    | none => rw [List.filterMap_cons_none hx]
    | some y => rw [List.filterMap_cons_some hx]
theorem compL_map {f : D → M (Option D)} {h : D → D} {xs : List D} (e : ∀ x, x ∈ xs → f x = ret (some (h x))) : compL f xs = ret (xs.map h) := by
  rw [compL_fm (h := fun x => some (h x)) e]
  have z : xs.filterMap (fun x => some (h x)) = xs.map h := by
    induction xs with
    | nil => rfl
    | cons y ys ih =>
      rw [List.filterMap_cons, List.map_cons, ih fun x hx => e x (List.mem_cons_of_mem _ hx)]
  rw [z]
end DT

/-! Running the functions: step by step. -/
namespace DT
open PySem
section
variable {F : List Fn} {ρ ρ1 ρ2 : Rho} {g g1 g2 g3 : PState} {x y z d : D} {a b c e : Ex} {es r : Exs} {xs ys : List D}
theorem bnd_go {α β : Type} {m : M α} {f : α → M β} {g g1 : PState} {a : α} (h : m g = some (a, g1)) : bnd m f g = f a g1 := by
  unfold bnd
  rw [h]
theorem e_v {i : Nat} (h : getV ρ i = some d) : ev F (.v i) ρ g = some (d, g) := by
  rw [ev, h]
  rfl
theorem e_k : ev F (.k d) ρ g = some (d, g) := by
  rw [ev]
  rfl
theorem e_nil : evs F .nil ρ g = some ([], g) := by
  rw [evs]
  rfl
theorem e_cons (h1 : ev F a ρ g = some (x, g1)) (h2 : evs F r ρ g1 = some (xs, g2)) : evs F (.cons a r) ρ g = some (x :: xs, g2) := by
  rw [evs, bnd_go h1, bnd_go h2]
  rfl
theorem e_tup (h : evs F es ρ g = some (xs, g1)) : ev F (.tup es) ρ g = some (.tuple xs, g1) := by
  rw [ev, bnd_go h]
  rfl
theorem e_lst (h : evs F es ρ g = some (xs, g1)) : ev F (.lst es) ρ g = some (.list xs, g1) := by
  rw [ev, bnd_go h]
  rfl
theorem e_bin {o : BOp} (h1 : ev F a ρ g = some (x, g1)) (h2 : ev F b ρ g1 = some (y, g2)) (h : binD o x y = some d) : ev F (.bin o a b) ρ g = some (d, g2) := by
  rw [ev, bnd_go h1, bnd_go h2, h]
  rfl
theorem e_neg {i : Int} (h : ev F a ρ g = some (.int i, g1)) : ev F (.neg a) ρ g = some (.int (-i), g1) := by
  rw [ev, bnd_go h]
  rfl
theorem e_not {i : Bool} (h : ev F a ρ g = some (.bool i, g1)) : ev F (.not a) ρ g = some (.bool (!i), g1) := by
  rw [ev, bnd_go h]
  rfl
theorem e_cmp {o : COp} {i : Bool} (h1 : ev F a ρ g = some (x, g1)) (h2 : ev F b ρ g1 = some (y, g2)) (h : cmpO o x y = some i) : ev F (.cmp a (.cons o b .nil)) ρ g = some (.bool i, g2) := by
  rw [ev, bnd_go h1]
  have z : evC F x (.cons o b .nil) ρ g1 = some (i, g2) := by
    rw [evC, bnd_go h2, h]
    rfl
  rw [bnd_go z]
  rfl
/-- 0 <= k < n and its like, pure parts -/
theorem e_cmp2 {o o' : COp} {i j : Bool} (h1 : ev F a ρ g = some (x, g)) (h2 : ev F b ρ g = some (y, g)) (h3 : ev F c ρ g = some (z, g)) (h : cmpO o x y = some i) (h' : i = true → cmpO o' y z = some j) : ev F (.cmp a (.cons o b (.cons o' c .nil))) ρ g = some (.bool (i && j), g) := by
  rw [ev, bnd_go h1]
  have w : evC F x (.cons o b (.cons o' c .nil)) ρ g = some (i && j, g) := by
    rw [evC]
    · rw [bnd_go h2, h]
      show (if i = true then evC F y (.cons o' c .nil) ρ else ret false) g = _
      cases i with
      | false => rfl
      | true =>
        rw [if_pos rfl, evC, bnd_go h3, h' rfl]
        rfl
    · exact fun z => by cases z
  rw [bnd_go w]
  rfl
theorem e_iteT {t : Ex} (h1 : ev F t ρ g = some (.bool true, g1)) (h2 : ev F a ρ g1 = some (d, g2)) : ev F (.ite t a b) ρ g = some (d, g2) := by
  rw [ev, bnd_go h1]
  exact h2
theorem e_iteF {t : Ex} (h1 : ev F t ρ g = some (.bool false, g1)) (h2 : ev F b ρ g1 = some (d, g2)) : ev F (.ite t a b) ρ g = some (d, g2) := by
  rw [ev, bnd_go h1]
  exact h2
theorem e_ite {t : Ex} {i : Bool} (h1 : ev F t ρ g = some (.bool i, g1)) (h2 : i = true → ev F a ρ g1 = some (x, g2)) (h3 : i = false → ev F b ρ g1 = some (y, g2)) : ev F (.ite t a b) ρ g = some (if i = true then x else y, g2) := by
  cases i with
  | true => exact e_iteT h1 (h2 rfl)
  | false => exact e_iteF h1 (h3 rfl)
theorem e_ix (h1 : ev F a ρ g = some (x, g1)) (h2 : ev F b ρ g1 = some (y, g2)) (h : ixO x y = some d) : ev F (.ix a b) ρ g = some (d, g2) := by
  rw [ev, bnd_go h1, bnd_go h2, h]
  rfl
theorem p_abs : evP F .abs ρ g = some (none, g) := by
  rw [evP]
  rfl
theorem p_int {i : Int} (n : a ≠ .abs) (h : ev F a ρ g = some (.int i, g1)) : evP F a ρ g = some (some i, g1) := by
  rw [evP, bnd_go h]
  · rfl
  · exact n
theorem e_sl {lo hi : Ex} {l u : Option Int} (h1 : ev F a ρ g = some (x, g1)) (h2 : evP F lo ρ g1 = some (l, g2)) (h3 : evP F hi ρ g2 = some (u, g3)) (h : slO x l u = some d) : ev F (.sl a lo hi) ρ g = some (d, g3) := by
  rw [ev, bnd_go h1, bnd_go h2, bnd_go h3, h]
  rfl
theorem e_rev (h1 : ev F a ρ g = some (x, g1)) (h : revO x = some d) : ev F (.rev a) ρ g = some (d, g1) := by
  rw [ev, bnd_go h1, h]
  rfl
theorem e_blt {o : Bl} (h1 : evs F es ρ g = some (xs, g1)) (h : bltO o xs = some d) : ev F (.blt o es) ρ g = some (d, g1) := by
  rw [ev, bnd_go h1, h]
  rfl
theorem e_meth {m : Me} (h0 : ev F a ρ g = some (x, g1)) (h1 : evs F es ρ g1 = some (xs, g2)) (h : metO m x xs = some d) : ev F (.meth m a es) ρ g = some (d, g2) := by
  rw [ev, bnd_go h0, bnd_go h1, h]
  rfl
theorem r_nil : evr F .nil ρ g = some ([], g) := by
  rw [evr]
  rfl
theorem r_ex {q : Ars} {as : List (Option D)} (h1 : ev F a ρ g = some (x, g1)) (h2 : evr F q ρ g1 = some (as, g2)) : evr F (.ex a q) ρ g = some (some x :: as, g2) := by
  rw [evr, bnd_go h1, bnd_go h2]
  rfl
theorem r_src {i : Nat} {q : Ars} {as : List (Option D)} (h : ρ[i]? = some (some .src)) (h2 : evr F q ρ g = some (as, g2)) : evr F (.src i q) ρ g = some (none :: as, g2) := by
  rw [evr, h]
  exact bnd_go h2
theorem e_call {i : Nat} {q : Ars} {as : List (Option D)} {f : Fn} (h1 : evr F q ρ g = some (as, g1)) (hF : F[i]? = some f) (h : f as g1 = some (d, g2)) : ev F (.call i q) ρ g = some (d, g2) := by
  rw [ev, bnd_go h1, hF]
  exact h
/-- and, or of pure parts -/
theorem e_and {i : Bool} (h : evA F es ρ g = some (i, g1)) : ev F (.and es) ρ g = some (.bool i, g1) := by
  rw [ev, bnd_go h]
  rfl
theorem e_or {i : Bool} (h : evO F es ρ g = some (i, g1)) : ev F (.or es) ρ g = some (.bool i, g1) := by
  rw [ev, bnd_go h]
  rfl
theorem a_one {i : Bool} (h : ev F a ρ g = some (.bool i, g1)) : evA F (.cons a .nil) ρ g = some (i, g1) := by
  rw [evA, bnd_go h]
  rfl
theorem a_cons {i j : Bool} (h : ev F a ρ g = some (.bool i, g)) (h2 : i = true → evA F (.cons b r) ρ g = some (j, g)) : evA F (.cons a (.cons b r)) ρ g = some (i && j, g) := by
  rw [evA]
  · rw [bnd_go h]
    show (if i = true then evA F (.cons b r) ρ else ret false) g = _
    cases i with
    | false => rfl
    | true => exact h2 rfl
  · exact fun z => by cases z
theorem o_one {i : Bool} (h : ev F a ρ g = some (.bool i, g1)) : evO F (.cons a .nil) ρ g = some (i, g1) := by
  rw [evO, bnd_go h]
  rfl
theorem o_cons {i j : Bool} (h : ev F a ρ g = some (.bool i, g)) (h2 : i = false → evO F (.cons b r) ρ g = some (j, g)) : evO F (.cons a (.cons b r)) ρ g = some (i || j, g) := by
  rw [evO]
  · rw [bnd_go h]
    show (if i = true then ret true else evO F (.cons b r) ρ) g = _
    cases i with
    | true => rfl
    | false => exact h2 rfl
  · exact fun z => by cases z
/-! ### comprehensions -/
theorem i_nil : evI F .nil ρ g = some (true, g) := by
  rw [evI]
  rfl
theorem i_one {i : Bool} (h : ev F a ρ g = some (.bool i, g1)) : evI F (.cons a .nil) ρ g = some (i, g1) := by
  rw [evI, bnd_go h]
  show (if i = true then evI F .nil ρ else ret false) g1 = _
  cases i with
  | false => rfl
  | true => exact i_nil
theorem compL_go {f : D → M (Option D)} {h : D → Option D} {g : PState} : ∀ {xs : List D}, (∀ x, x ∈ xs → f x g = some (h x, g)) → compL f xs g = some (xs.filterMap h, g)
  | [], _ => rfl
  | x :: xs, e => by
    unfold compL
    rw [bnd_go (e x List.mem_cons_self), bnd_go (compL_go fun y hy => e y (List.mem_cons_of_mem _ hy))]
    cases hx : h x with
    | none => rw [List.filterMap_cons_none hx]; rfl
    | some y => rw [List.filterMap_cons_some hx]; rfl
/-- [elt for t in ..], pure -/
theorem e_map {t : Tg} {ik : ItK} {ss : Exs} {f : D → D} {bd : D → Rho} (h1 : evs F ss ρ g = some (xs, g1)) (h2 : itO ik xs = some ys) (hb : ∀ x, x ∈ ys → bindT t x (wipeR (freeze (escs ss) ρ) (slotsT t)) = some (bd x))
    (he : ∀ x, x ∈ ys → ev F e (bd x) g1 = some (f x, g1)) : ev F (.comp e t ik ss .nil) ρ g = some (.list (ys.map f), g1) := by
  rw [ev, bnd_go h1, h2]
  rw [bnd_ofO]
  have z := compL_go (g := g1) (h := fun x => some (f x)) (xs := ys) (f := fun d => bnd (ofO (bindT t d (wipeR (freeze (escs ss) ρ) (slotsT t)))) fun ρ' => bnd (evI F .nil ρ') fun b => if b = true then bnd (ev F e ρ') fun y => ret (some y) else ret none) fun x hx => by
    rw [hb x hx]
    show bnd (evI F .nil (bd x)) _ g1 = _
    rw [bnd_go i_nil, if_pos rfl, bnd_go (he x hx)]
    rfl
  rw [bnd_go z]
  have q : ys.filterMap (fun x => some (f x)) = ys.map f := by
    clear z he hb h2
    induction ys with
    | nil => rfl
    | cons y ys ih => rw [List.filterMap_cons, List.map_cons, ih]
  rw [q]
  rfl
/-- [elt for t in .. if c], pure -/
theorem e_filter {t : Tg} {ik : ItK} {ss : Exs} {f : D → D} {p : D → Bool} {bd : D → Rho} (h1 : evs F ss ρ g = some (xs, g1)) (h2 : itO ik xs = some ys) (hb : ∀ x, x ∈ ys → bindT t x (wipeR (freeze (escs ss) ρ) (slotsT t)) = some (bd x))
    (hc : ∀ x, x ∈ ys → ev F c (bd x) g1 = some (.bool (p x), g1)) (he : ∀ x, x ∈ ys → p x = true → ev F e (bd x) g1 = some (f x, g1)) : ev F (.comp e t ik ss (.cons c .nil)) ρ g = some (.list ((ys.filter p).map f), g1) := by
  rw [ev, bnd_go h1, h2]
  rw [bnd_ofO]
  have z := compL_go (g := g1) (h := fun x => if p x = true then some (f x) else none) (xs := ys) (f := fun d => bnd (ofO (bindT t d (wipeR (freeze (escs ss) ρ) (slotsT t)))) fun ρ' => bnd (evI F (.cons c .nil) ρ') fun b => if b = true then bnd (ev F e ρ') fun y => ret (some y) else ret none) fun x hx => by
    rw [hb x hx]
    show bnd (evI F (.cons c .nil) (bd x)) _ g1 = _
    rw [bnd_go (i_one (hc x hx))]
    cases hp : p x with
    | false => rfl
    | true =>
      rw [if_pos rfl, bnd_go (he x hx hp)]
      rfl
  rw [bnd_go z]
  have q : ys.filterMap (fun x => if p x = true then some (f x) else none) = (ys.filter p).map f := by
    clear z he hb h2 hc
    induction ys with
    | nil => rfl
    | cons y ys ih =>
      rw [List.filterMap_cons, List.filter_cons, ih]
      cases p y <;> rfl
  rw [q]
  rfl
/-! ### statements -/
theorem x_nil : exs F .nil ρ g = some ((.nx, ρ), g) := by
  rw [exs]
  rfl
theorem x_cons {s : Sx} {r : Sxs} {q : Fl × Rho} (h1 : ex F s ρ g = some ((.nx, ρ1), g1)) (h2 : exs F r ρ1 g1 = some (q, g2)) : exs F (.cons s r) ρ g = some (q, g2) := by
  rw [exs, bnd_go h1]
  exact h2
theorem x_stop {s : Sx} {r : Sxs} (h1 : ex F s ρ g = some ((.rt d, ρ1), g1)) : exs F (.cons s r) ρ g = some ((.rt d, ρ1), g1) := by
  rw [exs, bnd_go h1]
  rfl
theorem x_set {i : Nat} (h : ev F e ρ g = some (d, g1)) (hr : (freeze (esc e) ρ).set i (some (.d (fresh e) d)) = ρ1) : ex F (.set i e) ρ g = some ((.nx, ρ1), g1) := by
  rw [ex, bnd_go h, hr]
  rfl
theorem x_par {is : List Nat} (h : evs F es ρ g = some (xs, g1)) (hr : setIs is ((fres es).zip xs) (freeze (escs es) ρ) = ρ1) : ex F (.par is es) ρ g = some ((.nx, ρ1), g1) := by
  rw [ex, bnd_go h, hr]
  rfl
theorem x_unp {t : Tg} (h : ev F e ρ g = some (d, g1)) (hr : bindT t d (freeze (esc e) ρ) = some ρ1) : ex F (.unp t e) ρ g = some ((.nx, ρ1), g1) := by
  rw [ex, bnd_go h, hr]
  rfl
theorem x_app {i : Nat} {l : List D} (h : ev F e ρ g = some (d, g1)) (hs : (freeze (esc e) ρ)[i]? = some (some (.d true (.list l)))) (hl : l.length < LINE) (hr : (freeze (esc e) ρ).set i (some (.d true (.list (l ++ [d])))) = ρ1) : ex F (.app i e) ρ g = some ((.nx, ρ1), g1) := by
  rw [ex, bnd_go h, hs]
  dsimp only
  rw [if_pos (decide_eq_true hl), hr]
  rfl
theorem x_ext {i : Nat} {l l' : List D} (h : ev F e ρ g = some (.list l', g1)) (hs : (freeze (esc e) ρ)[i]? = some (some (.d true (.list l)))) (hl : l.length + l'.length ≤ LINE) (hr : (freeze (esc e) ρ).set i (some (.d true (.list (l ++ l')))) = ρ1) : ex F (.ext i e) ρ g = some ((.nx, ρ1), g1) := by
  rw [ex, bnd_go h, hs]
  dsimp only
  rw [if_pos (decide_eq_true hl), hr]
  rfl
theorem x_iffT {t : Ex} {p q : Sxs} {w : Fl × Rho} (h : ev F t ρ g = some (.bool true, g1)) (h2 : exs F p ρ g1 = some (w, g2)) : ex F (.iff t p q) ρ g = some (w, g2) := by
  rw [ex, bnd_go h]
  exact h2
theorem x_iffF {t : Ex} {p q : Sxs} {w : Fl × Rho} (h : ev F t ρ g = some (.bool false, g1)) (h2 : exs F q ρ g1 = some (w, g2)) : ex F (.iff t p q) ρ g = some (w, g2) := by
  rw [ex, bnd_go h]
  exact h2
theorem x_retE (h : ev F e ρ g = some (d, g1)) : ex F (.ret e) ρ g = some ((.rt d, ρ), g1) := by
  rw [ex, bnd_go h]
  rfl
theorem x_for {t : Tg} {ik : ItK} {ss : Exs} {body : Sxs} {w : Fl × Rho} (h1 : evs F ss ρ g = some (xs, g1)) (h2 : itO ik xs = some ys) (h3 : forL (fun ρ x => bnd (ofO (bindT t x ρ)) fun ρ' => exs F body ρ') ys (freeze (escs ss) ρ) g1 = some (w, g2)) : ex F (.for t ik ss body) ρ g = some (w, g2) := by
  rw [ex, bnd_go h1, h2]
  exact h3
theorem f_nil {f : Rho → D → M (Fl × Rho)} : forL f [] ρ g = some ((.nx, ρ), g) := rfl
theorem f_step {f : Rho → D → M (Fl × Rho)} {w : Fl × Rho} (h1 : f ρ x g = some ((.nx, ρ1), g1)) (h2 : forL f xs ρ1 g1 = some (w, g2)) : forL f (x :: xs) ρ g = some (w, g2) := by
  unfold forL
  rw [bnd_go h1]
  exact h2
theorem f_stop {f : Rho → D → M (Fl × Rho)} (h1 : f ρ x g = some ((.rt d, ρ1), g1)) : forL f (x :: xs) ρ g = some ((.rt d, ρ1), g1) := by
  unfold forL
  rw [bnd_go h1]
  rfl
theorem b_go {t : Tg} {body : Sxs} {w : Fl × Rho} (h1 : bindT t x ρ = some ρ1) (h2 : exs F body ρ1 g = some (w, g1)) : (bnd (ofO (bindT t x ρ)) fun ρ' => exs F body ρ') g = some (w, g1) := by
  rw [h1]
  exact h2
theorem fn_go {n : Nat} {body : Sxs} {as : List (Option D)} (h : exs F body (as.map sl0 ++ List.replicate (n - as.length) none) g = some ((.rt d, ρ1), g1)) : fnOf F n body as g = some (d, g1) := by
  unfold fnOf
  rw [bnd_go h]
  rfl
/-- a for with an invariant, which ends -/
theorem for_inv {f : Rho → D → M (Fl × Rho)} (P : List D → Rho → PState → Prop) : ∀ (xs : List D) (ρ : Rho) (g : PState), P xs ρ g → (∀ x r ρ g, (∃ pre, pre ++ x :: r = xs) → P (x :: r) ρ g → ∃ ρ' g', f ρ x g = some ((.nx, ρ'), g') ∧ P r ρ' g') → ∃ ρ' g', forL f xs ρ g = some ((.nx, ρ'), g') ∧ P [] ρ' g'
  | [], ρ, g, h, _ => ⟨ρ, g, rfl, h⟩
  | x :: xs, ρ, g, h, st => by
    obtain ⟨ρ1, g1, e1, h1⟩ := st x xs ρ g ⟨[], rfl⟩ h
    obtain ⟨ρ2, g2, e2, h2⟩ := for_inv P xs ρ1 g1 h1 fun y r ρ g ⟨pre, hp⟩ => st y r ρ g ⟨x :: pre, by rw [← hp]; rfl⟩
    exact ⟨ρ2, g2, f_step e1 e2, h2⟩
end
end DT

/-! Plain helpers over data. -/
namespace DT
open PySem
inductive All2 {α β : Type} (Q : α → β → Prop) : List α → List β → Prop where
  | nil : All2 Q [] []
  | cons {a b as bs} : Q a b → All2 Q as bs → All2 Q (a :: as) (b :: bs)
theorem All2.length {α β : Type} {Q : α → β → Prop} : ∀ {as : List α} {bs : List β}, All2 Q as bs → as.length = bs.length
  | _, _, .nil => rfl
  | _, _, .cons _ h => by rw [List.length_cons, List.length_cons, h.length]
theorem All2.right {α β : Type} {Q : α → β → Prop} : ∀ {as : List α} {bs : List β}, All2 Q as bs → ∀ b, b ∈ bs → ∃ a, a ∈ as ∧ Q a b
  | _, _, .nil, b, h => absurd h List.not_mem_nil
  | _, _, .cons q h, b, hb => by
    rcases List.mem_cons.mp hb with rfl | hb
    · exact ⟨_, List.mem_cons_self, q⟩
    · obtain ⟨a, ha, qa⟩ := h.right b hb
      exact ⟨a, List.mem_cons_of_mem _ ha, qa⟩
def intD (i : Int) : D := .int i
def natD (k : Nat) : D := .int (k : Int)
def tupI (l : List Int) : D := .tuple (l.map intD)
def lotD (l : List Nat) : D := .tuple (l.map natD)
theorem intsOf_map {α : Type} (f : α → Int) : ∀ l : List α, intsOf (l.map fun a => .int (f a)) = some (l.map f)
  | [] => rfl
  | a :: l => by
    rw [List.map_cons, intsOf, intsOf_map f l]
    rfl
theorem boolsOf_map {α : Type} (f : α → Bool) : ∀ l : List α, boolsOf (l.map fun a => .bool (f a)) = some (l.map f)
  | [] => rfl
  | a :: l => by
    rw [List.map_cons, boolsOf, boolsOf_map f l]
    rfl
theorem blt_min {α : Type} {l : List α} (f : α → Int) (ne : l ≠ []) : bltO .min [.list (l.map fun a => .int (f a))] = some (.int (minI (l.map f))) := by
  show (match intsOf (l.map fun a => .int (f a)) with
    | some (n :: ns) => some (PyData.int (minI (n :: ns)))
    | _ => none) = _
  rw [intsOf_map]
  cases l with
  | nil => exact absurd rfl ne
  | cons a l => rfl
theorem blt_sum {α : Type} {l : List α} (f : α → Int) : bltO .sum [.list (l.map fun a => .int (f a))] = some (.int (l.map f).sum) := by
  show Option.map (fun ns : List Int => PyData.int ns.sum) (intsOf (l.map fun a => .int (f a))) = _
  rw [intsOf_map]
  rfl
theorem blt_all {α : Type} {l : List α} (f : α → Bool) : bltO .all [.list (l.map fun a => .bool (f a))] = some (.bool (l.all f)) := by
  show Option.map (fun bs : List Bool => PyData.bool (bs.all id)) (boolsOf (l.map fun a => .bool (f a))) = _
  rw [boolsOf_map]
  show some (PyData.bool ((l.map f).all id)) = _
  rw [List.all_map]
  rfl
theorem blt_any {α : Type} {l : List α} (f : α → Bool) : bltO .any [.list (l.map fun a => .bool (f a))] = some (.bool (l.any f)) := by
  show Option.map (fun bs : List Bool => PyData.bool (bs.any id)) (boolsOf (l.map fun a => .bool (f a))) = _
  rw [boolsOf_map]
  show some (PyData.bool ((l.map f).any id)) = _
  rw [List.any_map]
  rfl
theorem blt_lenL {α : Type} {l : List α} (f : α → D) : bltO .len [.list (l.map f)] = some (.int l.length) := by
  show some (PyData.int ((l.map f).length : Int)) = _
  rw [List.length_map]
theorem blt_lenT {α : Type} {l : List α} (f : α → D) : bltO .len [.tuple (l.map f)] = some (.int l.length) := by
  show some (PyData.int ((l.map f).length : Int)) = _
  rw [List.length_map]
theorem it_rng {n : Nat} (h : n ≤ LINE) : itO .rng1 [.int n] = some ((List.range n).map natD) := by
  show rngO 0 n = _
  unfold rngO LINE at *
  have e : ((n : Int) - 0).toNat = n := by omega
  rw [if_pos]
  · unfold rngL
    rw [e]
    congr 1
    refine List.map_congr_left fun k _ => ?_
    unfold natD
    rw [Int.zero_add]
  · rw [e]
    simp only [Bool.and_eq_true, decide_eq_true_eq]
    omega
theorem it_rng2 {a b : Nat} (h : b ≤ LINE) (ha : a ≤ LINE) : itO .rng2 [.int a, .int b] = some ((List.range (b - a)).map fun i => natD (a + i)) := by
  show rngO a b = _
  unfold rngO LINE at *
  have e : ((b : Int) - a).toNat = b - a := by omega
  rw [if_pos]
  · unfold rngL
    rw [e]
    rfl
  · rw [e]
    simp only [Bool.and_eq_true, decide_eq_true_eq]
    omega
theorem atI_nat' {α : Type} {l : List α} {i : Nat} {x : α} (h : l[i]? = some x) : L2.atI l (i : Int) = some x := by
  have hi := (List.getElem?_eq_some_iff.mp h).1
  unfold L2.atI L2.ixN
  rw [if_pos (Int.natCast_nonneg i), if_pos (by omega)]
  show l[(i : Int).toNat]? = some x
  rw [Int.toNat_natCast]
  exact h
theorem ix_tup {α : Type} {l : List α} {f : α → D} {i : Nat} {x : α} {j : Int} (e : j = i) (h : l[i]? = some x) : ixO (.tuple (l.map f)) (.int j) = some (f x) := by
  subst e
  exact atI_nat' (by rw [List.getElem?_map, h]; rfl)
theorem ix_lst {α : Type} {l : List α} {f : α → D} {i : Nat} {x : α} {j : Int} (e : j = i) (h : l[i]? = some x) : ixO (.list (l.map f)) (.int j) = some (f x) := by
  subst e
  exact atI_nat' (by rw [List.getElem?_map, h]; rfl)
theorem ix_last {α : Type} {l : List α} {f : α → D} {x : α} (h : l.getLast? = some x) : ixO (.tuple (l.map f)) (.int (-1)) = some (f x) := by
  show L2.atI (l.map f) (-1) = _
  have hn : l ≠ [] := fun e => by
    rw [e] at h
    cases h
  have hl : 0 < l.length := List.length_pos_iff.mpr hn
  unfold L2.atI L2.ixN
  rw [if_neg (by decide), List.length_map, if_pos (by omega)]
  show (l.map f)[(l.length + (-1) : Int).toNat]? = _
  have e : (l.length + (-1) : Int).toNat = l.length - 1 := by omega
  rw [e, List.getElem?_map, ← List.getLast?_eq_getElem?, h]
  rfl
/-! ### comprehensions over a list that is a map -/
section
variable {F : List Fn} {ρ : Rho} {g : PState} {e c : Ex} {α : Type} {l : List α} {h : α → D} {t : Tg} {ik : ItK} {ss : Exs} {xs : List D}
theorem fm_some {β : Type} {l : List α} (f : α → β) : l.filterMap (fun x => some (f x)) = l.map f := by
  induction l with
  | nil => rfl
  | cons y ys ih => rw [List.filterMap_cons, List.map_cons, ih]
theorem fm_if {β : Type} {l : List α} (p : α → Bool) (f : α → β) : l.filterMap (fun x => if p x = true then some (f x) else none) = (l.filter p).map f := by
  induction l with
  | nil => rfl
  | cons y ys ih =>
    rw [List.filterMap_cons, List.filter_cons, ih]
    cases p y <;> rfl
theorem compL_goA {f : D → M (Option D)} {k : α → Option D} : ∀ {l : List α}, (∀ a, a ∈ l → f (h a) g = some (k a, g)) → compL f (l.map h) g = some (l.filterMap k, g)
  | [], _ => rfl
  | a :: l, e => by
    rw [List.map_cons]
    unfold compL
    rw [bnd_go (e a List.mem_cons_self), bnd_go (compL_goA fun y hy => e y (List.mem_cons_of_mem _ hy))]
    cases hx : k a with
    | none => rw [List.filterMap_cons_none hx]; rfl
    | some y => rw [List.filterMap_cons_some hx]; rfl
theorem e_mapA {f : α → D} {bd : α → Rho} (h1 : evs F ss ρ g = some (xs, g)) (h2 : itO ik xs = some (l.map h)) (hb : ∀ a, a ∈ l → bindT t (h a) (wipeR (freeze (escs ss) ρ) (slotsT t)) = some (bd a))
    (he : ∀ a, a ∈ l → ev F e (bd a) g = some (f a, g)) : ev F (.comp e t ik ss .nil) ρ g = some (.list (l.map f), g) := by
  rw [ev, bnd_go h1, h2, bnd_ofO]
  have z := compL_goA (g := g) (h := h) (k := fun a => some (f a)) (l := l) (f := fun d => bnd (ofO (bindT t d (wipeR (freeze (escs ss) ρ) (slotsT t)))) fun ρ' => bnd (evI F .nil ρ') fun b => if b = true then bnd (ev F e ρ') fun y => ret (some y) else ret none) fun x hx => by
    rw [hb x hx]
    show bnd (evI F .nil (bd x)) _ g = _
    rw [bnd_go i_nil, if_pos rfl, bnd_go (he x hx)]
    rfl
  rw [bnd_go z, fm_some]
  rfl
theorem e_filA {f : α → D} {p : α → Bool} {bd : α → Rho} (h1 : evs F ss ρ g = some (xs, g)) (h2 : itO ik xs = some (l.map h)) (hb : ∀ a, a ∈ l → bindT t (h a) (wipeR (freeze (escs ss) ρ) (slotsT t)) = some (bd a))
    (hc : ∀ a, a ∈ l → ev F c (bd a) g = some (.bool (p a), g)) (he : ∀ a, a ∈ l → p a = true → ev F e (bd a) g = some (f a, g)) : ev F (.comp e t ik ss (.cons c .nil)) ρ g = some (.list ((l.filter p).map f), g) := by
  rw [ev, bnd_go h1, h2, bnd_ofO]
  have z := compL_goA (g := g) (h := h) (k := fun a => if p a = true then some (f a) else none) (l := l) (f := fun d => bnd (ofO (bindT t d (wipeR (freeze (escs ss) ρ) (slotsT t)))) fun ρ' => bnd (evI F (.cons c .nil) ρ') fun b => if b = true then bnd (ev F e ρ') fun y => ret (some y) else ret none) fun x hx => by
    rw [hb x hx]
    show bnd (evI F (.cons c .nil) (bd x)) _ g = _
    rw [bnd_go (i_one (hc x hx))]
    cases hp : p x with
    | false => rfl
    | true =>
      rw [if_pos rfl, bnd_go (he x hx hp)]
      rfl
  rw [bnd_go z, fm_if]
  rfl
/-- a comprehension that draws -/
theorem compL_ex {β : Type} {f : D → M (Option D)} {k : β → D} {Q : α → β → Prop} : ∀ {l : List α} {g : PState}, (∀ a, a ∈ l → ∀ g, ∃ y g', f (h a) g = some (some (k y), g') ∧ Q a y) → ∃ ys g', compL f (l.map h) g = some (List.map k ys, g') ∧ All2 Q l ys
  | [], g, _ => ⟨[], g, rfl, .nil⟩
  | a :: l, g, e => by
    obtain ⟨y, g1, h1, q1⟩ := e a List.mem_cons_self g
    obtain ⟨ys, g2, h2, q2⟩ := compL_ex (l := l) (g := g1) fun y hy => e y (List.mem_cons_of_mem _ hy)
    refine ⟨y :: ys, g2, ?_, .cons q1 q2⟩
    rw [List.map_cons]
    unfold compL
    rw [bnd_go h1, bnd_go h2]
    rfl
theorem e_mapX {β : Type} {k : β → D} {Q : α → β → Prop} {bd : α → Rho} (h1 : evs F ss ρ g = some (xs, g)) (h2 : itO ik xs = some (l.map h)) (hb : ∀ a, a ∈ l → bindT t (h a) (wipeR (freeze (escs ss) ρ) (slotsT t)) = some (bd a))
    (he : ∀ a, a ∈ l → ∀ g, ∃ y g', ev F e (bd a) g = some (k y, g') ∧ Q a y) : ∃ ys g', ev F (.comp e t ik ss .nil) ρ g = some (.list (List.map k ys), g') ∧ All2 Q l ys := by
  obtain ⟨ys, g', e', q⟩ := compL_ex (k := k) (Q := Q) (h := h) (l := l) (g := g) (f := fun d => bnd (ofO (bindT t d (wipeR (freeze (escs ss) ρ) (slotsT t)))) fun ρ' => bnd (evI F .nil ρ') fun b => if b = true then bnd (ev F e ρ') fun y => ret (some y) else ret none) fun x hx g => by
    obtain ⟨y, g', e1, q1⟩ := he x hx g
    refine ⟨y, g', ?_, q1⟩
    rw [hb x hx]
    show bnd (evI F .nil (bd x)) _ g = _
    rw [bnd_go i_nil, if_pos rfl, bnd_go e1]
    rfl
  refine ⟨ys, g', ?_, q⟩
  rw [ev, bnd_go h1, h2, bnd_ofO, bnd_go e']
  rfl
end
/-! ### size and shape -/
/-- data of ints and nothing odd, within sizes -/
structure Fz (w k : Nat) (d : D) : Prop where
  lay : d.canLay0 = true
  dep : d.depth ≤ k
  wgt : d.weight ≤ w
  sht : d.intsShort 13 = true
  shw : d.showable = true
theorem Fz.mono {w k w' k' : Nat} {d : D} (h : Fz w k d) (hw : w ≤ w') (hk : k ≤ k') : Fz w' k' d := ⟨h.lay, Nat.le_trans h.dep hk, Nat.le_trans h.wgt hw, h.sht, h.shw⟩
theorem Fz.none : Fz 0 0 .none := ⟨rfl, by decide, by decide, rfl, rfl⟩
theorem Fz.bool (b : Bool) : Fz 0 0 (.bool b) := ⟨rfl, by decide +revert, by decide +revert, rfl, rfl⟩
theorem Fz.all {w k : Nat} : ∀ {xs : List D}, (∀ x, x ∈ xs → Fz w k x) → PyData.canLayAll0 xs = true ∧ PyData.depthAll xs ≤ k ∧ PyData.weightAll xs ≤ xs.length * (w + 1) ∧ PyData.intsShortAll 13 xs = true ∧ PyData.showableAll xs = true
  | [], _ => ⟨by rw [PyData.canLayAll0], by rw [PyData.depthAll]; omega, by rw [PyData.weightAll]; omega, by rw [PyData.intsShortAll], by rw [PyData.showableAll]⟩
  | x :: xs, h => by
    obtain ⟨a, b, c, d, e⟩ := Fz.all (xs := xs) fun y hy => h y (List.mem_cons_of_mem _ hy)
    have q := h x List.mem_cons_self
    rw [PyData.canLayAll0, PyData.depthAll, PyData.weightAll, PyData.intsShortAll, PyData.showableAll, q.lay, q.sht, q.shw, a, d, e]
    have q1 := q.dep
    have q2 := q.wgt
    refine ⟨rfl, by omega, ?_, rfl, rfl⟩
    rw [List.length_cons, Nat.add_mul]
    omega
theorem Fz.tup {w k : Nat} {xs : List D} (n : Nat) (hn : xs.length ≤ n) (h : ∀ x, x ∈ xs → Fz w k x) : Fz (n * (w + 1)) (k + 1) (.tuple xs) := by
  obtain ⟨a, b, c, d, e⟩ := Fz.all h
  refine ⟨by rw [PyData.canLay0]; exact a, by rw [PyData.depth]; omega, by rw [PyData.weight]; exact Nat.le_trans c (Nat.mul_le_mul_right _ hn), by rw [PyData.intsShort]; exact d, by rw [PyData.showable]; exact e⟩
theorem Fz.lst {w k : Nat} {xs : List D} (n : Nat) (hn : xs.length ≤ n) (h : ∀ x, x ∈ xs → Fz w k x) : Fz (n * (w + 1)) (k + 1) (.list xs) := by
  obtain ⟨a, b, c, d, e⟩ := Fz.all h
  refine ⟨by rw [PyData.canLay0]; exact a, by rw [PyData.depth]; omega, by rw [PyData.weight]; exact Nat.le_trans c (Nat.mul_le_mul_right _ hn), by rw [PyData.intsShort]; exact d, by rw [PyData.showable]; exact e⟩
theorem Fz.shaped {w k : Nat} {d : D} (h : Fz w k d) (hk : k ≤ 64) : SeqAt.shaped d = true := by
  unfold SeqAt.shaped
  rw [h.lay, Bool.true_and]
  exact decide_eq_true (Nat.le_trans h.dep hk)
theorem Fz.repr {w k : Nat} {d : D} (h : Fz w k d) (hw : w ≤ 1048576) (hk : k ≤ 64) : reprO d = some (.str d.shown) := by
  have hd : d.depth ≤ 64 := Nat.le_trans h.dep hk
  have hl : PyData.layable0 d = true := by
    unfold PyData.layable0
    rw [h.lay, Bool.true_and, Bool.and_eq_true]
    exact ⟨decide_eq_true hd, decide_eq_true (Nat.le_trans (Nat.le_trans h.wgt hw) (by decide))⟩
  have hs := PyProof.Rows.shown_le13 hl h.sht
  have nk : noKeys d = true := by
    unfold noKeys
    split
    · rfl
    · exact h.lay
  unfold reprO
  rw [if_pos]
  rw [nk, h.shw, decide_eq_true hd, decide_eq_true]
  · rfl
  · unfold LINE
    omega
theorem natD_short : ∀ k : Nat, k < 64 → (natD k).intsShort 13 = true := by decide +kernel
theorem natD_weight : ∀ k : Nat, k < 64 → (natD k).weight ≤ 7 := by decide +kernel
theorem natD_showable : ∀ k : Nat, k < 64 → (natD k).showable = true := by decide +kernel
theorem Fz.nat {k : Nat} (h : k < 64) : Fz 7 0 (natD k) := ⟨rfl, by unfold natD; rw [PyData.depth]; exact Nat.le_refl _, natD_weight k h, natD_short k h, natD_showable k h⟩
theorem Fz.lot {l : List Nat} (n : Nat) (hn : l.length ≤ n) (h : ∀ k, k ∈ l → k < 64) : Fz (n * 8) 1 (lotD l) := Fz.tup (w := 7) (k := 0) n (by rw [List.length_map]; exact hn) fun x hx => by
  obtain ⟨k, hk, rfl⟩ := List.mem_map.mp hx
  exact .nat (h k hk)
theorem eqv_nat (a b : Nat) : PyData.eqv (natD a) (natD b) = decide (a = b) := by
  unfold natD
  rw [PyData.eqv]
  by_cases h : a = b
  · rw [decide_eq_true h, h]
    exact beq_self_eq_true _
  · rw [decide_eq_false h]
    exact beq_eq_false_iff_ne.mpr fun e => h (by omega)
theorem eqvAll_nat : ∀ a b : List Nat, PyData.eqvAll (a.map natD) (b.map natD) = decide (a = b)
  | [], [] => by rw [List.map_nil, PyData.eqvAll]; rfl
  | [], b :: bs => by rw [List.map_nil, List.map_cons, PyData.eqvAll]; rfl
  | a :: as, [] => by rw [List.map_nil, List.map_cons, PyData.eqvAll]; rfl
  | a :: as, b :: bs => by
    rw [List.map_cons, List.map_cons, PyData.eqvAll, eqv_nat, eqvAll_nat as bs]
    by_cases h : a = b
    · subst h
      rw [decide_eq_true rfl, Bool.true_and]
      by_cases h' : as = bs
      · subst h'
        rw [decide_eq_true rfl, decide_eq_true rfl]
      · rw [decide_eq_false h', decide_eq_false fun e => h' (List.cons.inj e).2]
    · rw [decide_eq_false h, decide_eq_false fun e => h (List.cons.inj e).1]
      rfl
theorem eqv_lot (a b : List Nat) : PyData.eqv (lotD a) (lotD b) = decide (a = b) := by
  unfold lotD
  rw [PyData.eqv]
  exact eqvAll_nat a b
/-- sorted of small numbers -/
theorem sort_nat (l : List Nat) : sortO (l.map natD) = some ((l.mergeSort fun a b => decide (a ≤ b)).map natD) := by
  have h1 : sortOk (l.map natD) = true := by
    unfold sortOk
    rw [Bool.and_eq_true, Bool.and_eq_true]
    refine ⟨⟨?_, ?_⟩, ?_⟩
    · refine List.all_eq_true.mpr fun d hd => List.all_eq_true.mpr fun e he => ?_
      obtain ⟨a, _, rfl⟩ := List.mem_map.mp hd
      obtain ⟨b, _, rfl⟩ := List.mem_map.mp he
      rfl
    · refine (Bool.or_eq_true ..).mpr (.inr (List.all_eq_true.mpr fun d hd => ?_))
      obtain ⟨a, _, rfl⟩ := List.mem_map.mp hd
      rfl
    · rw [Bool.and_eq_true]
      constructor
      · induction l with
        | nil => rfl
        | cons a l ih =>
          rw [List.map_cons, PyData.canLayAll0, ih]
          rfl
      · refine List.all_eq_true.mpr fun d hd => ?_
        obtain ⟨a, _, rfl⟩ := List.mem_map.mp hd
        rfl
  unfold sortO
  rw [if_pos h1]
  congr 1
  refine (List.map_mergeSort fun a _ b _ => ?_).symm
  have q := congrFun (congrFun (PySem.W.dataLe_int fun b : Nat => (b : Int)) a) b
  have q2 : PySem.W.dataLe false id (natD a) (natD b) = PySem.W.dataLe false (fun b : Nat => PyData.int (b : Int)) a b := rfl
  rw [q2, q]
  by_cases h : a ≤ b
  · rw [decide_eq_true h, decide_eq_true (by omega)]
  · rw [decide_eq_false h, decide_eq_false (by omega)]
end DT

/-! More plain helpers: comprehensions whose target is a name, texts compared. -/
namespace DT
open PySem
/-- what stands at a place of a table of functions -/
def At (F : List Fn) (i : Nat) (Sp : Fn → Prop) : Prop := ∃ f, F[i]? = some f ∧ Sp f
section
variable {F : List Fn} {ρ ρ1 : Rho} {g g1 g2 : PState} {a b e c : Ex} {α : Type} {l : List α} {h : α → D} {i : Nat} {ik : ItK} {ss : Exs} {xs : List D} {d x : D}
/-- the slots within a comprehension over the name i -/
abbrev inC (ss : Exs) (ρ : Rho) (i : Nat) (x : D) : Rho := (wipeR (freeze (escs ss) ρ) [i]).set i (some (.d false x))
theorem e_mapV {f : α → D} (h1 : evs F ss ρ g = some (xs, g)) (h2 : itO ik xs = some (l.map h)) (he : ∀ a, a ∈ l → ev F e (inC ss ρ i (h a)) g = some (f a, g)) : ev F (.comp e (.n i) ik ss .nil) ρ g = some (.list (l.map f), g) :=
  e_mapA h1 h2 (fun _ _ => rfl) he
theorem e_filV {f : α → D} {p : α → Bool} (h1 : evs F ss ρ g = some (xs, g)) (h2 : itO ik xs = some (l.map h)) (hc : ∀ a, a ∈ l → ev F c (inC ss ρ i (h a)) g = some (.bool (p a), g)) (he : ∀ a, a ∈ l → p a = true → ev F e (inC ss ρ i (h a)) g = some (f a, g)) : ev F (.comp e (.n i) ik ss (.cons c .nil)) ρ g = some (.list ((l.filter p).map f), g) :=
  e_filA h1 h2 (fun _ _ => rfl) hc he
theorem e_allV {p : α → Bool} (h1 : evs F ss ρ g = some (xs, g)) (h2 : itO ik xs = some (l.map h)) (he : ∀ a, a ∈ l → ev F e (inC ss ρ i (h a)) g = some (.bool (p a), g)) : ev F (.blt .all (.cons (.comp e (.n i) ik ss .nil) .nil)) ρ g = some (.bool (l.all p), g) :=
  e_blt (e_cons (e_mapV (f := fun a => .bool (p a)) h1 h2 he) e_nil) (blt_all p)
theorem e_anyV {p : α → Bool} (h1 : evs F ss ρ g = some (xs, g)) (h2 : itO ik xs = some (l.map h)) (he : ∀ a, a ∈ l → ev F e (inC ss ρ i (h a)) g = some (.bool (p a), g)) : ev F (.blt .any (.cons (.comp e (.n i) ik ss .nil) .nil)) ρ g = some (.bool (l.any p), g) :=
  e_blt (e_cons (e_mapV (f := fun a => .bool (p a)) h1 h2 he) e_nil) (blt_any p)
theorem e_minV {f : α → Int} (ne : l ≠ []) (h1 : evs F ss ρ g = some (xs, g)) (h2 : itO ik xs = some (l.map h)) (he : ∀ a, a ∈ l → ev F e (inC ss ρ i (h a)) g = some (.int (f a), g)) : ev F (.blt .min (.cons (.comp e (.n i) ik ss .nil) .nil)) ρ g = some (.int (minI (l.map f)), g) :=
  e_blt (e_cons (e_mapV (f := fun a => .int (f a)) h1 h2 he) e_nil) (blt_min f ne)
/-- over a range -/
theorem r_rng {n : Nat} (h : ev F a ρ g = some (natD n, g)) (hn : n ≤ LINE) : ∃ xs, evs F (.cons a .nil) ρ g = some (xs, g) ∧ itO .rng1 xs = some ((List.range n).map natD) :=
  ⟨_, e_cons h e_nil, it_rng hn⟩
theorem eqO_str (s t : Str) : eqO (.str s) (.str t) = some (decide (s = t)) := rfl
/-- two texts of the same data -/
theorem e_rne {w k : Nat} (z : Fz w k d) (hw : w ≤ 1048576) (hk : k ≤ 64) (h1 : ev F a ρ g = some (d, g1)) (h2 : ev F b ρ g1 = some (d, g2)) : ev F (.cmp (.blt .repr (.cons a .nil)) (.cons .ne (.blt .repr (.cons b .nil)) .nil)) ρ g = some (.bool false, g2) :=
  e_cmp (e_blt (e_cons h1 e_nil) (z.repr hw hk)) (e_blt (e_cons h2 e_nil) (z.repr hw hk)) (by
    show Option.map not (some (decide (d.shown = d.shown))) = _
    rw [decide_eq_true rfl]
    rfl)
theorem e_req {w k : Nat} (z : Fz w k d) (hw : w ≤ 1048576) (hk : k ≤ 64) (h1 : ev F a ρ g = some (d, g1)) (h2 : ev F b ρ g1 = some (d, g2)) : ev F (.cmp (.blt .repr (.cons a .nil)) (.cons .eq (.blt .repr (.cons b .nil)) .nil)) ρ g = some (.bool true, g2) :=
  e_cmp (e_blt (e_cons h1 e_nil) (z.repr hw hk)) (e_blt (e_cons h2 e_nil) (z.repr hw hk)) (by
    show some (decide (d.shown = d.shown)) = _
    rw [decide_eq_true rfl])
/-- a test that does not hold, and nothing else -/
theorem x_no {t : Ex} {p r : Sxs} {q : Fl × Rho} (h : ev F t ρ g = some (.bool false, g1)) (h2 : exs F r ρ g1 = some (q, g2)) : exs F (.cons (.iff t p .nil) r) ρ g = some (q, g2) :=
  x_cons (x_iffF h x_nil) h2
end
theorem dec_nat_lt (a b : Nat) : decide ((a : Int) < b) = decide (a < b) := by
  by_cases h : a < b
  · rw [decide_eq_true h, decide_eq_true (by omega)]
  · rw [decide_eq_false h, decide_eq_false (by omega)]
theorem dec_nat_le (a b : Nat) : decide ((a : Int) ≤ b) = decide (a ≤ b) := by
  by_cases h : a ≤ b
  · rw [decide_eq_true h, decide_eq_true (by omega)]
  · rw [decide_eq_false h, decide_eq_false (by omega)]
theorem c_lt_nat (a b : Nat) : cmpO .lt (natD a) (natD b) = some (decide (a < b)) := congrArg some (dec_nat_lt a b)
theorem c_ge_nat (a b : Nat) : cmpO .ge (natD a) (natD b) = some (decide (b ≤ a)) := congrArg some (dec_nat_le b a)
theorem c_le_nat (a b : Nat) : cmpO .le (natD a) (natD b) = some (decide (a ≤ b)) := congrArg some (dec_nat_le a b)
theorem c_gt_nat (a b : Nat) : cmpO .gt (natD a) (natD b) = some (decide (b < a)) := congrArg some (dec_nat_lt b a)
theorem eqv_int (a b : Int) : PyData.eqv (.int a) (.int b) = decide (a = b) := by
  rw [PyData.eqv]
  by_cases h : a = b
  · rw [decide_eq_true h, h]
    exact beq_self_eq_true _
  · rw [decide_eq_false h]
    exact beq_eq_false_iff_ne.mpr h
theorem c_eq_int (a b : Int) : cmpO .eq (.int a) (.int b) = some (decide (a = b)) := congrArg some (eqv_int a b)
theorem c_ne_int (a b : Int) : cmpO .ne (.int a) (.int b) = some (!decide (a = b)) := congrArg (fun z => some (!z)) (eqv_int a b)
theorem c_eq_nat (a b : Nat) : cmpO .eq (natD a) (natD b) = some (decide (a = b)) := congrArg some (eqv_nat a b)
theorem c_ne_nat (a b : Nat) : cmpO .ne (natD a) (natD b) = some (!decide (a = b)) := congrArg (fun z => some (!z)) (eqv_nat a b)
end DT

/-! Plain helpers: dicts, displays with stars. -/
namespace DT
open PySem
section
variable {F : List Fn} {ρ ρ1 ρ2 : Rho} {g g1 g2 g3 : PState} {x y z d : D} {a b c e k : Ex} {es r : Exs} {xs ys : List D}
theorem e_dnew {t : Bool} : ev F (.dnew t) ρ g = some (.dict [], g) := by
  rw [ev]
  rfl
theorem e_disp {t : Bool} {fl : List Bool} (h : evs F es ρ g = some (xs, g1)) (h2 : dispO t fl xs = some d) : ev F (.disp t fl es) ρ g = some (d, g1) := by
  rw [ev, bnd_go h, h2]
  rfl
theorem e_sabs (h : ev F a ρ g = some (x, g1)) (h2 : sabsO x = some d) : ev F (.sabs a) ρ g = some (d, g1) := by
  rw [ev, bnd_go h, h2]
  rfl
theorem x_six {i : Nat} {kvs : List (D × D)} (h1 : ev F e ρ g = some (d, g1)) (h2 : ev F k ρ g1 = some (y, g2)) (hs : (freeze (escV e d) ρ)[i]? = some (some (.d true (.dict kvs)))) (ok : sixOk kvs y = true)
    (hr : (freeze (escV e d) ρ).set i (some (.d true (.dict (dPut kvs y d)))) = ρ1) : ex F (.six i k e) ρ g = some ((.nx, ρ1), g2) := by
  rw [ex, bnd_go h1, bnd_go h2, hs]
  dsimp only
  rw [if_pos ok, hr]
  rfl
end
end DT

/-! The source of drawn numbers: what it gives. -/
namespace DT
open PySem L2 PyProof.Rows
def mixG : Int → List Int → Int
  | s, [] => s
  | s, c :: r => mixG ((s * 69069 + c * 31 + 5).fmod 2147483629) r
def openG (ns : List Int) : PState := ⟨(ns.map absI).reverse, 1, mixG 11 ns, 0⟩
def drainR : Int → List Int → Int × List Int
  | l, [] => (l, [])
  | l, x :: r => if l < 2 then drainR x r else (l, x :: r)
def drainG (l : Int) (cells : List Int) : Int × List Int := ((drainR l cells.reverse).1, (drainR l cells.reverse).2.reverse)
def pickG (n : Int) (g : PState) : Int × PState :=
  if n < 2 then (0, g) else
  if 1 < (drainG g.left g.cells).1 then ((drainG g.left g.cells).1.fmod n, ⟨(drainG g.left g.cells).2, (drainG g.left g.cells).1.fdiv n, g.mixed, g.turn⟩)
  else (((((g.mixed + (g.turn + 1) * 104729).fmod 998244353 * (g.mixed + (g.turn + 1) * 104729).fmod 998244353 + (g.turn + 1) * 17).fmod 2147483647).fdiv 16).fmod n, ⟨(drainG g.left g.cells).2, (drainG g.left g.cells).1, g.mixed, g.turn + 1⟩)
def pickFn : Fn := fun as g => match as with
  | [none, some (.int n)] => if n < 1073741824 then some (.int (pickG n g).1, (pickG n g).2) else none
  | _ => none
def anyG : Nat → List D → PState → List D × PState
  | 0, _, g => ([], g)
  | n + 1, xs, g => (xs.getD (pickG xs.length g).1.toNat .none :: (anyG n (xs.eraseIdx (pickG xs.length g).1.toNat) (pickG xs.length g).2).1, (anyG n (xs.eraseIdx (pickG xs.length g).1.toNat) (pickG xs.length g).2).2)
def anyFn : Fn := fun as g => match as with
  | [none, some d] => match seqO d with
    | some xs => some (.list (anyG xs.length xs g).1, (anyG xs.length xs g).2)
    | none => none
  | _ => none
theorem pickG_range (n : Int) (g : PState) : 0 ≤ (pickG n g).1 ∧ (pickG n g).1 < max 1 n := by
  unfold pickG
  by_cases h : n < 2
  · rw [if_pos h]
    exact ⟨Int.le_refl _, by show (0 : Int) < _; omega⟩
  · rw [if_neg h]
    have hn : (0 : Int) < n := by omega
    split
    · exact ⟨Int.fmod_nonneg_of_pos _ hn, by have := Int.fmod_lt_of_pos (drainG g.left g.cells).1 hn; show _ < _; simp only []; omega⟩
    · refine ⟨Int.fmod_nonneg_of_pos _ hn, ?_⟩
      have := Int.fmod_lt_of_pos (((((g.mixed + (g.turn + 1) * 104729).fmod 998244353 * (g.mixed + (g.turn + 1) * 104729).fmod 998244353 + (g.turn + 1) * 17).fmod 2147483647).fdiv 16)) hn
      simp only []
      omega
theorem pickFn_eq {n : Int} {g : PState} (h : n < 1073741824) : pickFn [none, some (.int n)] g = some (.int (pickG n g).1, (pickG n g).2) := by
  unfold pickFn
  exact if_pos h
theorem pick_ok {n : Nat} (h1 : 1 ≤ n) (h2 : n < 1073741824) (g : PState) : ∃ r g', pickFn [none, some (natD n)] g = some (natD r, g') ∧ r < n := by
  have h := pickG_range (n : Int) g
  refine ⟨(pickG n g).1.toNat, (pickG n g).2, ?_, by omega⟩
  refine (pickFn_eq (by omega)).trans ?_
  unfold natD
  rw [Int.toNat_of_nonneg h.1]
theorem erase_perm {α : Type} : ∀ {l : List α} {i : Nat} (h : i < l.length), (l[i] :: l.eraseIdx i).Perm l
  | a :: l, 0, _ => List.Perm.refl _
  | a :: l, i + 1, h => by
    have hl : i < l.length := by rw [List.length_cons] at h; omega
    have ih := erase_perm hl
    rw [List.eraseIdx_cons_succ, List.getElem_cons_succ]
    exact (List.Perm.swap a (l[i]'hl) (l.eraseIdx i)).trans (ih.cons a)
theorem erase_map {α : Type} (f : α → D) : ∀ (l : List α) (i : Nat), (l.map f).eraseIdx i = (l.eraseIdx i).map f
  | [], _ => rfl
  | a :: l, 0 => rfl
  | a :: l, i + 1 => by
    rw [List.map_cons, List.eraseIdx_cons_succ, List.eraseIdx_cons_succ, List.map_cons, erase_map f l i]
theorem anyG_map {α : Type} (h : α → D) : ∀ (n : Nat) (xs : List α) (g : PState), xs.length = n → ∃ ys : List α, ys.Perm xs ∧ (anyG n (xs.map h) g).1 = ys.map h
  | 0, xs, g, e => ⟨[], by rw [List.length_eq_zero_iff.mp e], rfl⟩
  | n + 1, xs, g, e => by
    have hr := pickG_range ((xs.map h).length : Int) g
    rw [List.length_map] at hr
    have hi : (pickG (xs.length : Int) g).1.toNat < xs.length := by omega
    obtain ⟨ys, hp, hy⟩ := anyG_map h n (xs.eraseIdx (pickG (xs.length : Int) g).1.toNat) (pickG (xs.length : Int) g).2 (by rw [List.length_eraseIdx_of_lt hi]; omega)
    refine ⟨xs[(pickG (xs.length : Int) g).1.toNat] :: ys, (List.Perm.cons _ hp).trans (erase_perm hi), ?_⟩
    rw [anyG, List.length_map, List.map_cons, ← hy, erase_map, List.getD_eq_getElem?_getD, List.getElem?_map, List.getElem?_eq_getElem hi]
    rfl
theorem any_ok {α : Type} {h : α → D} {xs : List α} (g : PState) : ∃ (ys : List α) (g' : PState), anyFn [none, some (.list (xs.map h))] g = some (.list (ys.map h), g') ∧ ys.Perm xs := by
  obtain ⟨ys, hp, hy⟩ := anyG_map h xs.length xs g rfl
  refine ⟨ys, (anyG (xs.map h).length (xs.map h) g).2, ?_, hp⟩
  show some (PyData.list (anyG (xs.map h).length (xs.map h) g).1, _) = _
  rw [← hy, List.length_map]
theorem e_pick1 {F : List Fn} {ρ : Rho} {n : Nat} (hF : F[0]? = some pickFn) (h0 : ρ[0]? = some (some .src)) (h1 : 1 ≤ n) (h2 : n < 1073741824) (g : PState) : ∃ r g', ev F (.bin .add (.k (.int 1)) (.call 0 (.src 0 (.ex (.k (.int n)) .nil)))) ρ g = some (natD (r + 1), g') ∧ r < n := by
  obtain ⟨r, g', e, hr⟩ := pick_ok h1 h2 g
  refine ⟨r, g', e_bin e_k (e_call (r_src h0 (r_ex e_k r_nil)) hF e) ?_, hr⟩
  show some (PyData.int (1 + (r : Int))) = some (PyData.int ((r + 1 : Nat) : Int))
  rw [Int.natCast_add, Int.add_comm]
  rfl
end DT

/-! Plain helpers: numbers, sorts, dicts whose keys are ties. -/
namespace DT
open PySem
section
variable {F : List Fn} {ρ ρ1 : Rho} {g g1 : PState} {a b c e : Ex}
theorem fn_eq {n : Nat} {body : Sxs} {as : List (Option D)} {d d' : D} (h : exs F body (as.map sl0 ++ List.replicate (n - as.length) none) g = some ((.rt d', ρ1), g1)) (e : d' = d) : fnOf F n body as g = some (d, g1) := by
  subst e
  exact fn_go h
theorem ev_eq {d d' : D} (h : ev F a ρ g = some (d', g1)) (e : d' = d) : ev F a ρ g = some (d, g1) := by
  subst e
  exact h
theorem o_eq {α : Type} {o : Option α} {d d' : α} (h : o = some d') (e : d' = d) : o = some d := by
  subst e
  exact h
theorem mulA {a b : Int} (h : wid a = true) : binD .mul (.int a) (.int b) = some (.int (a * b)) := if_pos (by rw [h]; rfl)
theorem mulB {a b : Int} (h : wid b = true) : binD .mul (.int a) (.int b) = some (.int (a * b)) := if_pos (by rw [h, Bool.or_true])
theorem wid_le {a : Int} (h : a.natAbs ≤ 1000000) : wid a = true := by
  unfold wid
  rw [Bool.and_eq_true, decide_eq_true_eq, decide_eq_true_eq]
  omega
theorem intN {i : Int} {n : Nat} (h : i = n) : PyData.int i = natD n := congrArg PyData.int h
theorem addN (a b : Nat) : binD .add (natD a) (natD b) = some (natD (a + b)) := congrArg some (intN (by omega))
theorem subN {a b : Nat} (h : b ≤ a) : binD .sub (natD a) (natD b) = some (natD (a - b)) := congrArg some (intN (by omega))
theorem mulN {a b : Nat} (h : a ≤ 1000000) : binD .mul (natD a) (natD b) = some (natD (a * b)) := (mulA (wid_le (by omega))).trans (congrArg some (intN (Int.natCast_mul a b).symm))
theorem modN {a b : Nat} (h : 0 < b) : binD .mod (natD a) (natD b) = some (natD (a % b)) := by
  show (if (b : Int) ≠ 0 then some (PyData.int ((a : Int).fmod b)) else none) = _
  rw [if_pos (by omega)]
  exact congrArg some (intN (by rw [Int.fmod_eq_emod_of_nonneg _ (Int.natCast_nonneg b)]; exact (Int.natCast_emod a b).symm))
theorem catL {xs ys : List D} (h : xs.length + ys.length ≤ LINE) : binD .add (.list xs) (.list ys) = some (.list (xs ++ ys)) := by
  show (if lenOk (xs ++ ys).length = true then some (PyData.list (xs ++ ys)) else none) = _
  rw [if_pos]
  exact decide_eq_true (by rw [List.length_append]; exact h)
theorem catT {xs ys : List D} (h : xs.length + ys.length ≤ LINE) : binD .add (.tuple xs) (.tuple ys) = some (.tuple (xs ++ ys)) := by
  show (if lenOk (xs ++ ys).length = true then some (PyData.tuple (xs ++ ys)) else none) = _
  rw [if_pos]
  exact decide_eq_true (by rw [List.length_append]; exact h)
theorem lenLN (xs : List D) : bltO .len [.list xs] = some (natD xs.length) := rfl
theorem lenTN (xs : List D) : bltO .len [.tuple xs] = some (natD xs.length) := rfl
end
/-! ### sorts -/
/-- sorted as data are -/
def srt {α : Type} (h : α → D) (l : List α) : List α := l.mergeSort fun a b => PySem.W.dataLe false id (h a) (h b)
theorem srt_perm {α : Type} (h : α → D) (l : List α) : (srt h l).Perm l := List.mergeSort_perm l _
theorem srt_mem {α : Type} {h : α → D} {l : List α} {a : α} : a ∈ srt h l ↔ a ∈ l := (srt_perm h l).mem_iff
theorem srt_len {α : Type} (h : α → D) (l : List α) : (srt h l).length = l.length := (srt_perm h l).length_eq
structure SrtOk {α : Type} (h : α → D) : Prop where
  alike : ∀ a b, PySem.W.alike (h a) (h b) = true
  tup : ∀ a, ∃ x r, h a = .tuple (x :: r)
  lay : ∀ a, (h a).canLay0 = true
  dep : ∀ a, (h a).depth ≤ 64
theorem lay_all {α : Type} {h : α → D} (hl : ∀ a, (h a).canLay0 = true) : ∀ l : List α, PyData.canLayAll0 (l.map h) = true
  | [] => rfl
  | a :: l => by
    rw [List.map_cons, PyData.canLayAll0, hl a, lay_all hl l]
    rfl
theorem sort_map {α : Type} {h : α → D} (S : SrtOk h) (l : List α) : sortO (l.map h) = some ((srt h l).map h) := by
  have h1 : sortOk (l.map h) = true := by
    unfold sortOk
    rw [Bool.and_eq_true, Bool.and_eq_true]
    refine ⟨⟨?_, ?_⟩, ?_⟩
    · refine List.all_eq_true.mpr fun d hd => List.all_eq_true.mpr fun e he => ?_
      obtain ⟨a, _, rfl⟩ := List.mem_map.mp hd
      obtain ⟨b, _, rfl⟩ := List.mem_map.mp he
      exact S.alike a b
    · refine (Bool.or_eq_true ..).mpr (.inl (List.all_eq_true.mpr fun d hd => ?_))
      obtain ⟨a, _, rfl⟩ := List.mem_map.mp hd
      obtain ⟨x, r, e⟩ := S.tup a
      rw [e]
    · rw [Bool.and_eq_true]
      refine ⟨lay_all S.lay l, List.all_eq_true.mpr fun d hd => ?_⟩
      obtain ⟨a, _, rfl⟩ := List.mem_map.mp hd
      exact decide_eq_true (S.dep a)
  unfold sortO
  rw [if_pos h1]
  congr 1
  exact (List.map_mergeSort (r := fun a b => PySem.W.dataLe false id (h a) (h b)) (s := PySem.W.dataLe false id) (f := h) (l := l) fun a _ b _ => rfl).symm
theorem sortedL {α : Type} {h : α → D} (S : SrtOk h) (l : List α) : bltO .sorted [.list (l.map h)] = some (.list ((srt h l).map h)) := by
  show (match some (l.map h) with
    | some xs => (sortO xs).map PyData.list
    | none => none) = _
  dsimp only
  rw [sort_map S]
  rfl
theorem sortedN (l : List Nat) : bltO .sorted [.list (l.map natD)] = some (.list ((l.mergeSort fun a b => decide (a ≤ b)).map natD)) := by
  show (match some (l.map natD) with
    | some xs => (sortO xs).map PyData.list
    | none => none) = _
  dsimp only
  rw [sort_nat]
  rfl
/-- a key more, once -/
def dedF {α : Type} [DecidableEq α] (acc : List α) (k : α) : List α := if k ∈ acc then acc else acc ++ [k]
theorem dedK_F {α : Type} [DecidableEq α] (ks : List α) : dedK ks = ks.foldl dedF [] := rfl
/-! ### dicts by ties -/
abbrev Tie := Nat × Nat
def tieD (e : Tie) : D := .tuple [natD e.1, natD e.2]
theorem tie_srt : SrtOk tieD := ⟨fun _ _ => rfl, fun _ => ⟨_, _, rfl⟩, fun _ => rfl, fun _ => (by decide : 1 ≤ 64)⟩
theorem tie_key {a b : Tie} : toKey (tieD a) = toKey (tieD b) ↔ a = b := by
  refine ⟨fun h => ?_, fun h => by rw [h]⟩
  have h' : NestedKey.tup [.num (a.1 : Int), .num (a.2 : Int)] = NestedKey.tup [.num (b.1 : Int), .num (b.2 : Int)] := h
  injection h' with h1
  injection h1 with h2 h3
  injection h3 with h4 _
  injection h2 with h2
  injection h4 with h4
  exact Prod.ext (Int.ofNat.inj h2) (Int.ofNat.inj h4)
theorem tie_kd (a : Tie) : tupKD (tieD a) = true := by
  show (isTup (tieD a) && (keyOk (tieD a) && decide ((toKey (tieD a)).depth ≤ 8))) = true
  rfl
section
variable {β : Type} {enc : β → D}
def dictD (enc : β → D) (A : List (Tie × β)) : D := .dict (A.map fun p => (tieD p.1, enc p.2))
def getA (A : List (Tie × β)) (k : Tie) : Option β := (A.find? fun p => decide (p.1 = k)).map (·.2)
def putA (A : List (Tie × β)) (k : Tie) (v : β) : List (Tie × β) := if (A.any fun p => decide (p.1 = k)) = true then A.map (fun p => if p.1 = k then (p.1, v) else p) else A ++ [(k, v)]
theorem all_kd (A : List (Tie × β)) : ((A.map fun p => (tieD p.1, enc p.2)).all fun p => tupKD p.1) = true := by
  rw [List.all_map]
  exact List.all_eq_true.mpr fun p _ => tie_kd p.1
theorem dOk_tie (A : List (Tie × β)) (k : Tie) : dOk (A.map fun p => (tieD p.1, enc p.2)) (tieD k) = true := by
  unfold dOk
  rw [tie_kd, all_kd]
  rfl
theorem dGet_tie (A : List (Tie × β)) (k : Tie) : dGet (A.map fun p => (tieD p.1, enc p.2)) (tieD k) = (getA A k).map enc := by
  unfold dGet getA
  rw [List.find?_map, Option.map_map, Option.map_map]
  have e : (fun p : D × D => decide (toKey p.1 = toKey (tieD k))) ∘ (fun p : Tie × β => (tieD p.1, enc p.2)) = fun p => decide (p.1 = k) := by
    funext p
    exact decide_eq_decide.mpr tie_key
  rw [e]
  rfl
theorem dPut_tie (A : List (Tie × β)) (k : Tie) (v : β) : dPut (A.map fun p => (tieD p.1, enc p.2)) (tieD k) (enc v) = (putA A k v).map fun p => (tieD p.1, enc p.2) := by
  unfold dPut putA
  rw [List.any_map]
  have e : (fun p : D × D => decide (toKey p.1 = toKey (tieD k))) ∘ (fun p : Tie × β => (tieD p.1, enc p.2)) = fun p => decide (p.1 = k) := by
    funext p
    exact decide_eq_decide.mpr tie_key
  rw [e]
  by_cases h : (A.any fun p => decide (p.1 = k)) = true
  · rw [if_pos h, if_pos h, List.map_map, List.map_map]
    refine List.map_congr_left fun p _ => ?_
    show (if toKey (tieD p.1) = toKey (tieD k) then (tieD p.1, enc v) else (tieD p.1, enc p.2)) = (fun q : Tie × β => (tieD q.1, enc q.2)) (if p.1 = k then (p.1, v) else p)
    by_cases c : p.1 = k
    · rw [if_pos (tie_key.mpr c), if_pos c]
    · rw [if_neg (fun z => c (tie_key.mp z)), if_neg c]
  · rw [if_neg h, if_neg h, List.map_append]
    rfl
theorem get_tie (A : List (Tie × β)) (k : Tie) (d : D) : metO .get (dictD enc A) [tieD k, d] = some (((getA A k).map enc).getD d) := by
  show (if dOk (A.map fun p => (tieD p.1, enc p.2)) (tieD k) = true then some ((dGet (A.map fun p => (tieD p.1, enc p.2)) (tieD k)).getD d) else none) = _
  rw [if_pos (dOk_tie A k), dGet_tie]
theorem ix_tie {A : List (Tie × β)} {k : Tie} {v : β} (h : getA A k = some v) : ixO (dictD enc A) (tieD k) = some (enc v) := by
  show (if dOk (A.map fun p => (tieD p.1, enc p.2)) (tieD k) = true then dGet (A.map fun p => (tieD p.1, enc p.2)) (tieD k) else none) = _
  rw [if_pos (dOk_tie A k), dGet_tie, h]
  rfl
theorem mem_tie (A : List (Tie × β)) (k : Tie) : memO (tieD k) (dictD enc A) = some (getA A k).isSome := by
  show (if dOk (A.map fun p => (tieD p.1, enc p.2)) (tieD k) = true then some (dGet (A.map fun p => (tieD p.1, enc p.2)) (tieD k)).isSome else none) = _
  rw [if_pos (dOk_tie A k), dGet_tie, Option.isSome_map]
theorem six_tie (A : List (Tie × β)) (k : Tie) (h : A.length < LINE) : sixOk (A.map fun p => (tieD p.1, enc p.2)) (tieD k) = true := by
  unfold sixOk
  rw [tie_kd, all_kd, List.length_map, decide_eq_true h]
  rfl
theorem list_tie (A : List (Tie × β)) : bltO .list [dictD enc A] = some (.list ((A.map (·.1)).map tieD)) := by
  show some (PyData.list ((A.map fun p => (tieD p.1, enc p.2)).map (·.1))) = _
  rw [List.map_map, List.map_map]
  rfl
theorem sorted_tie (A : List (Tie × β)) : bltO .sorted [dictD enc A] = some (.list ((srt tieD (A.map (·.1))).map tieD)) := by
  show (sortO ((A.map fun p => (tieD p.1, enc p.2)).map (·.1))).map PyData.list = _
  have e : (A.map fun p => (tieD p.1, enc p.2)).map (·.1) = (A.map (·.1)).map tieD := by
    rw [List.map_map, List.map_map]
    rfl
  rw [e, sort_map tie_srt]
  rfl
theorem putA_len (A : List (Tie × β)) (k : Tie) (v : β) : (putA A k v).length ≤ A.length + 1 := by
  unfold putA
  split
  · rw [List.length_map]
    omega
  · rw [List.length_append]
    exact Nat.le_refl _
theorem putA_keys (A : List (Tie × β)) (k : Tie) (v : β) : (putA A k v).map (·.1) = dedF (A.map (·.1)) k := by
  unfold putA dedF
  by_cases h : k ∈ A.map (·.1)
  · have e : (A.any fun p => decide (p.1 = k)) = true := by
      obtain ⟨x, hx, e⟩ := List.mem_map.mp h
      exact List.any_eq_true.mpr ⟨x, hx, decide_eq_true e⟩
    rw [if_pos e, if_pos h, List.map_map]
    refine List.map_congr_left fun x _ => ?_
    show (if x.1 = k then (x.1, v) else x).1 = x.1
    split <;> rfl
  · have e : ¬ (A.any fun p => decide (p.1 = k)) = true := fun z => by
      obtain ⟨x, hx, e⟩ := List.any_eq_true.mp z
      exact h (List.mem_map.mpr ⟨x, hx, of_decide_eq_true e⟩)
    rw [if_neg e, if_neg h, List.map_append]
    rfl
theorem getA_put (A : List (Tie × β)) (k : Tie) (v : β) (j : Tie) : getA (putA A k v) j = if j = k then some v else getA A j := by
  unfold putA
  by_cases h : (A.any fun p => decide (p.1 = k)) = true
  · rw [if_pos h]
    unfold getA
    rw [List.find?_map]
    have e : (fun p : Tie × β => decide (p.1 = j)) ∘ (fun p => if p.1 = k then (p.1, v) else p) = fun p => decide (p.1 = j) := by
      funext p
      show decide ((if p.1 = k then (p.1, v) else p).1 = j) = _
      split <;> rfl
    rw [e]
    by_cases c : j = k
    · subst c
      rw [if_pos rfl]
      cases q : A.find? fun p => decide (p.1 = j) with
      | none =>
        exfalso
        obtain ⟨x, hx, e⟩ := List.any_eq_true.mp h
        exact List.find?_eq_none.mp q x hx e
      | some p =>
        have := List.find?_some q
        show some (if p.1 = j then (p.1, v) else p).2 = some v
        rw [if_pos (of_decide_eq_true this)]
    · rw [if_neg c]
      cases q : A.find? fun p => decide (p.1 = j) with
      | none => rfl
      | some p =>
        have z0 := List.find?_some q
        have := of_decide_eq_true z0
        show some (if p.1 = k then (p.1, v) else p).2 = some p.2
        rw [if_neg (fun z => c (this.symm.trans z))]
  · rw [if_neg h]
    unfold getA
    rw [List.find?_append]
    cases q : A.find? fun p => decide (p.1 = j) with
    | some p =>
      have z0 := List.find?_some q
      have hp := of_decide_eq_true z0
      have c : j ≠ k := fun z => h (List.any_eq_true.mpr ⟨p, List.mem_of_find?_eq_some q, decide_eq_true (hp.trans z)⟩)
      rw [if_neg c]
      rfl
    | none =>
      by_cases c : j = k
      · subst c
        rw [if_pos rfl, List.find?_cons_of_pos (by simp)]
        rfl
      · rw [if_neg c, List.find?_cons_of_neg (by simpa using fun z => c z.symm)]
        rfl
theorem getA_mem {A : List (Tie × β)} {k : Tie} : (getA A k).isSome = true ↔ k ∈ A.map (·.1) := by
  unfold getA
  rw [Option.isSome_map, List.find?_isSome]
  constructor
  · rintro ⟨p, hp, e⟩
    exact List.mem_map.mpr ⟨p, hp, of_decide_eq_true e⟩
  · intro h
    obtain ⟨p, hp, e⟩ := List.mem_map.mp h
    exact ⟨p, hp, decide_eq_true e⟩
end
end DT

/-! Fillings: the texts of the defs. -/
namespace DT
open PySem
-- ties_of_triangle slots 0:triangle 1:a 2:b 3:c
def X_ties_of_triangle : Sxs := (.cons (.unp (.t [(.n 1), (.n 2), (.n 3)]) (.v 0)) (.cons (.ret (.lst (.cons (.tup (.cons (.v 1) (.cons (.v 2) .nil))) (.cons (.tup (.cons (.v 1) (.cons (.v 3) .nil))) (.cons (.tup (.cons (.v 2) (.cons (.v 3) .nil))) .nil))))) .nil))
abbrev F_ties_of_triangle (F : List Fn) : Fn := fnOf F 4 (X_ties_of_triangle)
-- rim_of slots 0:h 1:k
def X_rim_of : Sxs := (.cons (.ret (.blt .sorted (.cons (.bin .add (.comp (.tup (.cons (.v 1) (.cons (.bin .add (.v 1) (.k (.int 1))) .nil))) (.n 1) .rng1 (.cons (.bin .sub (.bin .mul (.k (.int 2)) (.v 0)) (.k (.int 1))) .nil) .nil) (.lst (.cons (.tup (.cons (.k (.int 0)) (.cons (.bin .sub (.bin .mul (.k (.int 2)) (.v 0)) (.k (.int 1))) .nil))) .nil))) .nil))) .nil)
abbrev F_rim_of (F : List Fn) : Fn := fnOf F 2 (X_rim_of)
-- for tie in ties_of_triangle(triangle)
def W1_tie_counts (c_ties_of_triangle : Nat) : Sxs := (.cons (.six 1 (.v 3) (.bin .add (.meth .get (.v 1) (.cons (.v 3) (.cons (.k (.int 0)) .nil))) (.k (.int 1)))) .nil)
-- for triangle in triangles
def W2_tie_counts (c_ties_of_triangle : Nat) : Sxs := (.cons (.for (.n 3) .seq (.cons (.call c_ties_of_triangle (.ex (.v 2) .nil)) .nil) (W1_tie_counts c_ties_of_triangle)) .nil)
-- tie_counts slots 0:triangles 1:found 2:triangle 3:tie
def X_tie_counts (c_ties_of_triangle : Nat) : Sxs := (.cons (.set 1 (.dnew true)) (.cons (.for (.n 2) .seq (.cons (.v 0) .nil) (W2_tie_counts c_ties_of_triangle)) (.cons (.ret (.v 1)) .nil)))
abbrev F_tie_counts (F : List Fn) (c_ties_of_triangle : Nat) : Fn := fnOf F 4 (X_tie_counts c_ties_of_triangle)
-- opposite_point slots 0:filling 1:k
def X_opposite_point : Sxs := (.cons (.ret (.bin .mod (.bin .add (.v 1) (.ix (.v 0) (.k (.int 0)))) (.bin .mul (.k (.int 2)) (.ix (.v 0) (.k (.int 0)))))) .nil)
abbrev F_opposite_point (F : List Fn) : Fn := fnOf F 2 (X_opposite_point)
-- rim_ties slots 0:filling
def X_rim_ties (c_rim_of : Nat) : Sxs := (.cons (.ret (.blt .tuple (.cons (.call c_rim_of (.ex (.ix (.v 0) (.k (.int 0))) .nil)) .nil))) .nil)
abbrev F_rim_ties (F : List Fn) (c_rim_of : Nat) : Fn := fnOf F 1 (X_rim_ties c_rim_of)
-- all_ties slots 0:filling
def X_all_ties (c_tie_counts : Nat) : Sxs := (.cons (.ret (.blt .tuple (.cons (.blt .sorted (.cons (.call c_tie_counts (.ex (.ix (.v 0) (.k (.int 2))) .nil)) .nil)) .nil))) .nil)
abbrev F_all_ties (F : List Fn) (c_tie_counts : Nat) : Fn := fnOf F 1 (X_all_ties c_tie_counts)
-- are_let slots 0:filling 1:value 2:x 3:k 4:a 5:b
def X_are_let (c_opposite_point c_rim_ties : Nat) : Sxs := (.cons (.iff (.or (.cons (.not (.blt (.isi .tuple) (.cons (.v 1) .nil))) (.cons (.cmp (.blt .len (.cons (.v 1) .nil)) (.cons .ne (.ix (.v 0) (.k (.int 1))) .nil)) .nil))) (.cons (.ret (.k (.bool false))) .nil) .nil) (.cons (.iff (.not (.blt .all (.cons (.comp (.and (.cons (.blt (.isi .int) (.cons (.v 2) .nil)) (.cons (.not (.blt (.isi .bool) (.cons (.v 2) .nil))) (.cons (.cmp (.v 2) (.cons .ne (.k (.int 0)) .nil)) .nil)))) (.n 2) .seq (.cons (.v 1) .nil) .nil) .nil))) (.cons (.ret (.k (.bool false))) .nil) .nil) (.cons (.iff (.not (.blt .all (.cons (.comp (.cmp (.ix (.v 1) (.call c_opposite_point (.ex (.v 0) (.ex (.v 3) .nil)))) (.cons .eq (.neg (.ix (.v 1) (.v 3))) .nil)) (.n 3) .rng1 (.cons (.bin .mul (.k (.int 2)) (.ix (.v 0) (.k (.int 0)))) .nil) .nil) .nil))) (.cons (.ret (.k (.bool false))) .nil) .nil) (.cons (.ret (.blt .all (.cons (.comp (.cmp (.ix (.v 1) (.v 4)) (.cons .ne (.neg (.ix (.v 1) (.v 5))) .nil)) (.t [(.n 4), (.n 5)]) .seq (.cons (.call c_rim_ties (.ex (.v 0) .nil)) .nil) .nil) .nil))) .nil))))
abbrev F_are_let (F : List Fn) (c_opposite_point c_rim_ties : Nat) : Fn := fnOf F 6 (X_are_let c_opposite_point c_rim_ties)
-- is_turn_door slots 0:labels 1:a 2:b 3:x 4:y
def X_is_turn_door : Sxs := (.cons (.unp (.t [(.n 3), (.n 4)]) (.blt .sorted (.cons (.lst (.cons (.ix (.v 0) (.v 1)) (.cons (.ix (.v 0) (.v 2)) .nil))) .nil))) (.cons (.ret (.cmp (.v 3) (.cons .lt (.k (.int 0)) (.cons .lt (.v 4) (.cons .lt (.neg (.v 3)) .nil))))) .nil))
abbrev F_is_turn_door (F : List Fn) : Fn := fnOf F 5 (X_is_turn_door)
-- doors_of slots 0:filling 1:labels 2:t 3:tie
def X_doors_of (c_is_turn_door c_ties_of_triangle : Nat) : Sxs := (.cons (.ret (.blt .tuple (.cons (.comp (.v 3) (.n 3) .seq (.cons (.call c_ties_of_triangle (.ex (.ix (.ix (.v 0) (.k (.int 2))) (.v 2)) .nil)) .nil) (.cons (.call c_is_turn_door (.ex (.v 1) (.ex (.ix (.v 3) (.k (.int 0))) (.ex (.ix (.v 3) (.k (.int 1))) .nil)))) .nil)) .nil))) .nil)
abbrev F_doors_of (F : List Fn) (c_is_turn_door c_ties_of_triangle : Nat) : Fn := fnOf F 4 (X_doors_of c_is_turn_door c_ties_of_triangle)
-- is_turned slots 0:filling 1:labels 2:t 3:x 4:y 5:z 6:point
def X_is_turned : Sxs := (.cons (.unp (.t [(.n 3), (.n 4), (.n 5)]) (.sabs (.comp (.ix (.v 1) (.v 6)) (.n 6) .seq (.cons (.ix (.ix (.v 0) (.k (.int 2))) (.v 2)) .nil) .nil))) (.cons (.ret (.and (.cons (.cmp (.blt .abs (.cons (.v 3) .nil)) (.cons .lt (.blt .abs (.cons (.v 4) .nil)) (.cons .lt (.blt .abs (.cons (.v 5) .nil)) .nil))) (.cons (.cmp (.cmp (.v 3) (.cons .gt (.k (.int 0)) .nil)) (.cons .ne (.cmp (.v 4) (.cons .gt (.k (.int 0)) .nil)) .nil)) (.cons (.cmp (.cmp (.v 4) (.cons .gt (.k (.int 0)) .nil)) (.cons .ne (.cmp (.v 5) (.cons .gt (.k (.int 0)) .nil)) .nil)) .nil))))) .nil))
abbrev F_is_turned (F : List Fn) : Fn := fnOf F 7 (X_is_turned)
-- turn_triangles slots 0:filling 1:labels 2:t
def X_turn_triangles (c_is_turned : Nat) : Sxs := (.cons (.ret (.blt .tuple (.cons (.comp (.v 2) (.n 2) .rng1 (.cons (.blt .len (.cons (.ix (.v 0) (.k (.int 2))) .nil)) .nil) (.cons (.call c_is_turned (.ex (.v 0) (.ex (.v 1) (.ex (.v 2) .nil)))) .nil)) .nil))) .nil)
abbrev F_turn_triangles (F : List Fn) (c_is_turned : Nat) : Fn := fnOf F 3 (X_turn_triangles c_is_turned)
-- opposite_ties slots 0:filling 1:labels 2:a 3:b
def X_opposite_ties (c_all_ties : Nat) : Sxs := (.cons (.ret (.blt .tuple (.cons (.comp (.tup (.cons (.v 2) (.cons (.v 3) .nil))) (.t [(.n 2), (.n 3)]) .seq (.cons (.call c_all_ties (.ex (.v 0) .nil)) .nil) (.cons (.cmp (.ix (.v 1) (.v 2)) (.cons .eq (.neg (.ix (.v 1) (.v 3))) .nil)) .nil)) .nil))) .nil)
abbrev F_opposite_ties (F : List Fn) (c_all_ties : Nat) : Fn := fnOf F 4 (X_opposite_ties c_all_ties)
-- rim_doors slots 0:filling 1:labels 2:tie
def X_rim_doors (c_is_turn_door c_rim_ties : Nat) : Sxs := (.cons (.ret (.blt .tuple (.cons (.comp (.v 2) (.n 2) .seq (.cons (.call c_rim_ties (.ex (.v 0) .nil)) .nil) (.cons (.call c_is_turn_door (.ex (.v 1) (.ex (.ix (.v 2) (.k (.int 0))) (.ex (.ix (.v 2) (.k (.int 1))) .nil)))) .nil)) .nil))) .nil)
abbrev F_rim_doors (F : List Fn) (c_is_turn_door c_rim_ties : Nat) : Fn := fnOf F 3 (X_rim_doors c_is_turn_door c_rim_ties)
-- _law_rim slots 0:h 1:k
def X_law_rim : Sxs := (.cons (.ret (.blt .sorted (.cons (.bin .add (.comp (.tup (.cons (.v 1) (.cons (.bin .add (.v 1) (.k (.int 1))) .nil))) (.n 1) .rng1 (.cons (.bin .sub (.bin .mul (.k (.int 2)) (.v 0)) (.k (.int 1))) .nil) .nil) (.lst (.cons (.tup (.cons (.k (.int 0)) (.cons (.bin .sub (.bin .mul (.k (.int 2)) (.v 0)) (.k (.int 1))) .nil))) .nil))) .nil))) .nil)
abbrev F_law_rim (F : List Fn) : Fn := fnOf F 2 (X_law_rim)
-- _law_cone slots 0:h 1:a 2:b
def X_law_cone (c_law_rim : Nat) : Sxs := (.cons (.ret (.tup (.cons (.v 0) (.cons (.bin .add (.bin .mul (.k (.int 2)) (.v 0)) (.k (.int 1))) (.cons (.blt .tuple (.cons (.blt .sorted (.cons (.comp (.tup (.cons (.v 1) (.cons (.v 2) (.cons (.bin .mul (.k (.int 2)) (.v 0)) .nil)))) (.t [(.n 1), (.n 2)]) .seq (.cons (.call c_law_rim (.ex (.v 0) .nil)) .nil) .nil) .nil)) .nil)) .nil))))) .nil)
abbrev F_law_cone (F : List Fn) (c_law_rim : Nat) : Fn := fnOf F 3 (X_law_cone c_law_rim)
-- for tie in ((a, b), (a, c), (b, c))
def W1_law_ties : Sxs := (.cons (.six 1 (.v 6) (.bin .add (.meth .get (.v 1) (.cons (.v 6) (.cons (.lst .nil) .nil))) (.lst (.cons (.v 2) .nil)))) .nil)
-- for (t, (a, b, c)) in enumerate(triangles)
def W2_law_ties : Sxs := (.cons (.for (.n 6) .seq (.cons (.tup (.cons (.tup (.cons (.v 3) (.cons (.v 4) .nil))) (.cons (.tup (.cons (.v 3) (.cons (.v 5) .nil))) (.cons (.tup (.cons (.v 4) (.cons (.v 5) .nil))) .nil)))) .nil) (W1_law_ties)) .nil)
-- _law_ties slots 0:triangles 1:found 2:t 3:a 4:b 5:c 6:tie
def X_law_ties : Sxs := (.cons (.set 1 (.dnew true)) (.cons (.for (.t [(.n 2), (.t [(.n 3), (.n 4), (.n 5)])]) .enum (.cons (.v 0) .nil) (W2_law_ties)) (.cons (.ret (.v 1)) .nil)))
abbrev F_law_ties (F : List Fn) : Fn := fnOf F 7 (X_law_ties)
-- _law_parted slots 0:filling 1:t 2:h 3:n 4:triangles 5:a 6:b 7:c 8:late 9:k 10:triangle
def X_law_parted : Sxs := (.cons (.unp (.t [(.n 2), (.n 3), (.n 4)]) (.v 0)) (.cons (.unp (.t [(.n 5), (.n 6), (.n 7)]) (.ix (.v 4) (.v 1))) (.cons (.set 8 (.bin .add (.comp (.v 10) (.t [(.n 9), (.n 10)]) .enum (.cons (.v 4) .nil) (.cons (.cmp (.v 9) (.cons .ne (.v 1) .nil)) .nil)) (.lst (.cons (.tup (.cons (.v 5) (.cons (.v 6) (.cons (.v 3) .nil)))) (.cons (.tup (.cons (.v 5) (.cons (.v 7) (.cons (.v 3) .nil)))) (.cons (.tup (.cons (.v 6) (.cons (.v 7) (.cons (.v 3) .nil)))) .nil)))))) (.cons (.ret (.tup (.cons (.v 2) (.cons (.bin .add (.v 3) (.k (.int 1))) (.cons (.blt .tuple (.cons (.blt .sorted (.cons (.v 8) .nil)) .nil)) .nil))))) .nil))))
abbrev F_law_parted (F : List Fn) : Fn := fnOf F 11 (X_law_parted)
-- _law_flipped slots 0:filling 1:tie 2:h 3:n 4:triangles 5:some 6:ends 7:x 8:t 9:late 10:k 11:triangle
def X_law_flipped (c_law_rim c_law_ties : Nat) : Sxs := (.cons (.unp (.t [(.n 2), (.n 3), (.n 4)]) (.v 0)) (.cons (.set 5 (.call c_law_ties (.ex (.v 4) .nil))) (.cons (.iff (.cmp (.blt .len (.cons (.ix (.v 5) (.v 1)) .nil)) (.cons .ne (.k (.int 2)) .nil)) (.cons (.ret (.v 0)) .nil) .nil) (.cons (.set 6 (.comp (.ix (.comp (.v 7) (.n 7) .seq (.cons (.ix (.v 4) (.v 8)) .nil) (.cons (.cmp (.v 7) (.cons .nmem (.v 1) .nil)) .nil)) (.k (.int 0))) (.n 8) .seq (.cons (.ix (.v 5) (.v 1)) .nil) .nil)) (.cons (.iff (.or (.cons (.cmp (.ix (.v 6) (.k (.int 0))) (.cons .eq (.ix (.v 6) (.k (.int 1))) .nil)) (.cons (.cmp (.blt .tuple (.cons (.blt .sorted (.cons (.v 6) .nil)) .nil)) (.cons .mem (.v 5) .nil)) (.cons (.cmp (.blt .tuple (.cons (.blt .sorted (.cons (.v 6) .nil)) .nil)) (.cons .mem (.call c_law_rim (.ex (.v 2) .nil)) .nil)) .nil)))) (.cons (.ret (.v 0)) .nil) .nil) (.cons (.set 9 (.comp (.v 11) (.t [(.n 10), (.n 11)]) .enum (.cons (.v 4) .nil) (.cons (.cmp (.v 10) (.cons .nmem (.ix (.v 5) (.v 1)) .nil)) .nil))) (.cons (.set 9 (.bin .add (.v 9) (.lst (.cons (.blt .tuple (.cons (.blt .sorted (.cons (.bin .add (.lst (.cons (.ix (.v 1) (.k (.int 0))) .nil)) (.v 6)) .nil)) .nil)) (.cons (.blt .tuple (.cons (.blt .sorted (.cons (.bin .add (.lst (.cons (.ix (.v 1) (.k (.int 1))) .nil)) (.v 6)) .nil)) .nil)) .nil))))) (.cons (.ret (.tup (.cons (.v 2) (.cons (.v 3) (.cons (.blt .tuple (.cons (.blt .sorted (.cons (.v 9) .nil)) .nil)) .nil))))) .nil))))))))
abbrev F_law_flipped (F : List Fn) (c_law_rim c_law_ties : Nat) : Fn := fnOf F 12 (X_law_flipped c_law_rim c_law_ties)
-- for step in range(_law_pick(source, most + 1))
def W1_law_drawF (c_law_cone c_law_flipped c_law_parted c_law_ties : Nat) : Sxs := (.cons (.iff (.cmp (.call 0 (.src 0 (.ex (.k (.int 2)) .nil))) (.cons .eq (.k (.int 0)) .nil)) (.cons (.set 2 (.call c_law_parted (.ex (.v 2) (.ex (.call 0 (.src 0 (.ex (.blt .len (.cons (.ix (.v 2) (.k (.int 2))) .nil)) .nil))) .nil)))) .nil) (.cons (.set 4 (.blt .sorted (.cons (.blt .list (.cons (.call c_law_ties (.ex (.ix (.v 2) (.k (.int 2))) .nil)) .nil)) .nil))) (.cons (.set 2 (.call c_law_flipped (.ex (.v 2) (.ex (.ix (.v 4) (.call 0 (.src 0 (.ex (.blt .len (.cons (.v 4) .nil)) .nil)))) .nil)))) .nil))) .nil)
-- _law_draw slots 0:source 1:most 2:here 3:step 4:ties
def X_law_drawF (c_law_cone c_law_flipped c_law_parted c_law_ties : Nat) : Sxs := (.cons (.set 2 (.call c_law_cone (.ex (.bin .add (.k (.int 2)) (.call 0 (.src 0 (.ex (.k (.int 4)) .nil)))) .nil))) (.cons (.for (.n 3) .rng1 (.cons (.call 0 (.src 0 (.ex (.bin .add (.v 1) (.k (.int 1))) .nil))) .nil) (W1_law_drawF c_law_cone c_law_flipped c_law_parted c_law_ties)) (.cons (.ret (.v 2)) .nil)))
abbrev F_law_drawF (F : List Fn) (c_law_cone c_law_flipped c_law_parted c_law_ties : Nat) : Fn := fnOf F 5 (X_law_drawF c_law_cone c_law_flipped c_law_parted c_law_ties)
-- for k in range(1, h)
def W1_law_labels : Sxs := (.cons (.set 8 (.comp (.v 9) (.n 9) .rng2 (.cons (.bin .sub (.k (.int 0)) (.v 2)) (.cons (.bin .add (.v 2) (.k (.int 1))) .nil)) (.cons (.cmp (.v 9) (.cons .nmem (.tup (.cons (.k (.int 0)) (.cons (.bin .sub (.k (.int 0)) (.ix (.v 6) (.neg (.k (.int 1))))) .nil))) .nil)) .nil))) (.cons (.iff (.cmp (.v 7) (.cons .eq (.bin .sub (.v 3) (.k (.int 1))) .nil)) (.cons (.set 8 (.comp (.v 9) (.n 9) .seq (.cons (.v 8) .nil) (.cons (.cmp (.v 9) (.cons .ne (.ix (.v 6) (.k (.int 0))) .nil)) .nil))) .nil) .nil) (.cons (.app 6 (.ix (.v 8) (.call 0 (.src 0 (.ex (.blt .len (.cons (.v 8) .nil)) .nil))))) .nil)))
-- _law_labels slots 0:source 1:filling 2:most 3:h 4:n 5:triangles 6:half 7:k 8:some 9:x 10:rest
def X_law_labels : Sxs := (.cons (.unp (.t [(.n 3), (.n 4), (.n 5)]) (.v 1)) (.cons (.set 6 (.lst (.cons (.bin .mul (.bin .add (.k (.int 1)) (.call 0 (.src 0 (.ex (.v 2) .nil)))) (.bin .sub (.k (.int 1)) (.bin .mul (.k (.int 2)) (.call 0 (.src 0 (.ex (.k (.int 2)) .nil)))))) .nil))) (.cons (.for (.n 7) .rng2 (.cons (.k (.int 1)) (.cons (.v 3) .nil)) (W1_law_labels)) (.cons (.set 10 (.comp (.bin .mul (.bin .add (.k (.int 1)) (.call 0 (.src 0 (.ex (.v 2) .nil)))) (.bin .sub (.k (.int 1)) (.bin .mul (.k (.int 2)) (.call 0 (.src 0 (.ex (.k (.int 2)) .nil)))))) (.n 7) .rng1 (.cons (.bin .sub (.v 4) (.bin .mul (.k (.int 2)) (.v 3))) .nil) .nil)) (.cons (.ret (.blt .tuple (.cons (.bin .add (.bin .add (.v 6) (.comp (.bin .sub (.k (.int 0)) (.v 9)) (.n 9) .seq (.cons (.v 6) .nil) .nil)) (.v 10)) .nil))) .nil)))))
abbrev F_law_labels (F : List Fn) : Fn := fnOf F 11 (X_law_labels)
-- _law_is_door slots 0:x 1:y
def X_law_is_door : Sxs := (.cons (.ret (.and (.cons (.cmp (.bin .mul (.v 0) (.v 1)) (.cons .lt (.k (.int 0)) .nil)) (.cons (.cmp (.blt .abs (.cons (.v 0) .nil)) (.cons .ne (.blt .abs (.cons (.v 1) .nil)) .nil)) (.cons (.cmp (.cmp (.v 0) (.cons .gt (.k (.int 0)) .nil)) (.cons .eq (.cmp (.blt .abs (.cons (.v 0) .nil)) (.cons .lt (.blt .abs (.cons (.v 1) .nil)) .nil)) .nil)) .nil))))) .nil)
abbrev F_law_is_door (F : List Fn) : Fn := fnOf F 2 (X_law_is_door)
end DT

/-! Fillings: ties, rims. -/
namespace DT
open PySem
local macro_rules | `(tactic| o_reads) => `(tactic| first | exact e_v rfl | exact e_k | exact e_nil | exact r_nil | exact p_abs | exact e_dnew | with_reducible refine' e_cons ?_ ?_ | with_reducible refine' r_ex ?_ ?_ | with_reducible refine' r_src rfl ?_ | with_reducible refine' e_tup ?_ | with_reducible refine' e_lst ?_ | with_reducible refine' e_bin ?_ ?_ ?_ | with_reducible refine' e_neg ?_ | with_reducible refine' e_not ?_ | with_reducible refine' e_and ?_ | with_reducible refine' e_or ?_ | with_reducible refine' a_one ?_ | with_reducible refine' a_cons ?_ fun _ => ?_ | with_reducible refine' o_one ?_ | with_reducible refine' o_cons ?_ fun _ => ?_ | with_reducible refine' e_cmp ?_ ?_ ?_ | with_reducible refine' e_ix ?_ ?_ ?_ | with_reducible refine' e_sl ?_ ?_ ?_ ?_ | with_reducible refine' p_int (by intro z; cases z) ?_ | with_reducible refine' e_rev ?_ ?_ | with_reducible refine' e_blt ?_ ?_ | with_reducible refine' e_meth ?_ ?_ ?_ | with_reducible refine' e_disp ?_ ?_ | with_reducible refine' e_sabs ?_ ?_ | with_reducible refine' e_call ?_ rfl ?_ | with_reducible exact c_eq_nat _ _ | with_reducible exact c_ne_nat _ _ | with_reducible exact c_lt_nat _ _ | with_reducible exact c_le_nat _ _ | with_reducible exact c_gt_nat _ _ | with_reducible exact c_ge_nat _ _ | with_reducible exact c_eq_int _ _ | with_reducible exact c_ne_int _ _ | exact rfl)
local macro_rules | `(tactic| close_w) => `(tactic| repeat' o_reads)
theorem x_six0 {F : List Fn} {ρ ρ1 : Rho} {g g1 g2 : PState} {d y : D} {e k : Ex} {i : Nat} {kvs : List (D × D)} (h1 : ev F e ρ g = some (d, g1)) (h2 : ev F k ρ g1 = some (y, g2)) (he : escV e d = []) (hs : ρ[i]? = some (some (.d true (.dict kvs)))) (ok : sixOk kvs y = true)
    (hr : ρ.set i (some (.d true (.dict (dPut kvs y d)))) = ρ1) : ex F (.six i k e) ρ g = some ((.nx, ρ1), g2) := by
  refine x_six h1 h2 ?_ ok ?_
  · rw [he]
    exact hs
  · rw [he]
    exact hr
abbrev Tri := Nat × Nat × Nat
def triD (t : Tri) : D := .tuple [natD t.1, natD t.2.1, natD t.2.2]
theorem tri_srt : SrtOk triD := ⟨fun _ _ => rfl, fun _ => ⟨_, _, rfl⟩, fun _ => rfl, fun _ => (by decide : 1 ≤ 64)⟩
def tiesT (t : Tri) : List Tie := [(t.1, t.2.1), (t.1, t.2.2), (t.2.1, t.2.2)]
structure Fil where
  h : Nat
  n : Nat
  T : List Tri
def filD (f : Fil) : D := .tuple [natD f.h, natD f.n, .tuple (f.T.map triD)]
def rimL (h : Nat) : List Tie := (List.range (2 * h - 1)).map (fun k => (k, k + 1)) ++ [(0, 2 * h - 1)]
def rimS (h : Nat) : List Tie := srt tieD (rimL h)
section
variable {F : List Fn}
def SpTies (f : Fn) : Prop := ∀ (t : Tri) (g : PState), f [some (triD t)] g = some (.list ((tiesT t).map tieD), g)
theorem ties_sp : SpTies (F_ties_of_triangle F) := fun t g => by
  apply fn_eq
  · refine' x_cons (x_unp (e_v rfl) rfl) (x_stop (x_retE _))
    close_w
  · rfl
def SpRimL (f : Fn) : Prop := ∀ h, 1 ≤ h → h ≤ 1000 → ∀ g, f [some (natD h)] g = some (.list ((rimS h).map tieD), g)
theorem rim_ev {ρ : Rho} {g : PState} {h : Nat} (h1 : 1 ≤ h) (h2 : h ≤ 1000) (e : getV ρ 0 = some (natD h)) (e' : ∀ k : Nat, getV (inC (.cons (.bin .sub (.bin .mul (.k (.int 2)) (.v 0)) (.k (.int 1))) .nil) ρ 1 (natD k)) 1 = some (natD k)) :
    ev F (.blt .sorted (.cons (.bin .add (.comp (.tup (.cons (.v 1) (.cons (.bin .add (.v 1) (.k (.int 1))) .nil))) (.n 1) .rng1 (.cons (.bin .sub (.bin .mul (.k (.int 2)) (.v 0)) (.k (.int 1))) .nil) .nil) (.lst (.cons (.tup (.cons (.k (.int 0)) (.cons (.bin .sub (.bin .mul (.k (.int 2)) (.v 0)) (.k (.int 1))) .nil))) .nil))) .nil)) ρ g = some (.list ((rimS h).map tieD), g) := by
  have hm : ev F (.bin .sub (.bin .mul (.k (.int 2)) (.v 0)) (.k (.int 1))) ρ g = some (natD (2 * h - 1), g) :=
    e_bin (e_bin (x := natD 2) e_k (e_v e) (mulN (by decide))) (y := natD 1) e_k (subN (by omega))
  refine e_blt (e_cons (e_bin (e_mapV (l := List.range (2 * h - 1)) (h := natD) (f := fun k => tieD (k, k + 1)) (e_cons hm e_nil) (it_rng (by unfold LINE; omega)) fun k _ => ?_) (e_lst (e_cons (e_tup (e_cons e_k (e_cons hm e_nil))) e_nil)) (catL ?_)) e_nil) ?_
  · exact e_tup (e_cons (e_v (e' k)) (e_cons (e_bin (y := natD 1) (e_v (e' k)) e_k (addN k 1)) e_nil))
  · rw [List.length_map, List.length_range]
    show 2 * h - 1 + 1 ≤ LINE
    unfold LINE
    omega
  · have z : ((List.range (2 * h - 1)).map fun k => tieD (k, k + 1)) ++ [PyData.tuple [PyData.int 0, natD (2 * h - 1)]] = (rimL h).map tieD := by
      unfold rimL
      rw [List.map_append, List.map_map]
      rfl
    rw [z]
    exact sortedL tie_srt _
theorem rim_sp : SpRimL (F_rim_of F) := fun h h1 h2 g => fn_go (x_stop (x_retE (rim_ev h1 h2 rfl fun k => rfl)))
theorem lrim_sp : SpRimL (F_law_rim F) := fun h h1 h2 g => fn_go (x_stop (x_retE (rim_ev h1 h2 rfl fun k => rfl)))
/-! ### counts of ties -/
def addA (A : List (Tie × Nat)) (e : Tie) : List (Tie × Nat) := putA A e ((getA A e).getD 0 + 1)
def cntL (es : List Tie) : List (Tie × Nat) := es.foldl addA []
theorem cntL_snoc (es : List Tie) (e : Tie) : cntL (es ++ [e]) = addA (cntL es) e := by
  unfold cntL
  rw [List.foldl_append]
  rfl
theorem cntL_keys (es : List Tie) : (cntL es).map (·.1) = dedK es := by
  have go : ∀ (es : List Tie) (A : List (Tie × Nat)), (es.foldl addA A).map (·.1) = es.foldl dedF (A.map (·.1)) := by
    intro es
    induction es with
    | nil => intro A; rfl
    | cons e r ih =>
      intro A
      rw [List.foldl_cons, List.foldl_cons, ih]
      congr 1
      exact putA_keys A e _
  exact go es []
theorem cntL_len (es : List Tie) : (cntL es).length ≤ es.length := by
  have := dedK_le es
  rw [← cntL_keys, List.length_map] at this
  exact this
def SpCounts (f : Fn) : Prop := ∀ T : List Tri, T.length ≤ 1000 → ∀ g, f [some (.tuple (T.map triD))] g = some (dictD natD (cntL (T.flatMap tiesT)), g)
theorem cnt_in {c : Nat} {g : PState} {o0 o2 : Option Sl} : ∀ (es pre : List Tie) (o3 : Option Sl), pre.length + es.length ≤ 4000 → ∃ o3', forL (fun ρ x => bnd (ofO (bindT (.n 3) x ρ)) fun ρ' => exs F (W1_tie_counts c) ρ') (es.map tieD) [o0, some (.d true (dictD natD (cntL pre))), o2, o3] g = some ((.nx, [o0, some (.d true (dictD natD (cntL (pre ++ es)))), o2, o3']), g)
  | [], pre, o3, _ => ⟨o3, by rw [List.append_nil]; rfl⟩
  | e :: es, pre, o3, h => by
    rw [List.length_cons] at h
    obtain ⟨o3', q⟩ := cnt_in (c := c) (g := g) (o0 := o0) (o2 := o2) es (pre ++ [e]) (some (.d false (tieD e))) (by rw [List.length_append]; show pre.length + 1 + es.length ≤ 4000; omega)
    rw [List.append_assoc] at q
    refine ⟨o3', f_step (b_go rfl (x_cons (x_six0 (d := natD ((getA (cntL pre) e).getD 0 + 1)) (y := tieD e) (e_bin (e_meth (e_v rfl) (e_cons (e_v rfl) (e_cons e_k e_nil)) (get_tie _ _ _)) (y := natD 1) e_k ?_) (e_v rfl) rfl rfl (six_tie _ _ ?_) rfl) x_nil)) ?_⟩
    · have z : ((getA (cntL pre) e).map natD).getD (.int 0) = natD ((getA (cntL pre) e).getD 0) := by cases getA (cntL pre) e <;> rfl
      rw [z]
      exact addN _ 1
    · have := cntL_len pre
      unfold LINE
      omega
    · rw [cntL_snoc] at q
      rw [dPut_tie]
      exact q
theorem counts_sp {c : Nat} (hc : At F c SpTies) : SpCounts (F_tie_counts F c) := fun T hT g => by
  obtain ⟨_, c1, c2⟩ := hc
  have out : ∀ (l pre : List Tri) (o2 o3 : Option Sl), pre.length + l.length ≤ 1000 → ∃ o2' o3', forL (fun ρ x => bnd (ofO (bindT (.n 2) x ρ)) fun ρ' => exs F (W2_tie_counts c) ρ') (l.map triD) [some (.d false (.tuple (T.map triD))), some (.d true (dictD natD (cntL (pre.flatMap tiesT)))), o2, o3] g = some ((.nx, [some (.d false (.tuple (T.map triD))), some (.d true (dictD natD (cntL ((pre ++ l).flatMap tiesT)))), o2', o3']), g) := by
    intro l
    induction l with
    | nil => exact fun pre o2 o3 _ => ⟨o2, o3, by rw [List.append_nil]; rfl⟩
    | cons t l ih =>
      intro pre o2 o3 h
      rw [List.length_cons] at h
      have l3 : ∀ l : List Tri, (l.flatMap tiesT).length = 3 * l.length := fun l => by
        induction l with
        | nil => rfl
        | cons a l ih => rw [List.flatMap_cons, List.length_append, ih, List.length_cons]; show 3 + _ = _; omega
      obtain ⟨o3', q1⟩ := cnt_in (F := F) (c := c) (g := g) (o0 := some (.d false (.tuple (T.map triD)))) (o2 := some (.d false (triD t))) (tiesT t) (pre.flatMap tiesT) o3 (by rw [l3]; show 3 * pre.length + 3 ≤ 4000; omega)
      obtain ⟨o2'', o3'', q2⟩ := ih (pre ++ [t]) (some (.d false (triD t))) o3' (by rw [List.length_append]; show pre.length + 1 + l.length ≤ 1000; omega)
      rw [List.append_assoc] at q2
      refine ⟨o2'', o3'', f_step (b_go rfl (x_cons (x_for (e_cons (e_call (r_ex (e_v rfl) r_nil) c1 (c2 t g)) e_nil) rfl q1) x_nil)) ?_⟩
      rw [List.flatMap_append] at q2
      have z : [t].flatMap tiesT = tiesT t := by simp
      rw [z] at q2
      exact q2
  obtain ⟨o2', o3', q⟩ := out T [] none none (by simpa using hT)
  exact fn_go (x_cons (x_set e_dnew rfl) (x_cons (x_for (e_cons (e_v rfl) e_nil) rfl q) (x_stop (x_retE (e_v rfl)))))
def SpRimT (f : Fn) : Prop := ∀ w : Fil, 1 ≤ w.h → w.h ≤ 1000 → ∀ g, f [some (filD w)] g = some (.tuple ((rimS w.h).map tieD), g)
theorem rimT_sp {c : Nat} (hc : At F c SpRimL) : SpRimT (F_rim_ties F c) := fun w h1 h2 g => by
  obtain ⟨_, c1, c2⟩ := hc
  exact fn_go (x_stop (x_retE (e_blt (e_cons (e_call (r_ex (e_ix (e_v rfl) e_k rfl) r_nil) c1 (c2 w.h h1 h2 g)) e_nil) rfl)))
/-- all ties of triangles, in the order in which they come -/
def tksT (T : List Tri) : List Tie := dedK (T.flatMap tiesT)
def SpAll (f : Fn) : Prop := ∀ w : Fil, w.T.length ≤ 1000 → ∀ g, f [some (filD w)] g = some (.tuple ((srt tieD (tksT w.T)).map tieD), g)
theorem all_sp {c : Nat} (hc : At F c SpCounts) : SpAll (F_all_ties F c) := fun w hT g => by
  obtain ⟨_, c1, c2⟩ := hc
  refine fn_go (x_stop (x_retE (e_blt (e_cons (e_blt (e_cons (e_call (r_ex (e_ix (e_v rfl) e_k rfl) r_nil) c1 (c2 w.T hT g)) e_nil) (sorted_tie _)) e_nil) ?_)))
  rw [cntL_keys]
  rfl
def SpOpp (f : Fn) : Prop := ∀ (w : Fil) (k : Nat), 1 ≤ w.h → w.h ≤ 1000 → ∀ g, f [some (filD w), some (natD k)] g = some (natD ((k + w.h) % (2 * w.h)), g)
theorem opp_sp : SpOpp (F_opposite_point F) := fun w k h1 h2 g =>
  fn_go (x_stop (x_retE (e_bin (e_bin (e_v rfl) (e_ix (e_v rfl) e_k rfl) (addN k w.h)) (e_bin (x := natD 2) e_k (e_ix (e_v rfl) e_k rfl) (mulN (by decide))) (modN (by omega)))))
/-! ### ties with the numbers of their triangles -/
def lstN (l : List Nat) : D := .list (l.map natD)
theorem flat_nat : ∀ l : List Nat, noMuts (l.map natD) = true
  | [] => rfl
  | a :: l => by
    rw [List.map_cons, noMuts, flat_nat l]
    rfl
theorem escV_nat {e : Ex} (h : fresh e = true) (l : List Nat) : escV e (lstN l) = [] := by
  unfold escV
  rw [if_pos]
  show (noMut (.list (l.map natD)) || (fresh e && noMuts (l.map natD))) = true
  rw [flat_nat, h]
  rfl
def grpP (A : List (Tie × List Nat)) (p : Tie × Nat) : List (Tie × List Nat) := putA A p.1 ((getA A p.1).getD [] ++ [p.2])
def grp (P : List (Tie × Nat)) : List (Tie × List Nat) := P.foldl grpP []
theorem grp_snoc (P : List (Tie × Nat)) (p : Tie × Nat) : grp (P ++ [p]) = grpP (grp P) p := by
  unfold grp
  rw [List.foldl_append]
  rfl
theorem grp_keys (P : List (Tie × Nat)) : (grp P).map (·.1) = dedK (P.map (·.1)) := by
  have go : ∀ (P : List (Tie × Nat)) (A : List (Tie × List Nat)), (P.foldl grpP A).map (·.1) = (P.map (·.1)).foldl dedF (A.map (·.1)) := by
    intro es
    induction es with
    | nil => intro A; rfl
    | cons e r ih =>
      intro A
      rw [List.foldl_cons, List.map_cons, List.foldl_cons, ih]
      congr 1
      exact putA_keys A e.1 _
  exact go P []
theorem grp_len (P : List (Tie × Nat)) : (grp P).length ≤ P.length := by
  have := dedK_le (P.map (·.1))
  rw [← grp_keys, List.length_map, List.length_map] at this
  exact this
theorem grp_get (P : List (Tie × Nat)) (e : Tie) : (getA (grp P) e).getD [] = (P.filter fun p => decide (p.1 = e)).map (·.2) := by
  have go : ∀ (P : List (Tie × Nat)) (A : List (Tie × List Nat)), (getA (P.foldl grpP A) e).getD [] = (getA A e).getD [] ++ (P.filter fun p => decide (p.1 = e)).map (·.2) := by
    intro P
    induction P with
    | nil => intro A; simp
    | cons p r ih =>
      intro A
      rw [List.foldl_cons, ih]
      unfold grpP
      rw [getA_put, List.filter_cons]
      by_cases c : e = p.1
      · subst c
        rw [if_pos rfl, if_pos (decide_eq_true rfl), List.map_cons, Option.getD_some, List.append_assoc]
        rfl
      · rw [if_neg c, if_neg (by simpa using fun z => c z.symm)]
  exact go P []
theorem grp_at {P : List (Tie × Nat)} {e : Tie} (h : e ∈ P.map (·.1)) : getA (grp P) e = some ((P.filter fun p => decide (p.1 = e)).map (·.2)) := by
  have h1 : (getA (grp P) e).isSome = true := getA_mem.mpr (by rw [grp_keys, dedK_mem]; exact h)
  obtain ⟨v, hv⟩ := Option.isSome_iff_exists.mp h1
  have := grp_get P e
  rw [hv] at this
  rw [hv, ← this]
  rfl
/-- each tie with each triangle that has it -/
def prsT (T : List (Tri × Nat)) : List (Tie × Nat) := T.flatMap fun p => (tiesT p.1).map fun e => (e, p.2)
theorem prsT_fst (T : List (Tri × Nat)) : (prsT T).map (·.1) = (T.map (·.1)).flatMap tiesT := by
  induction T with
  | nil => rfl
  | cons p T ih =>
    have e1 : prsT (p :: T) = (tiesT p.1).map (fun e => (e, p.2)) ++ prsT T := rfl
    rw [e1, List.map_append, ih, List.map_cons, List.flatMap_cons, List.map_map]
    rfl
def SpLTies (f : Fn) : Prop := ∀ T : List Tri, T.length ≤ 1000 → ∀ g, f [some (.tuple (T.map triD))] g = some (dictD lstN (grp (prsT T.zipIdx)), g)
theorem lt_in {g : PState} {t : Nat} {o0 o3 o4 o5 : Option Sl} : ∀ (es : List Tie) (P : List (Tie × Nat)) (o6 : Option Sl), P.length + es.length ≤ 4000 → ∃ o6', forL (fun ρ x => bnd (ofO (bindT (.n 6) x ρ)) fun ρ' => exs F W1_law_ties ρ') (es.map tieD) [o0, some (.d true (dictD lstN (grp P))), some (.d false (natD t)), o3, o4, o5, o6] g = some ((.nx, [o0, some (.d true (dictD lstN (grp (P ++ es.map fun e => (e, t))))), some (.d false (natD t)), o3, o4, o5, o6']), g)
  | [], P, o6, _ => ⟨o6, by
    have z : P ++ ([] : List Tie).map (fun e => (e, t)) = P := List.append_nil P
    rw [z]
    rfl⟩
  | e :: es, P, o6, h => by
    rw [List.length_cons] at h
    obtain ⟨o6', q⟩ := lt_in (g := g) (t := t) (o0 := o0) (o3 := o3) (o4 := o4) (o5 := o5) es (P ++ [(e, t)]) (some (.d false (tieD e))) (by rw [List.length_append]; show P.length + 1 + es.length ≤ 4000; omega)
    rw [List.append_assoc] at q
    have gl : ((getA (grp P) e).getD []).length ≤ P.length := by
      rw [grp_get, List.length_map]
      exact List.length_filter_le _ _
    refine ⟨o6', f_step (b_go rfl (x_cons (x_six0 (d := lstN ((getA (grp P) e).getD [] ++ [t])) (y := tieD e) (e_bin (e_meth (e_v rfl) (e_cons (e_v rfl) (e_cons (e_lst e_nil) e_nil)) (get_tie _ _ _)) (e_lst (e_cons (e_v rfl) e_nil)) ?_) (e_v rfl) (escV_nat rfl _) rfl (six_tie _ _ ?_) rfl) x_nil)) ?_⟩
    · have z : ((getA (grp P) e).map lstN).getD (.list []) = lstN ((getA (grp P) e).getD []) := by cases getA (grp P) e <;> rfl
      rw [z]
      refine (catL ?_).trans ?_
      · rw [List.length_map]
        show _ + 1 ≤ LINE
        unfold LINE
        omega
      · unfold lstN
        rw [List.map_append]
        rfl
    · have := grp_len P
      unfold LINE
      omega
    · rw [grp_snoc] at q
      rw [dPut_tie]
      exact q
def enD (p : Tri × Nat) : D := .tuple [natD p.2, triD p.1]
theorem enum_tri (T : List Tri) : enumL (T.map triD) = T.zipIdx.map enD := by
  unfold enumL
  rw [List.zipIdx_map, List.map_map]
  rfl
theorem lties_sp : SpLTies (F_law_ties F) := fun T hT g => by
  have out : ∀ (l pre : List (Tri × Nat)) (o2 o3 o4 o5 o6 : Option Sl), pre.length + l.length ≤ 1000 → ∃ o2' o3' o4' o5' o6', forL (fun ρ x => bnd (ofO (bindT (.t [.n 2, .t [.n 3, .n 4, .n 5]]) x ρ)) fun ρ' => exs F W2_law_ties ρ') (l.map enD) [some (.d false (.tuple (T.map triD))), some (.d true (dictD lstN (grp (prsT pre)))), o2, o3, o4, o5, o6] g = some ((.nx, [some (.d false (.tuple (T.map triD))), some (.d true (dictD lstN (grp (prsT (pre ++ l))))), o2', o3', o4', o5', o6']), g) := by
    intro l
    induction l with
    | nil => exact fun pre o2 o3 o4 o5 o6 _ => ⟨o2, o3, o4, o5, o6, by rw [List.append_nil]; rfl⟩
    | cons t l ih =>
      intro pre o2 o3 o4 o5 o6 h
      rw [List.length_cons] at h
      have l3 : ∀ l : List (Tri × Nat), (prsT l).length = 3 * l.length := fun l => by
        induction l with
        | nil => rfl
        | cons a l ih =>
          have e1 : prsT (a :: l) = (tiesT a.1).map (fun e => (e, a.2)) ++ prsT l := rfl
          rw [e1, List.length_append, ih, List.length_cons]
          show 3 + _ = _
          omega
      obtain ⟨o6', q1⟩ := lt_in (F := F) (g := g) (t := t.2) (o0 := some (.d false (.tuple (T.map triD)))) (o3 := some (.d false (natD t.1.1))) (o4 := some (.d false (natD t.1.2.1))) (o5 := some (.d false (natD t.1.2.2))) (tiesT t.1) (prsT pre) o6 (by rw [l3]; show 3 * pre.length + 3 ≤ 4000; omega)
      obtain ⟨p2, p3, p4, p5, p6, q2⟩ := ih (pre ++ [t]) (some (.d false (natD t.2))) (some (.d false (natD t.1.1))) (some (.d false (natD t.1.2.1))) (some (.d false (natD t.1.2.2))) o6' (by rw [List.length_append]; show pre.length + 1 + l.length ≤ 1000; omega)
      rw [List.append_assoc] at q2
      refine ⟨p2, p3, p4, p5, p6, f_step (b_go rfl (x_cons (x_for (e_cons (e_tup (e_cons (e_tup (e_cons (e_v rfl) (e_cons (e_v rfl) e_nil))) (e_cons (e_tup (e_cons (e_v rfl) (e_cons (e_v rfl) e_nil))) (e_cons (e_tup (e_cons (e_v rfl) (e_cons (e_v rfl) e_nil))) e_nil)))) e_nil) rfl q1) x_nil)) ?_⟩
      have z : prsT (pre ++ [t]) = prsT pre ++ (tiesT t.1).map fun e => (e, t.2) := by
        unfold prsT
        rw [List.flatMap_append]
        simp
      rw [z] at q2
      exact q2
  obtain ⟨p2, p3, p4, p5, p6, q⟩ := out T.zipIdx [] none none none none none (by simpa using hT)
  exact fn_go (x_cons (x_set e_dnew rfl) (x_cons (x_for (e_cons (e_v rfl) e_nil) (congrArg some (enum_tri T)) q) (x_stop (x_retE (e_v rfl)))))
end
end DT

/-! Fillings: cones, points put in, ties turned. -/
namespace DT
open PySem
theorem shN (k : Nat) : SeqAt.shaped (natD k) = true := rfl
theorem shT (e : Tie) : SeqAt.shaped (tieD e) = true := rfl
theorem eqv_tie (a b : Tie) : PyData.eqv (tieD a) (tieD b) = decide (a = b) := by
  have h := eqv_lot [a.1, a.2] [b.1, b.2]
  have e1 : lotD [a.1, a.2] = tieD a := rfl
  have e2 : lotD [b.1, b.2] = tieD b := rfl
  rw [e1, e2] at h
  rw [h]
  refine decide_eq_decide.mpr ⟨fun z => ?_, fun z => by rw [z]⟩
  injection z with z1 z2
  injection z2 with z2 _
  exact Prod.ext z1 z2
theorem depth_map {α : Type} {h : α → D} {n : Nat} (hd : ∀ a, (h a).depth ≤ n) (l : List α) : PyData.depthAll (l.map h) ≤ n := depthAll_le fun d hd' => by
  obtain ⟨a, _, rfl⟩ := List.mem_map.mp hd'
  exact hd a
theorem shL {α : Type} {h : α → D} (hl : ∀ a, (h a).canLay0 = true) (hd : ∀ a, (h a).depth ≤ 60) (l : List α) : SeqAt.shaped (.list (l.map h)) = true := by
  unfold SeqAt.shaped
  rw [PyData.canLay0, lay_all hl, Bool.true_and, PyData.depth]
  have := depth_map hd l
  exact decide_eq_true (by omega)
theorem any_eqv {α : Type} [DecidableEq α] {h : α → D} (he : ∀ a b, PyData.eqv (h a) (h b) = decide (a = b)) (x : α) (l : List α) : ((l.map h).any fun z => PyData.eqv z (h x)) = decide (x ∈ l) := by
  rw [List.any_map]
  by_cases c : x ∈ l
  · rw [decide_eq_true c]
    exact List.any_eq_true.mpr ⟨x, c, by show PyData.eqv (h x) (h x) = true; rw [he]; exact decide_eq_true rfl⟩
  · rw [decide_eq_false c]
    refine List.any_eq_false.mpr fun y hy z => c ?_
    have z' : PyData.eqv (h y) (h x) = true := z
    rw [he] at z'
    exact of_decide_eq_true z' ▸ hy
theorem mem_mapL {α : Type} [DecidableEq α] {h : α → D} (he : ∀ a b, PyData.eqv (h a) (h b) = decide (a = b)) (hl : ∀ a, (h a).canLay0 = true) (hd : ∀ a, (h a).depth ≤ 60) (x : α) (l : List α) : memO (h x) (.list (l.map h)) = some (decide (x ∈ l)) := by
  have s1 : SeqAt.shaped (h x) = true := by
    unfold SeqAt.shaped
    rw [hl, Bool.true_and]
    exact decide_eq_true (Nat.le_trans (hd x) (by decide))
  show (if (SeqAt.shaped (h x) && SeqAt.shaped (.list (l.map h))) = true then some ((l.map h).any fun z => PyData.eqv z (h x)) else none) = _
  rw [s1, shL hl hd, any_eqv he]
  rfl
theorem mem_natL (x : Nat) (l : List Nat) : memO (natD x) (lstN l) = some (decide (x ∈ l)) := mem_mapL (h := natD) eqv_nat (fun _ => rfl) (fun _ => Nat.zero_le _) x l
theorem mem_tieL (x : Tie) (l : List Tie) : memO (tieD x) (.list (l.map tieD)) = some (decide (x ∈ l)) := (mem_mapL eqv_tie (fun _ => rfl) (fun _ => (by decide : 1 ≤ 60)) x l).trans (congrArg some (decide_eq_decide.mpr Iff.rfl))
theorem mem_tieN (x : Nat) (e : Tie) : memO (natD x) (tieD e) = some (decide (x ∈ [e.1, e.2])) := by
  show (if (SeqAt.shaped (natD x) && SeqAt.shaped (tieD e)) = true then some (([e.1, e.2].map natD).any fun z => PyData.eqv z (natD x)) else none) = _
  rw [shN, shT, any_eqv eqv_nat]
  rfl
theorem tupleL (xs : List D) : bltO .tuple [.list xs] = some (.tuple xs) := rfl
/-! ### drawn fillings: the defs -/
/-- the triangles whose numbers are let -/
def dropS (T : List Tri) (q : Nat → Bool) : List Tri := (T.zipIdx.filter fun p => q p.2).map (·.1)
theorem dropS_len (T : List Tri) (q : Nat → Bool) : (dropS T q).length ≤ T.length := by
  unfold dropS
  rw [List.length_map]
  exact Nat.le_trans (List.length_filter_le _ _) (by rw [List.length_zipIdx]; exact Nat.le_refl _)
def coneF (h : Nat) : Fil := ⟨h, 2 * h + 1, srt triD ((rimS h).map fun e => (e.1, e.2, 2 * h))⟩
def partF (w : Fil) (i : Nat) (t : Tri) : Fil := ⟨w.h, w.n + 1, srt triD (dropS w.T (fun k => !decide (k = i)) ++ [(t.1, t.2.1, w.n), (t.1, t.2.2, w.n), (t.2.1, t.2.2, w.n)])⟩
section
variable {F : List Fn}
def SpCone (f : Fn) : Prop := ∀ h, 1 ≤ h → h ≤ 1000 → ∀ g, f [some (natD h)] g = some (filD (coneF h), g)
theorem cone_sp {c : Nat} (hc : At F c SpRimL) : SpCone (F_law_cone F c) := fun h h1 h2 g => by
  obtain ⟨_, c1, c2⟩ := hc
  refine fn_go (x_stop (x_retE (e_tup (e_cons (e_v rfl) (e_cons (e_bin (y := natD 1) (e_bin (x := natD 2) e_k (e_v rfl) (mulN (by decide))) e_k (addN _ 1)) (e_cons (e_blt (e_cons (e_blt (e_cons (e_mapA (l := rimS h) (h := tieD) (f := fun e : Tie => triD (e.1, e.2, 2 * h)) (e_cons (e_call (r_ex (e_v rfl) r_nil) c1 (c2 h h1 h2 g)) e_nil) rfl (fun _ _ => rfl) fun e _ => ?_) e_nil) ?_) e_nil) (tupleL _)) e_nil))))))
  · exact e_tup (e_cons (e_v rfl) (e_cons (e_v rfl) (e_cons (e_bin (x := natD 2) e_k (e_v rfl) (mulN (by decide))) e_nil)))
  · have z : (rimS h).map (fun e : Tie => triD (e.1, e.2, 2 * h)) = ((rimS h).map fun e => (e.1, e.2, 2 * h)).map triD := by
      rw [List.map_map]
      rfl
    rw [z]
    exact sortedL tri_srt _
def SpParted (f : Fn) : Prop := ∀ (w : Fil) (i : Nat) (t : Tri), w.T[i]? = some t → w.T.length ≤ 1000 → ∀ g, f [some (filD w), some (natD i)] g = some (filD (partF w i t), g)
theorem drop_ev {ρ : Rho} {g : PState} {T : List Tri} {c : Ex} {q : Nat → Bool} {ss : Exs} {i j : Nat} {bd : Tri × Nat → Rho} (h1 : ∃ xs, evs F ss ρ g = some (xs, g) ∧ itO .enum xs = some (T.zipIdx.map enD)) (hb : ∀ p : Tri × Nat, bindT (.t [.n i, .n j]) (enD p) (wipeR (freeze (escs ss) ρ) [i, j]) = some (bd p))
    (hc : ∀ p : Tri × Nat, ev F c (bd p) g = some (.bool (q p.2), g)) (he : ∀ p : Tri × Nat, getV (bd p) j = some (triD p.1)) : ev F (.comp (.v j) (.t [.n i, .n j]) .enum ss (.cons c .nil)) ρ g = some (.list ((dropS T q).map triD), g) := by
  obtain ⟨xs, e1, e2⟩ := h1
  refine ev_eq (e_filA (l := T.zipIdx) (h := enD) (p := fun p => q p.2) (f := fun p => triD p.1) e1 e2 (fun p _ => hb p) (fun p _ => hc p) fun p _ _ => e_v (he p)) ?_
  unfold dropS
  rw [List.map_map]
  rfl
theorem en_it {ρ : Rho} {g : PState} {T : List Tri} {e : Ex} (h : ev F e ρ g = some (.tuple (T.map triD), g)) : ∃ xs, evs F (.cons e .nil) ρ g = some (xs, g) ∧ itO .enum xs = some (T.zipIdx.map enD) := ⟨_, e_cons h e_nil, congrArg some (enum_tri T)⟩
theorem parted_sp : SpParted (F_law_parted F) := fun w i t ht hl g => by
  have e8 : (dropS w.T (fun k => !decide (k = i))).map triD ++ [PyData.tuple [natD t.1, natD t.2.1, natD w.n], PyData.tuple [natD t.1, natD t.2.2, natD w.n], PyData.tuple [natD t.2.1, natD t.2.2, natD w.n]] = (dropS w.T (fun k => !decide (k = i)) ++ [(t.1, t.2.1, w.n), (t.1, t.2.2, w.n), (t.2.1, t.2.2, w.n)]).map triD := by
    rw [List.map_append]
    rfl
  refine fn_go (x_cons (x_unp (e_v rfl) rfl) (x_cons (x_unp (d := triD t) (ρ1 := [some (.d false (filD w)), some (.d false (natD i)), some (.d false (natD w.h)), some (.d false (natD w.n)), some (.d false (.tuple (w.T.map triD))), some (.d false (natD t.1)), some (.d false (natD t.2.1)), some (.d false (natD t.2.2)), none, none, none]) (e_ix (e_v rfl) (e_v rfl) (ix_tup rfl ht)) rfl) (x_cons (x_set (d := .list ((dropS w.T (fun k => !decide (k = i)) ++ [(t.1, t.2.1, w.n), (t.1, t.2.2, w.n), (t.2.1, t.2.2, w.n)]).map triD)) (ρ1 := [some (.d false (filD w)), some (.d false (natD i)), some (.d false (natD w.h)), some (.d false (natD w.n)), some (.d false (.tuple (w.T.map triD))), some (.d false (natD t.1)), some (.d false (natD t.2.1)), some (.d false (natD t.2.2)), some (.d true (.list ((dropS w.T (fun k => !decide (k = i)) ++ [(t.1, t.2.1, w.n), (t.1, t.2.2, w.n), (t.2.1, t.2.2, w.n)]).map triD))), none, none])
    (ev_eq (e_bin (drop_ev (T := w.T) (q := fun k => !decide (k = i)) (en_it (e_v rfl)) (fun _ => rfl) (fun p => ?_) fun _ => rfl) (e_lst (e_cons (e_tup (e_cons (e_v rfl) (e_cons (e_v rfl) (e_cons (e_v rfl) e_nil)))) (e_cons (e_tup (e_cons (e_v rfl) (e_cons (e_v rfl) (e_cons (e_v rfl) e_nil)))) (e_cons (e_tup (e_cons (e_v rfl) (e_cons (e_v rfl) (e_cons (e_v rfl) e_nil)))) e_nil)))) (catL ?_)) (congrArg PyData.list e8)) rfl) (x_stop (x_retE (e_tup (e_cons (e_v rfl) (e_cons (e_bin (y := natD 1) (e_v rfl) e_k (addN _ 1)) (e_cons (e_blt (e_cons (e_blt (e_cons (e_v rfl) e_nil) (sortedL tri_srt _)) e_nil) (tupleL _)) e_nil)))))))))
  · exact e_cmp (e_v rfl) (e_v rfl) (c_ne_nat _ _)
  · have := dropS_len w.T (fun k => !decide (k = i))
    rw [List.length_map]
    show _ + 3 ≤ LINE
    unfold LINE
    omega
/-- numbers in their order -/
def nsort (l : List Nat) : List Nat := l.mergeSort fun a b => decide (a ≤ b)
theorem nsort_len (l : List Nat) : (nsort l).length = l.length := (List.mergeSort_perm l _).length_eq
def mm (a b : Nat) : Tie := ((nsort [a, b]).getD 0 0, (nsort [a, b]).getD 1 0)
def s3 (x a b : Nat) : Tri := ((nsort [x, a, b]).getD 0 0, (nsort [x, a, b]).getD 1 0, (nsort [x, a, b]).getD 2 0)
theorem mm_d (a b : Nat) : PyData.tuple ((nsort [a, b]).map natD) = tieD (mm a b) := by
  have h := nsort_len [a, b]
  unfold mm
  revert h
  generalize nsort [a, b] = l
  intro h
  match l, h with
  | [_, _], _ => rfl
theorem s3_d (x a b : Nat) : PyData.tuple ((nsort [x, a, b]).map natD) = triD (s3 x a b) := by
  have h := nsort_len [x, a, b]
  unfold s3
  revert h
  generalize nsort [x, a, b] = l
  intro h
  match l, h with
  | [_, _, _], _ => rfl
/-- the points of a triangle that a tie does not have -/
def apx (t : Tri) (e : Tie) : List Nat := [t.1, t.2.1, t.2.2].filter fun x => !decide (x ∈ [e.1, e.2])
/-- the numbers of the triangles that have a tie -/
def tsOf (T : List Tri) (e : Tie) : List Nat := ((prsT T.zipIdx).filter fun p => decide (p.1 = e)).map (·.2)
def endsF (T : List Tri) (e : Tie) : List Nat := (tsOf T e).map fun i => (apx (T.getD i (0, 0, 0)) e).headD 0
def flipF (w : Fil) (e : Tie) : Fil :=
  if (tsOf w.T e).length ≠ 2 then w else
  if (endsF w.T e).getD 0 0 = (endsF w.T e).getD 1 0 ∨ mm ((endsF w.T e).getD 0 0) ((endsF w.T e).getD 1 0) ∈ w.T.flatMap tiesT ∨ mm ((endsF w.T e).getD 0 0) ((endsF w.T e).getD 1 0) ∈ rimS w.h then w else
  ⟨w.h, w.n, srt triD (dropS w.T (fun k => !decide (k ∈ tsOf w.T e)) ++ [s3 e.1 ((endsF w.T e).getD 0 0) ((endsF w.T e).getD 1 0), s3 e.2 ((endsF w.T e).getD 0 0) ((endsF w.T e).getD 1 0)])⟩
/-- each triangle with the tie has a point more -/
def ApxOk (T : List Tri) (e : Tie) : Prop := ∀ i, i ∈ tsOf T e → ∃ t, T[i]? = some t ∧ apx t e ≠ []
def SpFlip (f : Fn) : Prop := ∀ (w : Fil) (e : Tie), e ∈ w.T.flatMap tiesT → ApxOk w.T e → 1 ≤ w.h → w.h ≤ 1000 → w.T.length ≤ 1000 → ∀ g, f [some (filD w), some (tieD e)] g = some (filD (flipF w e), g)
theorem len2 {l : List Nat} (h : l.length = 2) : l = [l.getD 0 0, l.getD 1 0] := by
  match l, h with
  | [_, _], _ => rfl
theorem flip_sp {c1 c2 : Nat} (hc1 : At F c1 SpRimL) (hc2 : At F c2 SpLTies) : SpFlip (F_law_flipped F c1 c2) := fun w e he hap h1 h2 hl g => by
  obtain ⟨_, r1, r2⟩ := hc1
  obtain ⟨_, t1, t2⟩ := hc2
  have hat : getA (grp (prsT w.T.zipIdx)) e = some (tsOf w.T e) := grp_at (by rw [prsT_fst, List.zipIdx_map_fst]; exact he)
  have e5 : ∀ {ρ : Rho} {f5 : Bool}, getV ρ 5 = some (dictD lstN (grp (prsT w.T.zipIdx))) → getV ρ 1 = some (tieD e) → ev F (.ix (.v 5) (.v 1)) ρ g = some (lstN (tsOf w.T e), g) := fun h5 h1 => e_ix (e_v h5) (e_v h1) (ix_tie hat)
  unfold flipF
  by_cases hn : (tsOf w.T e).length ≠ 2
  · rw [if_pos hn]
    refine fn_go (x_cons (x_unp (e_v rfl) rfl) (x_cons (x_set (ρ1 := [some (.d false (filD w)), some (.d false (tieD e)), some (.d false (natD w.h)), some (.d false (natD w.n)), some (.d false (.tuple (w.T.map triD))), some (.d false (dictD lstN (grp (prsT w.T.zipIdx)))), none, none, none, none, none, none]) (e_call (r_ex (e_v rfl) r_nil) t1 (t2 w.T hl g)) rfl) (x_stop (x_iffT (ev_eq (e_cmp (y := natD 2) (e_blt (e_cons (e5 (f5 := false) rfl rfl) e_nil) (lenLN _)) e_k (c_ne_nat _ _)) ?_) (x_stop (x_retE (e_v rfl)))))))
    rw [List.length_map, decide_eq_false hn]
    rfl
  · rw [if_neg hn]
    have hn2 : (tsOf w.T e).length = 2 := Classical.byContradiction hn
    have en2 : (endsF w.T e).length = 2 := by
      unfold endsF
      rw [List.length_map, hn2]
    have hends : ∀ {ρ : Rho}, getV ρ 5 = some (dictD lstN (grp (prsT w.T.zipIdx))) → getV ρ 1 = some (tieD e) → (∀ i : Nat, ∀ x : Nat, let ρ' := inC (.cons (.ix (.v 5) (.v 1)) .nil) ρ 8 (natD i); getV ρ' 4 = some (.tuple (w.T.map triD)) ∧ getV ρ' 8 = some (natD i) ∧ (let ρ2 := inC (.cons (.ix (.v 4) (.v 8)) .nil) ρ' 7 (natD x); getV ρ2 7 = some (natD x) ∧ getV ρ2 1 = some (tieD e))) →
        ev F (.comp (.ix (.comp (.v 7) (.n 7) .seq (.cons (.ix (.v 4) (.v 8)) .nil) (.cons (.cmp (.v 7) (.cons .nmem (.v 1) .nil)) .nil)) (.k (.int 0))) (.n 8) .seq (.cons (.ix (.v 5) (.v 1)) .nil) .nil) ρ g = some (lstN (endsF w.T e), g) := fun {ρ} h5 h1 hρ => by
      refine ev_eq (e_mapV (l := tsOf w.T e) (h := natD) (f := fun i => natD ((apx (w.T.getD i (0, 0, 0)) e).headD 0)) (e_cons (e5 (f5 := false) h5 h1) e_nil) rfl fun i hi => ?_) ?_
      · obtain ⟨t, ht, ha⟩ := hap i hi
        have hg : w.T.getD i (0, 0, 0) = t := by
          rw [List.getD_eq_getElem?_getD, ht]
          rfl
        rw [hg]
        refine e_ix (e_filV (l := [t.1, t.2.1, t.2.2]) (h := natD) (f := natD) (p := fun x => !decide (x ∈ [e.1, e.2])) (e_cons (e_ix (e_v (hρ i 0).1) (e_v (hρ i 0).2.1) (ix_tup (f := triD) rfl ht)) e_nil) rfl (fun x _ => e_cmp (e_v (hρ i x).2.2.1) (e_v (hρ i x).2.2.2) (congrArg (Option.map not) (mem_tieN x e))) fun x _ _ => e_v (hρ i x).2.2.1) e_k ?_
        have ha' : ∃ y ys, apx t e = y :: ys := by
          cases q : apx t e with
          | nil => exact absurd q ha
          | cons y ys => exact ⟨y, ys, rfl⟩
        obtain ⟨y, ys, hy⟩ := ha'
        show ixO (.list ((apx t e).map natD)) (.int 0) = some (natD ((apx t e).headD 0))
        rw [hy]
        exact atI_nat' (i := 0) rfl
      · unfold endsF lstN
        rw [List.map_map]
        rfl
    have t0 : ∀ {ρ : Rho}, getV ρ 5 = some (dictD lstN (grp (prsT w.T.zipIdx))) → getV ρ 1 = some (tieD e) → ev F (.cmp (.blt .len (.cons (.ix (.v 5) (.v 1)) .nil)) (.cons .ne (.k (.int 2)) .nil)) ρ g = some (.bool false, g) := fun h5 h1 => by
      refine ev_eq (e_cmp (y := natD 2) (e_blt (e_cons (e5 (f5 := false) h5 h1) e_nil) (lenLN _)) e_k (c_ne_nat _ _)) ?_
      rw [List.length_map, hn2]
      rfl
    generalize hL : endsF w.T e = L at *
    have eL := len2 en2
    generalize hA : L.getD 0 0 = a at *
    generalize hB : L.getD 1 0 = b at *
    subst eL
    have srt2 : ∀ {ρ : Rho}, getV ρ 6 = some (lstN [a, b]) → ev F (.blt .tuple (.cons (.blt .sorted (.cons (.v 6) .nil)) .nil)) ρ g = some (tieD (mm a b), g) := fun h6 => by
      refine ev_eq (e_blt (e_cons (e_blt (e_cons (e_v h6) e_nil) (sortedN [a, b])) e_nil) rfl) ?_
      exact mm_d a b
    have cond : ∀ {ρ : Rho}, getV ρ 6 = some (lstN [a, b]) → getV ρ 5 = some (dictD lstN (grp (prsT w.T.zipIdx))) → getV ρ 2 = some (natD w.h) → ev F (.or (.cons (.cmp (.ix (.v 6) (.k (.int 0))) (.cons .eq (.ix (.v 6) (.k (.int 1))) .nil)) (.cons (.cmp (.blt .tuple (.cons (.blt .sorted (.cons (.v 6) .nil)) .nil)) (.cons .mem (.v 5) .nil)) (.cons (.cmp (.blt .tuple (.cons (.blt .sorted (.cons (.v 6) .nil)) .nil)) (.cons .mem (.call c1 (.ex (.v 2) .nil)) .nil)) .nil)))) ρ g = some (.bool (decide (a = b) || (decide (mm a b ∈ w.T.flatMap tiesT) || decide (mm a b ∈ rimS w.h))), g) := fun h6 h5 h2' => by
      refine e_or (o_cons (e_cmp (x := natD a) (y := natD b) (e_ix (e_v h6) e_k rfl) (e_ix (e_v h6) e_k rfl) (c_eq_nat a b)) fun _ => o_cons (e_cmp (srt2 h6) (e_v h5) ?_) fun _ => o_one (e_cmp (srt2 h6) (e_call (r_ex (e_v h2') r_nil) r1 (r2 w.h h1 h2 g)) (mem_tieL _ _)))
      refine (mem_tie _ _).trans (congrArg some ?_)
      refine Bool.eq_iff_iff.mpr (getA_mem.trans ?_)
      rw [grp_keys, dedK_mem, prsT_fst, List.zipIdx_map_fst, decide_eq_true_iff]
    by_cases hc : a = b ∨ mm a b ∈ w.T.flatMap tiesT ∨ mm a b ∈ rimS w.h
    · rw [if_pos hc]
      refine fn_go (x_cons (x_unp (e_v rfl) rfl) (x_cons (x_set (ρ1 := [some (.d false (filD w)), some (.d false (tieD e)), some (.d false (natD w.h)), some (.d false (natD w.n)), some (.d false (.tuple (w.T.map triD))), some (.d false (dictD lstN (grp (prsT w.T.zipIdx)))), none, none, none, none, none, none]) (e_call (r_ex (e_v rfl) r_nil) t1 (t2 w.T hl g)) rfl) (x_no (t0 rfl rfl) (x_cons (x_set (ρ1 := [some (.d false (filD w)), some (.d false (tieD e)), some (.d false (natD w.h)), some (.d false (natD w.n)), some (.d false (.tuple (w.T.map triD))), some (.d false (dictD lstN (grp (prsT w.T.zipIdx)))), some (.d true (lstN [a, b])), none, none, none, none, none]) (hends rfl rfl fun i x => ⟨rfl, rfl, rfl, rfl⟩) rfl) (x_stop (x_iffT (ev_eq (cond rfl rfl rfl) ?_) (x_stop (x_retE (e_v rfl)))))))))
      congr 1
      rcases hc with q | q | q
      · rw [decide_eq_true q]
        rfl
      · rw [decide_eq_true q, Bool.true_or, Bool.or_true]
      · rw [decide_eq_true q, Bool.or_true, Bool.or_true]
    · rw [if_neg hc]
      have hcf : (decide (a = b) || (decide (mm a b ∈ w.T.flatMap tiesT) || decide (mm a b ∈ rimS w.h))) = false := by
        rw [decide_eq_false fun z => hc (.inl z), decide_eq_false fun z => hc (.inr (.inl z)), decide_eq_false fun z => hc (.inr (.inr z))]
        rfl
      have s3e : ∀ {ρ : Rho} (i x : Nat), getV ρ 1 = some (tieD e) → getV ρ 6 = some (lstN [a, b]) → ixO (tieD e) (.int i) = some (natD x) → ev F (.blt .tuple (.cons (.blt .sorted (.cons (.bin .add (.lst (.cons (.ix (.v 1) (.k (.int i))) .nil)) (.v 6)) .nil)) .nil)) ρ g = some (triD (s3 x a b), g) := fun i x h1 h6 hi => by
        refine ev_eq (e_blt (e_cons (e_blt (e_cons (e_bin (e_lst (e_cons (e_ix (e_v h1) e_k hi) e_nil)) (e_v h6) (catL (by show 1 + 2 ≤ LINE; decide))) e_nil) (sortedN [x, a, b])) e_nil) rfl) ?_
        exact s3_d x a b
      have e9 : (dropS w.T (fun k => !decide (k ∈ tsOf w.T e))).map triD ++ [triD (s3 e.1 a b), triD (s3 e.2 a b)] = (dropS w.T (fun k => !decide (k ∈ tsOf w.T e)) ++ [s3 e.1 a b, s3 e.2 a b]).map triD := by
        rw [List.map_append]
        rfl
      refine fn_go (x_cons (x_unp (e_v rfl) rfl) (x_cons (x_set (ρ1 := [some (.d false (filD w)), some (.d false (tieD e)), some (.d false (natD w.h)), some (.d false (natD w.n)), some (.d false (.tuple (w.T.map triD))), some (.d false (dictD lstN (grp (prsT w.T.zipIdx)))), none, none, none, none, none, none]) (e_call (r_ex (e_v rfl) r_nil) t1 (t2 w.T hl g)) rfl) (x_no (t0 rfl rfl) (x_cons (x_set (ρ1 := [some (.d false (filD w)), some (.d false (tieD e)), some (.d false (natD w.h)), some (.d false (natD w.n)), some (.d false (.tuple (w.T.map triD))), some (.d false (dictD lstN (grp (prsT w.T.zipIdx)))), some (.d true (lstN [a, b])), none, none, none, none, none]) (hends rfl rfl fun i x => ⟨rfl, rfl, rfl, rfl⟩) rfl) (x_no (ev_eq (cond rfl rfl rfl) (congrArg _ hcf)) (x_cons (x_set (ρ1 := [some (.d false (filD w)), some (.d false (tieD e)), some (.d false (natD w.h)), some (.d false (natD w.n)), some (.d false (.tuple (w.T.map triD))), some (.d false (dictD lstN (grp (prsT w.T.zipIdx)))), some (.d true (lstN [a, b])), none, none, some (.d true (.list ((dropS w.T (fun k => !decide (k ∈ tsOf w.T e))).map triD))), none, none]) (drop_ev (T := w.T) (q := fun k => !decide (k ∈ tsOf w.T e)) (en_it (e_v rfl)) (fun _ => rfl) (fun p => ?_) fun _ => rfl) rfl) (x_cons (x_set (d := .list ((dropS w.T (fun k => !decide (k ∈ tsOf w.T e)) ++ [s3 e.1 a b, s3 e.2 a b]).map triD)) (ρ1 := [some (.d false (filD w)), some (.d false (tieD e)), some (.d false (natD w.h)), some (.d false (natD w.n)), some (.d false (.tuple (w.T.map triD))), some (.d false (dictD lstN (grp (prsT w.T.zipIdx)))), some (.d true (lstN [a, b])), none, none, some (.d true (.list ((dropS w.T (fun k => !decide (k ∈ tsOf w.T e)) ++ [s3 e.1 a b, s3 e.2 a b]).map triD))), none, none]) (ev_eq (e_bin (e_v rfl) (e_lst (e_cons (s3e 0 e.1 rfl rfl rfl) (e_cons (s3e 1 e.2 rfl rfl rfl) e_nil))) (catL ?_)) (congrArg PyData.list e9)) rfl) (x_stop (x_retE (e_tup (e_cons (e_v rfl) (e_cons (e_v rfl) (e_cons (e_blt (e_cons (e_blt (e_cons (e_v rfl) e_nil) (sortedL tri_srt _)) e_nil) (tupleL _)) e_nil)))))))))))))
      · exact e_cmp (e_v rfl) (e5 (f5 := false) rfl rfl) (congrArg (Option.map not) (mem_natL _ _))
      · have := dropS_len w.T (fun k => !decide (k ∈ tsOf w.T e))
        rw [List.length_map]
        show _ + 2 ≤ LINE
        unfold LINE
        omega
end
end DT

/-! Fillings: what stays. -/
namespace DT
open PySem
def ind (y e : Tie) : Nat := if e = y then 1 else 0
def cntT (t : Tri) (y : Tie) : Nat := ind y (t.1, t.2.1) + ind y (t.1, t.2.2) + ind y (t.2.1, t.2.2)
def cnt (T : List Tri) (y : Tie) : Nat := (T.map fun t => cntT t y).sum
def Asc (t : Tri) : Prop := t.1 < t.2.1 ∧ t.2.1 < t.2.2
structure FilOk (w : Fil) : Prop where
  asc : ∀ t, t ∈ w.T → Asc t ∧ t.2.2 < w.n
  h2 : 2 ≤ w.h
  hn : 2 * w.h ≤ w.n
  rim : ∀ e, e ∈ rimL w.h → cnt w.T e = 1
  inn : ∀ e, e ∉ rimL w.h → cnt w.T e = 0 ∨ cnt w.T e = 2
theorem cnt_perm {T T' : List Tri} (h : T.Perm T') (y : Tie) : cnt T y = cnt T' y := (h.map _).sum_nat
theorem cnt_app (T T' : List Tri) (y : Tie) : cnt (T ++ T') y = cnt T y + cnt T' y := by
  unfold cnt
  rw [List.map_append, List.sum_append_nat]
theorem cnt_cons (t : Tri) (T : List Tri) (y : Tie) : cnt (t :: T) y = cntT t y + cnt T y := rfl
theorem FilOk.perm {h n : Nat} {T T' : List Tri} (ok : FilOk ⟨h, n, T⟩) (p : T.Perm T') : FilOk ⟨h, n, T'⟩ :=
  ⟨fun t ht => ok.asc t (p.mem_iff.mpr ht), ok.h2, ok.hn, fun e he => (cnt_perm p e).symm.trans (ok.rim e he), fun e he => by
    have := ok.inn e he
    rw [← cnt_perm p e]
    exact this⟩
theorem ind_self (y : Tie) : ind y y = 1 := if_pos rfl
theorem ind_ne {y e : Tie} (h : e ≠ y) : ind y e = 0 := if_neg h
theorem ind_le (y e : Tie) : ind y e ≤ 1 := by
  unfold ind
  split <;> omega
theorem mem_tiesT {t : Tri} {y : Tie} : y ∈ tiesT t ↔ y = (t.1, t.2.1) ∨ y = (t.1, t.2.2) ∨ y = (t.2.1, t.2.2) := by
  unfold tiesT
  simp
theorem cntT_zero {t : Tri} {y : Tie} (h : y ∉ tiesT t) : cntT t y = 0 := by
  rw [mem_tiesT] at h
  unfold cntT
  rw [ind_ne fun z => h (.inl z.symm), ind_ne fun z => h (.inr (.inl z.symm)), ind_ne fun z => h (.inr (.inr z.symm))]
theorem cntT_one {t : Tri} {y : Tie} (a : Asc t) (h : y ∈ tiesT t) : cntT t y = 1 := by
  obtain ⟨p, q, r⟩ := t
  obtain ⟨a1, a2⟩ := a
  rw [mem_tiesT] at h
  simp only at a1 a2 h
  unfold cntT
  rcases h with rfl | rfl | rfl
  · rw [ind_self, ind_ne (fun z => by have := congrArg Prod.snd z; simp only at this; omega), ind_ne (fun z => by have := congrArg Prod.fst z; simp only at this; omega)]
  · rw [ind_self, ind_ne (fun z => by have := congrArg Prod.snd z; simp only at this; omega), ind_ne (fun z => by have := congrArg Prod.fst z; simp only at this; omega)]
  · rw [ind_self, ind_ne (fun z => by have := congrArg Prod.fst z; simp only at this; omega), ind_ne (fun z => by have := congrArg Prod.fst z; simp only at this; omega)]
theorem cntT_if {t : Tri} {y : Tie} (a : Asc t) : cntT t y = if y ∈ tiesT t then 1 else 0 := by
  by_cases h : y ∈ tiesT t
  · rw [if_pos h, cntT_one a h]
  · rw [if_neg h, cntT_zero h]
theorem cnt_zero {T : List Tri} {y : Tie} (h : y ∉ T.flatMap tiesT) : cnt T y = 0 := by
  induction T with
  | nil => rfl
  | cons t T ih =>
    rw [List.flatMap_cons, List.mem_append] at h
    rw [cnt_cons, cntT_zero fun z => h (.inl z), ih fun z => h (.inr z)]
theorem cnt_len {T : List Tri} {y : Tie} (h : ∀ t, t ∈ T → Asc t) : (T.filter fun t => decide (y ∈ tiesT t)).length = cnt T y := by
  induction T with
  | nil => rfl
  | cons t T ih =>
    rw [cnt_cons, ← ih fun s hs => h s (List.mem_cons_of_mem _ hs), cntT_if (h t List.mem_cons_self), List.filter_cons]
    by_cases c : y ∈ tiesT t
    · rw [if_pos (decide_eq_true c), if_pos c, List.length_cons]
      omega
    · rw [if_neg (by simpa using c), if_neg c]
      omega
theorem cnt_pos {T : List Tri} {y : Tie} (h : y ∈ T.flatMap tiesT) (ha : ∀ t, t ∈ T → Asc t) : 0 < cnt T y := by
  rw [← cnt_len ha]
  obtain ⟨t, ht, hy⟩ := List.mem_flatMap.mp h
  exact List.length_pos_of_mem (List.mem_filter.mpr ⟨ht, decide_eq_true hy⟩)
/-! ### triangles by their numbers -/
theorem zip_ge {α : Type} {T : List α} {k : Nat} {p : α × Nat} (h : p ∈ T.zipIdx k) : k ≤ p.2 ∧ T[p.2 - k]? = some p.1 := by
  induction T generalizing k with
  | nil => simp at h
  | cons t T ih =>
    rw [List.zipIdx_cons] at h
    rcases List.mem_cons.mp h with rfl | h
    · exact ⟨Nat.le_refl _, by simp⟩
    · obtain ⟨h1, h2⟩ := ih h
      refine ⟨by omega, ?_⟩
      have e : p.2 - k = (p.2 - (k + 1)) + 1 := by omega
      rw [e, List.getElem?_cons_succ]
      exact h2
theorem drop_perm (T : List Tri) (q : Nat → Bool) : T.Perm (dropS T q ++ dropS T fun k => !q k) := by
  have h := (List.filter_append_perm (fun p : Tri × Nat => q p.2) T.zipIdx).map Prod.fst
  rw [List.zipIdx_map_fst, List.map_append] at h
  exact h.symm
theorem drop_one {T : List Tri} {i : Nat} {t : Tri} (h : T[i]? = some t) : T.Perm (dropS T (fun k => !decide (k = i)) ++ [t]) := by
  have h1 := drop_perm T fun k => !decide (k = i)
  have e : (dropS T fun k => !!decide (k = i)) = [t] := by
    unfold dropS
    have go : ∀ (T : List Tri) (k i : Nat), T[i]? = some t → ((T.zipIdx k).filter fun p => !!decide (p.2 = k + i)).map (·.1) = [t] := by
      intro T
      induction T with
      | nil => intro k i h; simp at h
      | cons s T ih =>
        intro k i h
        rw [List.zipIdx_cons]
        cases i with
        | zero =>
          obtain rfl := Option.some.inj (show some s = some t from h)
          rw [List.filter_cons_of_pos (by simp), List.map_cons]
          have z : ((T.zipIdx (k + 1)).filter fun p => !!decide (p.2 = k + 0)) = [] := by
            refine List.filter_eq_nil_iff.mpr fun p hp => ?_
            have := (zip_ge hp).1
            simp
            omega
          rw [z]
          rfl
        | succ i =>
          rw [List.filter_cons_of_neg (by simp)]
          have := ih (k + 1) i (by simpa using h)
          have e2 : k + 1 + i = k + (i + 1) := by omega
          rw [e2] at this
          exact this
    have := go T 0 i h
    rw [Nat.zero_add] at this
    exact this
  rw [e] at h1
  exact h1
theorem prs_one {t : Tri} {i : Nat} {e : Tie} (a : Asc t) : (((tiesT t).map fun y => (y, i)).filter fun p => decide (p.1 = e)).map (·.2) = if e ∈ tiesT t then [i] else [] := by
  have h := cntT_if (y := e) a
  obtain ⟨p, q, r⟩ := t
  unfold cntT ind at h
  unfold tiesT
  simp only [List.map_cons, List.map_nil, List.filter_cons, List.filter_nil]
  by_cases c : e ∈ tiesT (p, q, r)
  · rw [if_pos c] at h
    have c' := c
    unfold tiesT at c'
    simp only at c'
    rw [if_pos c']
    by_cases x : (p, q) = e <;> by_cases y : (p, r) = e <;> by_cases z : (q, r) = e <;> simp [x, y, z] at h ⊢
  · rw [if_neg c] at h
    have c' := c
    unfold tiesT at c'
    simp only at c'
    rw [if_neg c']
    by_cases x : (p, q) = e <;> by_cases y : (p, r) = e <;> by_cases z : (q, r) = e <;> simp [x, y, z] at h ⊢
theorem tsOf_eq {T : List Tri} {e : Tie} (ha : ∀ t, t ∈ T → Asc t) : tsOf T e = (T.zipIdx.filter fun p => decide (e ∈ tiesT p.1)).map (·.2) := by
  unfold tsOf
  have go : ∀ l : List (Tri × Nat), (∀ p, p ∈ l → Asc p.1) → ((prsT l).filter fun p => decide (p.1 = e)).map (·.2) = (l.filter fun p => decide (e ∈ tiesT p.1)).map (·.2) := by
    intro l
    induction l with
    | nil => intro _; rfl
    | cons p l ih =>
      intro h
      have e1 : prsT (p :: l) = (tiesT p.1).map (fun y => (y, p.2)) ++ prsT l := rfl
      rw [e1, List.filter_append, List.map_append, ih fun x hx => h x (List.mem_cons_of_mem _ hx), prs_one (h p List.mem_cons_self), List.filter_cons]
      by_cases c : e ∈ tiesT p.1
      · rw [if_pos c, if_pos (decide_eq_true c)]
        rfl
      · rw [if_neg c, if_neg (by simpa using c)]
        rfl
  exact go _ fun p hp => ha p.1 (List.mem_of_getElem? (zip_ge hp).2)
theorem filt_fst (T : List Tri) (e : Tie) : ((T.zipIdx.filter fun p => decide (e ∈ tiesT p.1)).map (·.1)) = T.filter fun t => decide (e ∈ tiesT t) := by
  have := List.filter_map (f := fun p : Tri × Nat => p.1) (p := fun t => decide (e ∈ tiesT t)) (l := T.zipIdx)
  rw [List.zipIdx_map_fst] at this
  exact this.symm
theorem ts_mem {T : List Tri} {e : Tie} (ha : ∀ t, t ∈ T → Asc t) {i : Nat} : i ∈ tsOf T e ↔ ∃ t, T[i]? = some t ∧ e ∈ tiesT t := by
  rw [tsOf_eq ha]
  constructor
  · intro h
    obtain ⟨p, hp, rfl⟩ := List.mem_map.mp h
    obtain ⟨h1, h2⟩ := List.mem_filter.mp hp
    exact ⟨p.1, (zip_ge h1).2, of_decide_eq_true h2⟩
  · rintro ⟨t, h1, h2⟩
    refine List.mem_map.mpr ⟨(t, i), List.mem_filter.mpr ⟨?_, decide_eq_true h2⟩, rfl⟩
    obtain ⟨hi, e1⟩ := List.getElem?_eq_some_iff.mp h1
    exact List.mem_iff_getElem?.mpr ⟨i, by rw [List.getElem?_zipIdx, h1]; simp⟩
theorem ts_len {T : List Tri} {e : Tie} (ha : ∀ t, t ∈ T → Asc t) : (tsOf T e).length = cnt T e := by
  rw [tsOf_eq ha, List.length_map, ← cnt_len ha, ← filt_fst, List.length_map]
theorem drop_ts {T : List Tri} {e : Tie} (ha : ∀ t, t ∈ T → Asc t) : (dropS T fun k => !!decide (k ∈ tsOf T e)) = T.filter fun t => decide (e ∈ tiesT t) := by
  rw [← filt_fst]
  unfold dropS
  congr 1
  refine List.filter_congr fun p hp => ?_
  show (!!decide (p.2 ∈ tsOf T e)) = _
  rw [Bool.not_not]
  refine decide_eq_decide.mpr ((ts_mem ha).trans ⟨fun ⟨t, h1, h2⟩ => ?_, fun h => ⟨p.1, (zip_ge hp).2, h⟩⟩)
  have := (zip_ge hp).2
  rw [Nat.sub_zero, h1] at this
  obtain rfl := Option.some.inj this
  exact h2
theorem ends_eq {T : List Tri} {e : Tie} (ha : ∀ t, t ∈ T → Asc t) : endsF T e = (T.filter fun t => decide (e ∈ tiesT t)).map fun t => (apx t e).headD 0 := by
  unfold endsF
  rw [tsOf_eq ha, ← filt_fst, List.map_map, List.map_map]
  refine List.map_congr_left fun p hp => ?_
  have := (zip_ge (List.mem_filter.mp hp).1).2
  rw [Nat.sub_zero] at this
  show (apx (T.getD p.2 (0, 0, 0)) e).headD 0 = (apx p.1 e).headD 0
  rw [List.getD_eq_getElem?_getD, this]
  rfl
/-! ### numbers in their order -/
theorem nsort_eq {l l' : List Nat} (s : l'.Pairwise (· ≤ ·)) (p : l'.Perm l) : nsort l = l' := by
  have h1 : (nsort l).Pairwise (· ≤ ·) := by
    have := List.pairwise_mergeSort (le := fun a b : Nat => decide (a ≤ b)) (fun a b c x y => decide_eq_true (Nat.le_trans (of_decide_eq_true x) (of_decide_eq_true y))) (fun a b => by
      rcases Nat.le_total a b with z | z
      · simp [z]
      · simp [z]) l
    exact this.imp fun z => of_decide_eq_true z
  exact List.Perm.eq_of_pairwise (le := (· ≤ ·)) (fun a b _ _ x y => Nat.le_antisymm x y) h1 s ((List.mergeSort_perm l _).trans p.symm)
theorem mm_lt {a b : Nat} (h : a < b) : mm a b = (a, b) ∧ mm b a = (a, b) := by
  have s : [a, b].Pairwise (· ≤ ·) := by simp; omega
  unfold mm
  rw [nsort_eq s (List.Perm.refl _), nsort_eq s (List.Perm.swap b a [])]
  exact ⟨rfl, rfl⟩
theorem s3_lt {x a b p q r : Nat} (h1 : p < q) (h2 : q < r) (pm : [p, q, r].Perm [x, a, b]) : s3 x a b = (p, q, r) := by
  have s : [p, q, r].Pairwise (· ≤ ·) := by simp; omega
  unfold s3
  rw [nsort_eq s pm]
  rfl
/-- three points in their order, and their ties -/
theorem s3_ok {x a b : Nat} (h1 : x ≠ a) (h2 : x ≠ b) (h3 : a ≠ b) {n : Nat} (hx : x < n) (ha : a < n) (hb : b < n) : Asc (s3 x a b) ∧ (s3 x a b).2.2 < n ∧ ∀ y, cntT (s3 x a b) y = ind y (mm x a) + ind y (mm x b) + ind y (mm a b) := by
  have go : ∀ {p q r : Nat}, p < q → q < r → r < n → [p, q, r].Perm [x, a, b] → (∀ y, ind y (p, q) + ind y (p, r) + ind y (q, r) = ind y (mm x a) + ind y (mm x b) + ind y (mm a b)) → Asc (s3 x a b) ∧ (s3 x a b).2.2 < n ∧ ∀ y, cntT (s3 x a b) y = ind y (mm x a) + ind y (mm x b) + ind y (mm a b) := by
    intro p q r h1 h2 h3 pm hy
    rw [s3_lt h1 h2 pm]
    exact ⟨⟨h1, h2⟩, h3, hy⟩
  rcases Nat.lt_or_gt_of_ne h1 with c1 | c1 <;> rcases Nat.lt_or_gt_of_ne h2 with c2 | c2 <;> rcases Nat.lt_or_gt_of_ne h3 with c3 | c3
  · exact go c1 c3 hb (List.Perm.refl _) fun y => by rw [(mm_lt c1).1, (mm_lt c2).1, (mm_lt c3).1]
  · exact go c2 c3 ha ((List.Perm.swap a b []).cons x) fun y => by rw [(mm_lt c1).1, (mm_lt c2).1, (mm_lt c3).2]; omega
  · omega
  · exact go c2 c1 ha ((List.Perm.swap x b [a]).trans ((List.Perm.swap a b []).cons x)) fun y => by rw [(mm_lt c1).1, (mm_lt c2).2, (mm_lt c3).2]; omega
  · exact go c1 c2 hb (List.Perm.swap x a [b]) fun y => by rw [(mm_lt c1).2, (mm_lt c2).1, (mm_lt c3).1]; omega
  · omega
  · exact go c3 c2 hx (((List.Perm.swap x b []).cons a).trans (List.Perm.swap x a [b])) fun y => by rw [(mm_lt c1).2, (mm_lt c2).2, (mm_lt c3).1]; omega
  · exact go c3 c1 hx (((List.Perm.swap x a []).cons b).trans ((List.Perm.swap x b [a]).trans ((List.Perm.swap a b []).cons x))) fun y => by rw [(mm_lt c1).2, (mm_lt c2).2, (mm_lt c3).2]; omega
/-- a triangle by a tie and the point more -/
theorem apx_ok {t : Tri} {e : Tie} (a : Asc t) (h : e ∈ tiesT t) : ∃ z, apx t e = [z] ∧ z ≠ e.1 ∧ z ≠ e.2 ∧ e.1 < e.2 ∧ z ≤ t.2.2 ∧ e.2 ≤ t.2.2 ∧ ∀ y, cntT t y = ind y e + ind y (mm e.1 z) + ind y (mm e.2 z) := by
  obtain ⟨p, q, r⟩ := t
  obtain ⟨a1, a2⟩ := a
  simp only at a1 a2
  rw [mem_tiesT] at h
  simp only at h
  rcases h with rfl | rfl | rfl
  · refine ⟨r, ?_, by simp only; omega, by simp only; omega, a1, Nat.le_refl _, by simp only; omega, fun y => ?_⟩
    · unfold apx
      simp [List.filter_cons]
      omega
    · rw [(mm_lt (show (p, q).1 < r by simp only; omega)).1, (mm_lt (show (p, q).2 < r from a2)).1]
      rfl
  · refine ⟨q, ?_, by simp only; omega, by simp only; omega, by simp only; omega, by simp only; omega, Nat.le_refl _, fun y => ?_⟩
    · unfold apx
      simp [List.filter_cons]
      omega
    · rw [(mm_lt (show (p, r).1 < q from a1)).1, (mm_lt (show q < (p, r).2 from a2)).2]
      unfold cntT
      simp only
      omega
  · refine ⟨p, ?_, by simp only; omega, by simp only; omega, a2, by simp only; omega, Nat.le_refl _, fun y => ?_⟩
    · unfold apx
      simp [List.filter_cons]
      omega
    · rw [(mm_lt (show p < (q, r).1 from a1)).2, (mm_lt (show p < (q, r).2 by simp only; omega)).2]
      unfold cntT
      simp only
      omega
end DT

/-! Fillings: cones, points put in, ties turned: what stays. -/
namespace DT
open PySem
theorem rimL_lt {h : Nat} (h1 : 1 ≤ h) {e : Tie} (he : e ∈ rimL h) : e.1 < e.2 ∧ e.2 < 2 * h := by
  unfold rimL at he
  rcases List.mem_append.mp he with q | q
  · obtain ⟨k, hk, rfl⟩ := List.mem_map.mp q
    have := List.mem_range.mp hk
    exact ⟨by simp only; omega, by simp only; omega⟩
  · rw [List.mem_singleton.mp q]
    exact ⟨by simp only; omega, by simp only; omega⟩
def cone0 (h : Nat) : List Tri := (rimL h).map fun e => (e.1, e.2, 2 * h)
def coneB (h : Nat) : Bool := ((cone0 h).all fun t => decide (t.1 < t.2.1) && (decide (t.2.1 < t.2.2) && decide (t.2.2 < 2 * h + 1))) && (((rimL h).all fun e => decide (cnt (cone0 h) e = 1)) && ((cone0 h).flatMap tiesT).all fun e => decide (e ∈ rimL h) || decide (cnt (cone0 h) e = 2))
theorem cone_chk {h : Nat} (h1 : 2 ≤ h) (h2 : h ≤ 5) : (∀ t, t ∈ cone0 h → t.1 < t.2.1 ∧ t.2.1 < t.2.2 ∧ t.2.2 < 2 * h + 1) ∧ (∀ e, e ∈ rimL h → cnt (cone0 h) e = 1) ∧ ∀ e, e ∈ (cone0 h).flatMap tiesT → e ∈ rimL h ∨ cnt (cone0 h) e = 2 := by
  have c : coneB h = true := by
    have : h = 2 ∨ h = 3 ∨ h = 4 ∨ h = 5 := by omega
    rcases this with rfl | rfl | rfl | rfl <;> decide +kernel
  unfold coneB at c
  obtain ⟨c1, c⟩ := Bool.and_eq_true_iff.mp c
  obtain ⟨c2, c3⟩ := Bool.and_eq_true_iff.mp c
  refine ⟨fun t ht => ?_, fun e he => of_decide_eq_true (List.all_eq_true.mp c2 e he), fun e he => ?_⟩
  · have := List.all_eq_true.mp c1 t ht
    simpa using this
  · rcases Bool.or_eq_true_iff.mp (List.all_eq_true.mp c3 e he) with z | z
    · exact .inl (of_decide_eq_true z)
    · exact .inr (of_decide_eq_true z)
theorem cone_ok {h : Nat} (h1 : 2 ≤ h) (h2 : h ≤ 5) : FilOk (coneF h) := by
  obtain ⟨c1, c2, c3⟩ := cone_chk h1 h2
  have ok : FilOk ⟨h, 2 * h + 1, cone0 h⟩ := ⟨fun t ht => ⟨⟨(c1 t ht).1, (c1 t ht).2.1⟩, (c1 t ht).2.2⟩, h1, by show 2 * h ≤ 2 * h + 1; omega, c2, fun e he => by
    by_cases m : e ∈ (cone0 h).flatMap tiesT
    · exact .inr ((c3 e m).resolve_left he)
    · exact .inl (cnt_zero m)⟩
  refine ok.perm ?_
  unfold cone0
  exact ((srt_perm tieD (rimL h)).symm.map _).trans (srt_perm triD _).symm
theorem part_ok {w : Fil} (ok : FilOk w) {i : Nat} {t : Tri} (ht : w.T[i]? = some t) : FilOk (partF w i t) := by
  obtain ⟨h, n, T⟩ := w
  obtain ⟨a, b, c⟩ := t
  have pm := drop_one ht
  simp only at pm ht
  obtain ⟨⟨a1, a2⟩, a3⟩ := ok.asc (a, b, c) (List.mem_of_getElem? ht)
  simp only at a1 a2 a3
  unfold partF
  simp only
  generalize dropS T (fun k => !decide (k = i)) = R at pm
  have ascR : ∀ s, s ∈ R → Asc s ∧ s.2.2 < n := fun s hs => ok.asc s (pm.mem_iff.mpr (List.mem_append_left _ hs))
  have h0 : ∀ y : Tie, y.2 = n → cnt T y = 0 := fun y hy => cnt_zero fun m => by
    obtain ⟨s, hs, hm⟩ := List.mem_flatMap.mp m
    obtain ⟨⟨s1, s2⟩, s3⟩ := ok.asc s hs
    simp only at s3
    rcases mem_tiesT.mp hm with rfl | rfl | rfl <;> simp only at hy <;> omega
  have key : ∀ y, cnt (R ++ [(a, b, n), (a, c, n), (b, c, n)]) y = cnt T y + 2 * (ind y (a, n) + ind y (b, n) + ind y (c, n)) := fun y => by
    rw [cnt_perm pm, cnt_app, cnt_app, cnt_cons, cnt_cons, cnt_cons, cnt_cons]
    unfold cntT
    simp only
    show _ + (_ + (_ + (_ + 0))) = _ + (_ + 0) + _
    omega
  have ok' : FilOk ⟨h, n + 1, R ++ [(a, b, n), (a, c, n), (b, c, n)]⟩ := by
    refine ⟨fun s hs => ?_, ok.h2, by have := ok.hn; simp only at this ⊢; omega, fun e he => ?_, fun e he => ?_⟩
    · rcases List.mem_append.mp hs with q | q
      · obtain ⟨q1, q2⟩ := ascR s q
        exact ⟨q1, by simp only; omega⟩
      · simp only [List.mem_cons, List.not_mem_nil, or_false] at q
        rcases q with rfl | rfl | rfl
        · exact ⟨⟨a1, by simp only; omega⟩, by simp only; omega⟩
        · exact ⟨⟨by simp only; omega, by simp only; omega⟩, by simp only; omega⟩
        · exact ⟨⟨a2, by simp only; omega⟩, by simp only; omega⟩
    · have hr := rimL_lt (h := h) (by have := ok.h2; simp only at this; omega) he
      have hn := ok.hn
      simp only at hn hr
      have ne : ∀ x : Nat, ((x, n) : Tie) ≠ e := fun x z => by
        have := congrArg Prod.snd z
        simp only at this
        omega
      simp only
      rw [key, ind_ne (ne a), ind_ne (ne b), ind_ne (ne c), ok.rim e he]
    · simp only at he ⊢
      rw [key]
      by_cases y : e.2 = n
      · rw [h0 e y]
        have ea : e = (e.1, n) := Prod.ext rfl y
        rw [ea]
        unfold ind
        by_cases x1 : a = e.1
        · subst x1
          right
          rw [if_pos rfl, if_neg fun z => ?_, if_neg fun z => ?_]
          · have := congrArg Prod.fst z
            simp only at this
            omega
          · have := congrArg Prod.fst z
            simp only at this
            omega
        · rw [if_neg fun z => x1 (congrArg Prod.fst z)]
          by_cases x2 : b = e.1
          · subst x2
            right
            rw [if_pos rfl, if_neg fun z => ?_]
            have := congrArg Prod.fst z
            simp only at this
            omega
          · rw [if_neg fun z => x2 (congrArg Prod.fst z)]
            by_cases x3 : c = e.1
            · subst x3
              right
              rw [if_pos rfl]
            · left
              rw [if_neg fun z => x3 (congrArg Prod.fst z)]
      · have ne : ∀ x : Nat, ((x, n) : Tie) ≠ e := fun x z => y (congrArg Prod.snd z).symm
        rw [ind_ne (ne a), ind_ne (ne b), ind_ne (ne c)]
        exact ok.inn e he
  exact ok'.perm (srt_perm triD _).symm
theorem apxOk {w : Fil} (ok : FilOk w) (e : Tie) : ApxOk w.T e := fun i hi => by
  obtain ⟨t, h1, h2⟩ := (ts_mem fun t ht => (ok.asc t ht).1).mp hi
  obtain ⟨z, hz, _⟩ := apx_ok (ok.asc t (List.mem_of_getElem? h1)).1 h2
  exact ⟨t, h1, by rw [hz]; exact List.cons_ne_nil _ _⟩
theorem flip_ok {w : Fil} (ok : FilOk w) (e : Tie) : FilOk (flipF w e) := by
  have asc : ∀ t, t ∈ w.T → Asc t := fun t ht => (ok.asc t ht).1
  unfold flipF
  by_cases hn : (tsOf w.T e).length ≠ 2
  · rw [if_pos hn]
    exact ok
  · rw [if_neg hn]
    have hn2 : (tsOf w.T e).length = 2 := Classical.byContradiction hn
    have hcnt : cnt w.T e = 2 := (ts_len asc).symm.trans hn2
    have hlen : (w.T.filter fun t => decide (e ∈ tiesT t)).length = 2 := (cnt_len asc).trans hcnt
    have hE := ends_eq (e := e) asc
    have pm := drop_perm w.T fun k => !decide (k ∈ tsOf w.T e)
    rw [drop_ts asc] at pm
    have hmem : ∀ t, t ∈ (w.T.filter fun t => decide (e ∈ tiesT t)) → t ∈ w.T ∧ e ∈ tiesT t := fun t ht => ⟨(List.mem_filter.mp ht).1, of_decide_eq_true (List.mem_filter.mp ht).2⟩
    revert pm hE hmem hlen
    generalize (w.T.filter fun t => decide (e ∈ tiesT t)) = A
    generalize (dropS w.T fun k => !decide (k ∈ tsOf w.T e)) = R
    intro hlen hE pm hmem
    match A, hlen with
    | [t0, t1], _ =>
      obtain ⟨m0, k0⟩ := hmem t0 List.mem_cons_self
      obtain ⟨m1, k1⟩ := hmem t1 (List.mem_cons_of_mem _ List.mem_cons_self)
      obtain ⟨⟨as0, lt0⟩, ⟨as1, lt1⟩⟩ := And.intro (ok.asc t0 m0) (ok.asc t1 m1)
      obtain ⟨a, ha, na1, na2, le, la, le2, ca⟩ := apx_ok as0 k0
      obtain ⟨b, hb, nb1, nb2, _, lb, _, cb⟩ := apx_ok as1 k1
      have hE' : endsF w.T e = [a, b] := by
        rw [hE, List.map_cons, List.map_cons, ha, hb]
        rfl
      rw [hE']
      show FilOk (if a = b ∨ mm a b ∈ w.T.flatMap tiesT ∨ mm a b ∈ rimS w.h then w else ⟨w.h, w.n, srt triD (R ++ [s3 e.1 a b, s3 e.2 a b])⟩)
      by_cases hc : a = b ∨ mm a b ∈ w.T.flatMap tiesT ∨ mm a b ∈ rimS w.h
      · rw [if_pos hc]
        exact ok
      · rw [if_neg hc]
        have nab : a ≠ b := fun z => hc (.inl z)
        have nT : mm a b ∉ w.T.flatMap tiesT := fun z => hc (.inr (.inl z))
        have nR : mm a b ∉ rimL w.h := fun z => hc (.inr (.inr (srt_mem.mpr z)))
        obtain ⟨as2, lt2, c2⟩ := s3_ok (x := e.1) (a := a) (b := b) na1.symm nb1.symm nab (n := w.n) (by omega) (by omega) (by omega)
        obtain ⟨as3, lt3, c3⟩ := s3_ok (x := e.2) (a := a) (b := b) na2.symm nb2.symm nab (n := w.n) (by omega) (by omega) (by omega)
        have key : ∀ y, cnt (R ++ [s3 e.1 a b, s3 e.2 a b]) y + 2 * ind y e = cnt w.T y + 2 * ind y (mm a b) := fun y => by
          rw [cnt_perm pm, cnt_app, cnt_app, cnt_cons, cnt_cons, cnt_cons, cnt_cons, c2, c3, ca, cb]
          show _ + (_ + (_ + 0)) + _ = _ + (_ + (_ + 0)) + _
          omega
        have hm0 : cnt w.T (mm a b) = 0 := cnt_zero nT
        have nem : e ≠ mm a b := fun z => by
          rw [← z, hcnt] at hm0
          omega
        have ner : e ∉ rimL w.h := fun z => by
          have := ok.rim e z
          omega
        have ok' : FilOk ⟨w.h, w.n, R ++ [s3 e.1 a b, s3 e.2 a b]⟩ := by
          refine ⟨fun s hs => ?_, ok.h2, ok.hn, fun y hy => ?_, fun y hy => ?_⟩
          · rcases List.mem_append.mp hs with q | q
            · exact ok.asc s (pm.mem_iff.mpr (List.mem_append_left _ q))
            · simp only [List.mem_cons, List.not_mem_nil, or_false] at q
              rcases q with rfl | rfl
              · exact ⟨as2, lt2⟩
              · exact ⟨as3, lt3⟩
          · have k := key y
            rw [ind_ne (show e ≠ y from fun z => ner (by rw [z]; exact hy)), ind_ne (show mm a b ≠ y from fun z => nR (by rw [z]; exact hy)), ok.rim y hy] at k
            simp only
            omega
          · have k := key y
            simp only
            by_cases y1 : e = y
            · subst y1
              rw [ind_self, ind_ne nem.symm, hcnt] at k
              left
              omega
            · rw [ind_ne y1] at k
              by_cases y2 : mm a b = y
              · subst y2
                rw [ind_self, hm0] at k
                right
                omega
              · rw [ind_ne y2] at k
                have := ok.inn y hy
                omega
        exact ok'.perm (srt_perm triD _).symm
/-! ### sizes -/
structure FilBd (w : Fil) (k : Nat) : Prop where
  h : w.h ≤ 5
  n : w.n ≤ 11 + k
  T : w.T.length ≤ 10 + 2 * k
  i : 2 * w.h < w.n
theorem cone_bd {h : Nat} (h1 : 1 ≤ h) (h2 : h ≤ 5) : FilBd (coneF h) 0 := by
  refine ⟨h2, by show 2 * h + 1 ≤ 11; omega, ?_, by show 2 * h < 2 * h + 1; omega⟩
  show (srt triD _).length ≤ 10
  rw [srt_len, List.length_map]
  show (srt tieD _).length ≤ 10
  rw [srt_len]
  unfold rimL
  rw [List.length_append, List.length_map, List.length_range]
  show 2 * h - 1 + 1 ≤ 10
  omega
theorem FilBd.mono {w : Fil} {k k' : Nat} (b : FilBd w k) (h : k ≤ k') : FilBd w k' := ⟨b.h, by have := b.n; omega, by have := b.T; omega, b.i⟩
theorem part_bd {w : Fil} {k i : Nat} {t : Tri} (b : FilBd w k) (ht : w.T[i]? = some t) : FilBd (partF w i t) (k + 1) := by
  refine ⟨b.h, by show w.n + 1 ≤ _; have := b.n; omega, ?_, by show 2 * w.h < w.n + 1; have := b.i; omega⟩
  show (srt triD _).length ≤ _
  rw [srt_len, List.length_append]
  have := (drop_one ht).length_eq
  rw [List.length_append] at this
  have b2 := b.T
  show _ + 3 ≤ _
  have e : [t].length = 1 := rfl
  omega
theorem flip_bd {w : Fil} {k : Nat} (ok : FilOk w) (b : FilBd w k) (e : Tie) : FilBd (flipF w e) k := by
  unfold flipF
  by_cases hn : (tsOf w.T e).length ≠ 2
  · rw [if_pos hn]
    exact b
  · rw [if_neg hn]
    split
    · exact b
    · refine ⟨b.h, b.n, ?_, b.i⟩
      have asc : ∀ t, t ∈ w.T → Asc t := fun t ht => (ok.asc t ht).1
      have hn2 : (tsOf w.T e).length = 2 := Classical.byContradiction hn
      have hlen : (w.T.filter fun t => decide (e ∈ tiesT t)).length = 2 := (cnt_len asc).trans ((ts_len asc).symm.trans hn2)
      have pm := (drop_perm w.T fun k => !decide (k ∈ tsOf w.T e)).length_eq
      rw [drop_ts asc, List.length_append, hlen] at pm
      show (srt triD _).length ≤ _
      rw [srt_len, List.length_append]
      have b2 := b.T
      show _ + 2 ≤ _
      omega
theorem fil_ne {w : Fil} (ok : FilOk w) : w.T ≠ [] := fun z => by
  have h2 := ok.h2
  have m : ((0, 2 * w.h - 1) : Tie) ∈ rimL w.h := List.mem_append_right _ List.mem_cons_self
  have := ok.rim _ m
  rw [z] at this
  cases this
end DT

/-! Fillings: drawn ones, drawn labels. -/
namespace DT
open PySem
def tupIL (l : List Int) : D := .list (l.map intD)
theorem pick_at {n : Nat} (h1 : 1 ≤ n) (h2 : n < 1073741824) {F : List Fn} (h0 : F[0]? = some pickFn) {ρ : Rho} {g g1 : PState} {e : Ex} {i : Nat} (hs : ρ[i]? = some (some .src)) (he : ev F e ρ g = some (natD n, g1)) : ∃ r g', ev F (.call 0 (.src i (.ex e .nil))) ρ g = some (natD r, g') ∧ r < n := by
  obtain ⟨r, g', e1, hr⟩ := pick_ok h1 h2 g1
  exact ⟨r, g', e_call (r_src hs (r_ex he r_nil)) h0 e1, hr⟩
section
variable {F : List Fn}
def SpDrawF (f : Fn) : Prop := ∀ most, most ≤ 40 → ∀ g, ∃ w g', f [none, some (natD most)] g = some (filD w, g') ∧ FilOk w ∧ FilBd w most
theorem drawF_sp {c1 c2 c3 c4 : Nat} (h0 : F[0]? = some pickFn) (hc1 : At F c1 SpCone) (hc2 : At F c2 SpFlip) (hc3 : At F c3 SpParted) (hc4 : At F c4 SpLTies) : SpDrawF (F_law_drawF F c1 c2 c3 c4) := fun most hm g => by
  obtain ⟨_, q1, s1⟩ := hc1
  obtain ⟨_, q2, s2⟩ := hc2
  obtain ⟨_, q3, s3⟩ := hc3
  obtain ⟨_, q4, s4⟩ := hc4
  let R : Fil → Option Sl → Option Sl → Rho := fun w o3 o4 => [some .src, some (.d false (natD most)), some (.d false (filD w)), o3, o4]
  obtain ⟨r, g1, e1, hr⟩ := pick_at (n := 4) (by decide) (by decide) h0 (ρ := [some .src, some (.d false (natD most)), none, none, none]) (g := g) (g1 := g) (i := 0) rfl (e := .k (.int 4)) e_k
  obtain ⟨k, g2, e2, hk⟩ := pick_at (n := most + 1) (by omega) (by omega) h0 (ρ := R (coneF (2 + r)) none none) (g := g1) (g1 := g1) (i := 0) rfl (e := .bin .add (.v 1) (.k (.int 1))) (e_bin (y := natD 1) (e_v rfl) e_k (addN most 1))
  have ok0 := cone_ok (h := 2 + r) (by omega) (by omega)
  have bd0 := cone_bd (h := 2 + r) (by omega) (by omega)
  obtain ⟨ρ', g', e3, w, j, o3, o4, rfl, ok, bd, hj⟩ := for_inv (f := fun ρ x => bnd (ofO (bindT (.n 3) x ρ)) fun ρ' => exs F (W1_law_drawF c1 c2 c3 c4) ρ') (P := fun l ρ _ => ∃ w j o3 o4, ρ = R w o3 o4 ∧ FilOk w ∧ FilBd w j ∧ j + l.length ≤ most) ((List.range k).map natD) (R (coneF (2 + r)) none none) g2 ⟨_, 0, none, none, rfl, ok0, bd0, by rw [List.length_map, List.length_range]; omega⟩ (by
      rintro x l ρ g - ⟨w, j, o3, o4, rfl, ok, bd, hj⟩
      rw [List.length_cons] at hj
      have bT := bd.T
      have bh := bd.h
      have h2 := ok.h2
      have ne := List.length_pos_iff.mpr (fil_ne ok)
      obtain ⟨s, g3, e4, hs⟩ := pick_at (n := 2) (by decide) (by decide) h0 (ρ := R w (some (.d false x)) o4) (g := g) (g1 := g) (i := 0) rfl (e := .k (.int 2)) e_k
      by_cases hs0 : s = 0
      · subst hs0
        obtain ⟨i, g4, e5, hi⟩ := pick_at (n := w.T.length) ne (by omega) h0 (ρ := R w (some (.d false x)) o4) (g := g3) (g1 := g3) (i := 0) rfl (e := .blt .len (.cons (.ix (.v 2) (.k (.int 2))) .nil)) (ev_eq (e_blt (e_cons (e_ix (e_v rfl) e_k rfl) e_nil) (lenTN _)) (by rw [List.length_map]))
        have ht : w.T[i]? = some w.T[i] := List.getElem?_eq_getElem hi
        refine ⟨R (partF w i w.T[i]) (some (.d false x)) o4, g4, b_go rfl (x_cons (x_iffT (ev_eq (e_cmp (y := natD 0) e4 e_k (c_eq_nat 0 0)) rfl) (x_cons (x_set (ρ1 := R (partF w i w.T[i]) (some (.d false x)) o4) (e_call (r_ex (e_v rfl) (r_ex e5 r_nil)) q3 (s3 w i _ ht (by omega) g4)) rfl) x_nil)) x_nil), _, j + 1, _, _, rfl, part_ok ok ht, part_bd bd ht, by omega⟩
      · have hk2 : ∀ e, e ∈ srt tieD ((grp (prsT w.T.zipIdx)).map (·.1)) → e ∈ w.T.flatMap tiesT := fun e he => by
          have := srt_mem.mp he
          rw [grp_keys, dedK_mem, prsT_fst, List.zipIdx_map_fst] at this
          exact this
        have hne : 1 ≤ (srt tieD ((grp (prsT w.T.zipIdx)).map (·.1))).length := by
          refine List.length_pos_iff.mpr fun z => ?_
          have m : ((0, 2 * w.h - 1) : Tie) ∈ rimL w.h := List.mem_append_right _ List.mem_cons_self
          have m2 : ((0, 2 * w.h - 1) : Tie) ∈ w.T.flatMap tiesT := Classical.byContradiction fun q => by
            have a := ok.rim _ m
            rw [cnt_zero q] at a
            cases a
          have m3 : ((0, 2 * w.h - 1) : Tie) ∈ srt tieD ((grp (prsT w.T.zipIdx)).map (·.1)) := srt_mem.mpr (by rw [grp_keys, dedK_mem, prsT_fst, List.zipIdx_map_fst]; exact m2)
          rw [z] at m3
          cases m3
        have hle : (srt tieD ((grp (prsT w.T.zipIdx)).map (·.1))).length ≤ 1000 := by
          rw [srt_len, List.length_map]
          refine Nat.le_trans (grp_len _) ?_
          have : ∀ l : List (Tri × Nat), (prsT l).length = 3 * l.length := fun l => by
            induction l with
            | nil => rfl
            | cons a l ih =>
              have e1 : prsT (a :: l) = (tiesT a.1).map (fun e => (e, a.2)) ++ prsT l := rfl
              rw [e1, List.length_append, ih, List.length_cons]
              show 3 + _ = _
              omega
          rw [this, List.length_zipIdx]
          omega
        generalize hS : srt tieD ((grp (prsT w.T.zipIdx)).map (·.1)) = S at hk2 hne hle
        obtain ⟨i, g4, e5, hi⟩ := pick_at (n := S.length) hne (by omega) h0 (ρ := R w (some (.d false x)) (some (.d true (.list (S.map tieD))))) (g := g3) (g1 := g3) (i := 0) rfl (e := .blt .len (.cons (.v 4) .nil)) (ev_eq (e_blt (e_cons (e_v rfl) e_nil) (lenLN _)) (by rw [List.length_map]))
        have hi' : S[i]? = some S[i] := List.getElem?_eq_getElem hi
        have hf : (decide (s = 0)) = false := decide_eq_false hs0
        refine ⟨R (flipF w S[i]) (some (.d false x)) (some (.d true (.list (S.map tieD)))), g4, b_go rfl (x_cons (x_iffF (ev_eq (e_cmp (y := natD 0) e4 e_k (c_eq_nat s 0)) (congrArg PyData.bool hf)) (x_cons (x_set (ρ1 := R w (some (.d false x)) (some (.d true (.list (S.map tieD))))) (e_blt (e_cons (e_blt (e_cons (e_call (r_ex (e_ix (e_v rfl) e_k rfl) r_nil) q4 (s4 w.T (by omega) g3)) e_nil) (list_tie _)) e_nil) (by rw [← hS]; exact sortedL tie_srt _)) rfl) (x_cons (x_set (ρ1 := R (flipF w S[i]) (some (.d false x)) (some (.d true (.list (S.map tieD))))) (e_call (r_ex (e_v rfl) (r_ex (e_ix (e_v rfl) e5 (ix_lst rfl hi')) r_nil)) q2 (s2 w _ (hk2 _ (List.getElem_mem hi)) (apxOk ok _) (by omega) (by omega) (by omega) g4)) rfl) x_nil))) x_nil), _, j, _, _, rfl, flip_ok ok _, flip_bd ok bd _, by omega⟩)
  refine ⟨w, g', fn_go (x_cons (x_set (ρ1 := R (coneF (2 + r)) none none) (e_call (r_ex (e_bin (x := natD 2) e_k e1 (addN 2 r)) r_nil) q1 (s1 (2 + r) (by omega) (by omega) g1)) rfl) (x_cons (x_for (e_cons e2 e_nil) (it_rng (by unfold LINE; omega)) e3) (x_stop (x_retE (e_v rfl))))), ok, bd.mono ?_⟩
  omega
/-! ### labels -/
structure LabOk (w : Fil) (ls : List Int) (most : Nat) : Prop where
  len : ls.length = w.n
  bd : ∀ x, x ∈ ls → x ≠ 0 ∧ x.natAbs ≤ most
  anti : ∀ k, k < w.h → ls.getD (k + w.h) 0 = - ls.getD k 0
  rim : ∀ e, e ∈ rimL w.h → ls.getD e.1 0 + ls.getD e.2 0 ≠ 0
def rI (most : Nat) : List Int := (List.range (2 * most + 1)).map fun i : Nat => (i : Int) - most
theorem rI_mem {most : Nat} {x : Int} : x ∈ rI most ↔ x.natAbs ≤ most := by
  unfold rI
  rw [List.mem_map]
  constructor
  · rintro ⟨i, hi, rfl⟩
    have := List.mem_range.mp hi
    omega
  · intro h
    exact ⟨(x + most).toNat, List.mem_range.mpr (by omega), by omega⟩
theorem it_rI {most : Nat} (h : most ≤ 1000) : itO .rng2 [.int (0 - (most : Int)), .int ((most : Int) + 1)] = some ((rI most).map intD) := by
  show rngO (0 - (most : Int)) ((most : Int) + 1) = _
  unfold rngO LINE
  have e : (((most : Int) + 1) - (0 - (most : Int))).toNat = 2 * most + 1 := by omega
  rw [if_pos]
  · unfold rngL rI
    rw [e, List.map_map]
    refine congrArg some (List.map_congr_left fun i _ => ?_)
    show PyData.int (0 - (most : Int) + (i : Nat)) = PyData.int ((i : Int) - most)
    congr 1
    omega
  · rw [e]
    simp only [Bool.and_eq_true, decide_eq_true_eq]
    omega
theorem mem_int2 (x y : Int) : memO (.int x) (.tuple [.int 0, .int y]) = some (decide (0 = x) || decide (y = x)) := by
  show some (([PyData.int 0, PyData.int y]).any fun z => PyData.eqv z (.int x)) = _
  rw [List.any_cons, List.any_cons, List.any_nil, Bool.or_false, eqv_int, eqv_int]
theorem ix_lastL {α : Type} {l : List α} {f : α → D} {x : α} (h : l.getLast? = some x) : ixO (.list (l.map f)) (.int (-1)) = some (f x) := ix_last (f := f) h
def signed (r s : Nat) : Int := (1 + (r : Int)) * (1 - 2 * s)
theorem signed_ok {r s most : Nat} (hr : r < most) (hs : s < 2) : signed r s ≠ 0 ∧ (signed r s).natAbs ≤ most := by
  unfold signed
  have : s = 0 ∨ s = 1 := by omega
  rcases this with rfl | rfl <;> constructor <;> simp <;> omega
theorem signed_ev {ρ : Rho} {g : PState} {most i j : Nat} (h0 : F[0]? = some pickFn) (hs : ρ[i]? = some (some .src)) (hm : getV ρ j = some (natD most)) (h1 : 1 ≤ most) (h2 : most ≤ 1000) : ∃ x g', ev F (.bin .mul (.bin .add (.k (.int 1)) (.call 0 (.src i (.ex (.v j) .nil)))) (.bin .sub (.k (.int 1)) (.bin .mul (.k (.int 2)) (.call 0 (.src i (.ex (.k (.int 2)) .nil)))))) ρ g = some (intD x, g') ∧ x ≠ 0 ∧ x.natAbs ≤ most := by
  obtain ⟨r, g1, e1, hr⟩ := pick_at (n := most) h1 (by omega) h0 (g := g) hs (e := .v j) (e_v hm)
  obtain ⟨s, g2, e2, hs2⟩ := pick_at (n := 2) (by decide) (by decide) h0 (g := g1) (g1 := g1) hs (e := .k (.int 2)) e_k
  refine ⟨signed r s, g2, e_bin (e_bin (d := .int (1 + (r : Int))) e_k e1 rfl) (e_bin (d := .int (1 - 2 * (s : Int))) e_k (e_bin (d := .int (2 * (s : Int))) e_k e2 (mulA (by decide))) rfl) (mulA (wid_le (by omega))), signed_ok hr hs2⟩
structure HalfOk (l : List Int) (most : Nat) (h : Nat) : Prop where
  bd : ∀ x, x ∈ l → x ≠ 0 ∧ x.natAbs ≤ most
  ch : ∀ k, k + 1 < l.length → l.getD (k + 1) 0 ≠ - l.getD k 0
  en : l.length = h → l.getD (h - 1) 0 ≠ l.getD 0 0
def SpLabs (f : Fn) : Prop := ∀ (w : Fil) (most : Nat), FilOk w → FilBd w 40 → 2 ≤ most → most ≤ 9 → ∀ g, ∃ ls g', f [none, some (filD w), some (natD most)] g = some (tupI ls, g') ∧ LabOk w ls most
end
end DT

/-! Fillings: drawn labels. -/
namespace DT
open PySem
section
variable {F : List Fn}
theorem getD_app {l r : List Int} {k : Nat} (h : k < l.length) : (l ++ r).getD k 0 = l.getD k 0 := by
  rw [List.getD_eq_getElem?_getD, List.getD_eq_getElem?_getD, List.getElem?_append_left h]
theorem getD_app2 {l r : List Int} {k : Nat} (h : l.length ≤ k) : (l ++ r).getD k 0 = r.getD (k - l.length) 0 := by
  rw [List.getD_eq_getElem?_getD, List.getD_eq_getElem?_getD, List.getElem?_append_right h]
theorem half_one {x : Int} {most h : Nat} (h1 : x ≠ 0 ∧ x.natAbs ≤ most) (h2 : 2 ≤ h) : HalfOk [x] most h :=
  ⟨fun y hy => by rw [List.mem_singleton.mp hy]; exact h1, fun k hk => by simp at hk, fun e => by simp at e; omega⟩
theorem half_snoc {l : List Int} {most h : Nat} {x y : Int} (H : HalfOk l most h) (hl : 1 ≤ l.length) (hlh : l.length < h) (hy : l.getLast? = some y) (h1 : x ≠ 0 ∧ x.natAbs ≤ most) (h2 : x ≠ -y) (h3 : l.length = h - 1 → x ≠ l.getD 0 0) : HalfOk (l ++ [x]) most h := by
  have hy' : l.getD (l.length - 1) 0 = y := by
    rw [List.getD_eq_getElem?_getD, ← List.getLast?_eq_getElem?, hy]
    rfl
  refine ⟨fun z hz => ?_, fun k hk => ?_, fun e => ?_⟩
  · rcases List.mem_append.mp hz with q | q
    · exact H.bd z q
    · rw [List.mem_singleton.mp q]
      exact h1
  · rw [List.length_append] at hk
    have hk' : k + 1 < l.length + 1 := hk
    by_cases c : k + 1 < l.length
    · rw [getD_app c, getD_app (by omega)]
      exact H.ch k c
    · have e : k + 1 = l.length := by omega
      rw [e, getD_app2 (Nat.le_refl _), getD_app (by omega)]
      have e2 : k = l.length - 1 := by omega
      rw [e2, hy', Nat.sub_self]
      exact h2
  · rw [List.length_append] at e
    have e' : l.length + 1 = h := e
    have e2 : h - 1 = l.length := by omega
    rw [e2, getD_app2 (Nat.le_refl _), Nat.sub_self, getD_app (by omega)]
    exact h3 (by omega)
theorem labs_sp (h0 : F[0]? = some pickFn) : SpLabs (F_law_labels F) := fun w most ok bd m2 m9 g => by
  have h2 := ok.h2
  have hh := bd.h
  have hnn := bd.n
  have hn := ok.hn
  let R : Bool → List Int → Option Sl → Option Sl → Option Sl → Option Sl → Rho := fun b l o7 o8 o9 o10 => [some .src, some (.d false (filD w)), some (.d false (natD most)), some (.d false (natD w.h)), some (.d false (natD w.n)), some (.d false (.tuple (w.T.map triD))), some (.d b (tupIL l)), o7, o8, o9, o10]
  obtain ⟨x0, g1, e1, hx0⟩ := signed_ev (most := most) (i := 0) (j := 2) h0 (ρ := [some .src, some (.d false (filD w)), some (.d false (natD most)), some (.d false (natD w.h)), some (.d false (natD w.n)), some (.d false (.tuple (w.T.map triD))), none, none, none, none, none]) (g := g) rfl rfl (by omega) (by omega)
  obtain ⟨ρ', g2, e3, l, o7, o8, rfl, H, hl⟩ := for_inv (f := fun ρ x => bnd (ofO (bindT (.n 7) x ρ)) fun ρ' => exs F W1_law_labels ρ') (P := fun r ρ _ => ∃ l o7 o8, ρ = R true l o7 o8 none none ∧ HalfOk l most w.h ∧ (1 ≤ l.length ∧ r = (List.range (w.h - l.length)).map fun i => natD (l.length + i)) ∧ l.length ≤ w.h) ((List.range (w.h - 1)).map fun i => natD (1 + i)) (R true [x0] none none none none) g1 ⟨[x0], none, none, rfl, half_one hx0 h2, ⟨Nat.le_refl _, rfl⟩, by show 1 ≤ w.h; omega⟩ (by
      rintro x r ρ g - ⟨l, o7, o8, rfl, H, ⟨hl1, hr⟩, hlh⟩
      have hlt : l.length < w.h := by
        refine Nat.lt_of_not_le fun z => ?_
        have : w.h - l.length = 0 := by omega
        rw [this] at hr
        cases hr
      have hx : x = natD l.length ∧ r = (List.range (w.h - (l.length + 1))).map fun i => natD (l.length + 1 + i) := by
        have e : w.h - l.length = (w.h - (l.length + 1)) + 1 := by omega
        rw [e, List.range_succ_eq_map, List.map_cons, List.map_map] at hr
        injection hr with a b
        refine ⟨a, b.trans (List.map_congr_left fun i _ => ?_)⟩
        show natD (l.length + (i + 1)) = natD (l.length + 1 + i)
        congr 1
        omega
      obtain ⟨rfl, hr2⟩ := hx
      have hne : l ≠ [] := List.length_pos_iff.mp hl1
      obtain ⟨y, hy⟩ : ∃ y, l.getLast? = some y := ⟨_, List.getLast?_eq_some_getLast hne⟩
      have hz : l[0]? = some (l.getD 0 0) := by
        rw [List.getD_eq_getElem?_getD, List.getElem?_eq_getElem hl1]
        rfl
      let S1 : List Int := (rI most).filter fun x => !(decide (0 = x) || decide ((0 : Int) - y = x))
      let S2 : List Int := if l.length = w.h - 1 then S1.filter fun x => !decide (x = l.getD 0 0) else S1
      have s1 : ∀ x, x ∈ S1 ↔ x.natAbs ≤ most ∧ x ≠ 0 ∧ x ≠ -y := fun x => by
        rw [List.mem_filter, rI_mem]
        simp
        omega
      have s2 : ∀ x, x ∈ S2 ↔ (x.natAbs ≤ most ∧ x ≠ 0 ∧ x ≠ -y) ∧ (l.length = w.h - 1 → x ≠ l.getD 0 0) := fun x => by
        show x ∈ (if l.length = w.h - 1 then S1.filter fun x => !decide (x = l.getD 0 0) else S1) ↔ _
        by_cases c : l.length = w.h - 1
        · rw [if_pos c, List.mem_filter, s1]
          simp [c]
        · rw [if_neg c, s1]
          simp [c]
      have ne2 : 1 ≤ S2.length := by
        have : ∃ x, x ∈ S2 := by
          by_cases a1 : (1 : Int) = -y ∨ (1 : Int) = l.getD 0 0
          · by_cases a2 : (2 : Int) = -y ∨ (2 : Int) = l.getD 0 0
            · exact ⟨-1, (s2 _).mpr ⟨⟨by simp; omega, by decide, by omega⟩, fun _ => by omega⟩⟩
            · exact ⟨2, (s2 _).mpr ⟨⟨by simp; omega, by decide, by omega⟩, fun _ => by omega⟩⟩
          · exact ⟨1, (s2 _).mpr ⟨⟨by simp; omega, by decide, by omega⟩, fun _ => by omega⟩⟩
        obtain ⟨x, hx⟩ := this
        exact List.length_pos_of_mem hx
      have le2 : S2.length ≤ 1000 := by
        have a : S2.length ≤ S1.length := by
          show (if l.length = w.h - 1 then S1.filter fun x => !decide (x = l.getD 0 0) else S1).length ≤ _
          split
          · exact List.length_filter_le _ _
          · exact Nat.le_refl _
        have b : S1.length ≤ (rI most).length := List.length_filter_le _ _
        unfold rI at b
        rw [List.length_map, List.length_range] at b
        omega
      obtain ⟨i, g4, e5, hi⟩ := pick_at (n := S2.length) ne2 (by omega) h0 (ρ := R true l (some (.d false (natD l.length))) (some (.d true (tupIL S2))) none none) (g := g) (g1 := g) (i := 0) rfl (e := .blt .len (.cons (.v 8) .nil)) (ev_eq (e_blt (e_cons (e_v rfl) e_nil) (lenLN _)) (by rw [List.length_map]))
      have hi' : S2[i]? = some S2[i] := List.getElem?_eq_getElem hi
      have hx2 := (s2 _).mp (List.getElem_mem hi)
      have bM : ∀ x : Int, bindT (.n 9) (intD x) (wipeR (freeze (escs (.cons (.bin .sub (.k (.int 0)) (.v 2)) (.cons (.bin .add (.v 2) (.k (.int 1))) .nil))) (R true l (some (.d false (natD l.length))) o8 none none)) (slotsT (.n 9))) = some (R true l (some (.d false (natD l.length))) o8 (some (.d false (intD x))) none) := fun _ => rfl
      have set1 : ex F (.set 8 (.comp (.v 9) (.n 9) .rng2 (.cons (.bin .sub (.k (.int 0)) (.v 2)) (.cons (.bin .add (.v 2) (.k (.int 1))) .nil)) (.cons (.cmp (.v 9) (.cons .nmem (.tup (.cons (.k (.int 0)) (.cons (.bin .sub (.k (.int 0)) (.ix (.v 6) (.neg (.k (.int 1))))) .nil))) .nil)) .nil))) (R true l (some (.d false (natD l.length))) o8 none none) g = some ((.nx, R true l (some (.d false (natD l.length))) (some (.d true (tupIL S1))) none none), g) :=
        x_set (e_filA (l := rI most) (h := intD) (f := intD) (p := fun x => !(decide (0 = x) || decide ((0 : Int) - y = x))) (e_cons (e_bin (d := .int (0 - (most : Int))) e_k (e_v rfl) rfl) (e_cons (e_bin (d := .int ((most : Int) + 1)) (e_v rfl) e_k rfl) e_nil)) (it_rI (by omega)) (fun x _ => bM x) (fun x _ => e_cmp (e_v rfl) (e_tup (e_cons e_k (e_cons (e_bin (d := .int (0 - y)) e_k (e_ix (e_v rfl) (e_neg e_k) (ix_lastL (f := intD) hy)) rfl) e_nil))) (congrArg (Option.map not) (mem_int2 x (0 - y)))) fun x _ _ => e_v rfl) rfl
      have set2 : ex F (.iff (.cmp (.v 7) (.cons .eq (.bin .sub (.v 3) (.k (.int 1))) .nil)) (.cons (.set 8 (.comp (.v 9) (.n 9) .seq (.cons (.v 8) .nil) (.cons (.cmp (.v 9) (.cons .ne (.ix (.v 6) (.k (.int 0))) .nil)) .nil))) .nil) .nil) (R true l (some (.d false (natD l.length))) (some (.d true (tupIL S1))) none none) g = some ((.nx, R true l (some (.d false (natD l.length))) (some (.d true (tupIL S2))) none none), g) := by
        have tst : ev F (.cmp (.v 7) (.cons .eq (.bin .sub (.v 3) (.k (.int 1))) .nil)) (R true l (some (.d false (natD l.length))) (some (.d true (tupIL S1))) none none) g = some (.bool (decide (l.length = w.h - 1)), g) := e_cmp (e_v rfl) (e_bin (y := natD 1) (e_v rfl) e_k (subN (by omega))) (c_eq_nat _ _)
        by_cases c : l.length = w.h - 1
        · have e : S2 = S1.filter fun x => !decide (x = l.getD 0 0) := if_pos c
          rw [e]
          rw [decide_eq_true c] at tst
          exact x_iffT tst (x_cons (x_set (e_filV (l := S1) (h := intD) (f := intD) (p := fun x => !decide (x = l.getD 0 0)) (e_cons (e_v rfl) e_nil) rfl (fun x _ => e_cmp (e_v rfl) (e_ix (e_v rfl) e_k (ix_lst (f := intD) (i := 0) rfl hz)) (c_ne_int _ _)) fun x _ _ => e_v rfl) rfl) x_nil)
        · have e : S2 = S1 := if_neg c
          rw [e]
          rw [decide_eq_false c] at tst
          exact x_iffF tst x_nil
      refine ⟨R true (l ++ [S2[i]]) (some (.d false (natD l.length))) (some (.d true (tupIL S2))) none none, g4, b_go rfl (x_cons set1 (x_cons set2 (x_cons (x_app (l := l.map intD) (d := intD S2[i]) (e_ix (e_v rfl) e5 (ix_lst (f := intD) rfl hi')) rfl (by rw [List.length_map]; unfold LINE; omega) ?_) x_nil))), l ++ [S2[i]], _, _, rfl, half_snoc H hl1 hlt hy ⟨hx2.1.2.1, hx2.1.1⟩ hx2.1.2.2 hx2.2, ⟨by rw [List.length_append]; exact Nat.le_add_left _ _, ?_⟩, by rw [List.length_append]; exact hlt⟩
      · show (R true l (some (.d false (natD l.length))) (some (.d true (tupIL S2))) none none).set 6 (some (.d true (.list (l.map intD ++ [intD S2[i]])))) = _
        have z : l.map intD ++ [intD S2[i]] = (l ++ [S2[i]]).map intD := by
          rw [List.map_append]
          rfl
        rw [z]
        rfl
      · rw [List.length_append]
        exact hr2)
  have hlen : l.length = w.h := by
    have z := hl.1.2
    have : (List.range (w.h - l.length)).length = 0 := by
      have := congrArg List.length z
      simpa using this.symm
    rw [List.length_range] at this
    have := hl.2
    omega
  obtain ⟨rest, g3, e4, hrest⟩ := e_mapX (F := F) (ρ := R true l o7 o8 none none) (g := g2) (e := .bin .mul (.bin .add (.k (.int 1)) (.call 0 (.src 0 (.ex (.v 2) .nil)))) (.bin .sub (.k (.int 1)) (.bin .mul (.k (.int 2)) (.call 0 (.src 0 (.ex (.k (.int 2)) .nil)))))) (t := .n 7) (ik := .rng1) (ss := .cons (.bin .sub (.v 4) (.bin .mul (.k (.int 2)) (.v 3))) .nil) (l := List.range (w.n - 2 * w.h)) (h := natD) (k := intD) (Q := fun _ x => x ≠ 0 ∧ x.natAbs ≤ most) (bd := fun k => R true l (some (.d false (natD k))) o8 none none)
    (e_cons (e_bin (e_v rfl) (e_bin (x := natD 2) e_k (e_v rfl) (mulN (by decide))) (subN hn)) e_nil) (it_rng (by unfold LINE; omega)) (fun _ _ => rfl) (fun k _ g => signed_ev (most := most) (i := 0) (j := 2) h0 rfl rfl (by omega) (by omega))
  have rl : rest.length = w.n - 2 * w.h := by
    rw [← hrest.length, List.length_range]
  let ls : List Int := l ++ l.map (fun x => 0 - x) ++ rest
  have eL : l.map intD ++ l.map (fun x => intD (0 - x)) = (l ++ l.map fun x => 0 - x).map intD := by
    rw [List.map_append, List.map_map]
    rfl
  have eL2 : (l ++ l.map fun x => 0 - x).map intD ++ rest.map intD = ls.map intD := (List.map_append).symm
  refine ⟨ls, g3, fn_go (x_cons (x_unp (ρ1 := [some .src, some (.d false (filD w)), some (.d false (natD most)), some (.d false (natD w.h)), some (.d false (natD w.n)), some (.d false (.tuple (w.T.map triD))), none, none, none, none, none]) (e_v rfl) rfl) (x_cons (x_set (ρ1 := R true [x0] none none none none) (e_lst (e_cons e1 e_nil)) rfl) (x_cons (x_for (e_cons e_k (e_cons (e_v rfl) e_nil)) (it_rng2 (a := 1) (by unfold LINE; omega) (by decide)) e3) (x_cons (x_set (ρ1 := R true l o7 o8 none (some (.d true (tupIL rest)))) e4 rfl) (x_stop (x_retE (e_blt (e_cons (e_bin (ev_eq (e_bin (d := .list (l.map intD ++ l.map fun x => intD (0 - x))) (e_v rfl) (e_mapV (l := l) (h := intD) (f := fun x => intD (0 - x)) (e_cons (e_v rfl) e_nil) rfl fun x _ => e_bin e_k (e_v rfl) rfl) (catL ?_)) (congrArg PyData.list eL)) (e_v rfl) (catL ?_)) e_nil) ?_))))))), ?_⟩
  · rw [List.length_map, List.length_map]
    unfold LINE
    omega
  · rw [List.length_map, List.length_map, List.length_append, List.length_map, rl]
    unfold LINE
    omega
  · exact (tupleL _).trans (congrArg (fun z => some (PyData.tuple z)) eL2)
  · have lA : ∀ k, k < w.h → ls.getD k 0 = l.getD k 0 := fun k hk => by
      show (l ++ l.map (fun x => 0 - x) ++ rest).getD k 0 = _
      rw [getD_app (by rw [List.length_append]; omega), getD_app (by omega)]
    have lB : ∀ k, k < w.h → ls.getD (k + w.h) 0 = - l.getD k 0 := fun k hk => by
      show (l ++ l.map (fun x => 0 - x) ++ rest).getD (k + w.h) 0 = _
      rw [getD_app (by rw [List.length_append, List.length_map]; omega), getD_app2 (by omega), hlen, Nat.add_sub_cancel]
      rw [List.getD_eq_getElem?_getD, List.getD_eq_getElem?_getD, List.getElem?_map, List.getElem?_eq_getElem (by omega)]
      show (0 : Int) - _ = - _
      rw [Int.zero_sub]
      rfl
    refine ⟨?_, fun x hx => ?_, fun k hk => by rw [lB k hk, lA k hk], fun e he => ?_⟩
    · show (l ++ l.map (fun x => 0 - x) ++ rest).length = _
      rw [List.length_append, List.length_append, List.length_map, rl]
      omega
    · rcases List.mem_append.mp hx with q | q
      · rcases List.mem_append.mp q with q | q
        · exact H.bd x q
        · obtain ⟨y, hy, rfl⟩ := List.mem_map.mp q
          have := H.bd y hy
          omega
      · obtain ⟨k, _, hk⟩ := hrest.right x q
        exact hk
    · have hch := H.ch
      have hen := H.en hlen
      rw [hlen] at hch
      unfold rimL at he
      rcases List.mem_append.mp he with q | q
      · obtain ⟨k, hk, rfl⟩ := List.mem_map.mp q
        have hk := List.mem_range.mp hk
        show ls.getD k 0 + ls.getD (k + 1) 0 ≠ 0
        by_cases c1 : k + 1 < w.h
        · rw [lA k (by omega), lA (k + 1) c1]
          have := hch k c1
          omega
        · by_cases c2 : k + 1 = w.h
          · have e1 : k + 1 = 0 + w.h := by omega
            have e2 : k = w.h - 1 := by omega
            rw [e1, lB 0 (by omega), e2, lA _ (by omega)]
            omega
          · obtain ⟨m, rfl⟩ : ∃ m, k = m + w.h := ⟨k - w.h, by omega⟩
            have e2 : m + w.h + 1 = (m + 1) + w.h := by omega
            rw [e2, lB (m + 1) (by omega), lB m (by omega)]
            have := hch m (by omega)
            omega
      · rw [List.mem_singleton.mp q]
        have e1 : 2 * w.h - 1 = (w.h - 1) + w.h := by omega
        show ls.getD 0 0 + ls.getD (2 * w.h - 1) 0 ≠ 0
        rw [e1, lB _ (by omega), lA 0 (by omega)]
        omega
end
end DT

/-! Fillings: doors. -/
namespace DT
open PySem
theorem e_cmp3 {F : List Fn} {ρ : Rho} {g : PState} {a b c c2 : Ex} {o o' o'' : COp} {x y z w : D} {i j k : Bool} (h1 : ev F a ρ g = some (x, g)) (h2 : ev F b ρ g = some (y, g)) (h3 : ev F c ρ g = some (z, g)) (h4 : ev F c2 ρ g = some (w, g)) (h : cmpO o x y = some i) (h' : i = true → cmpO o' y z = some j) (h'' : i = true → j = true → cmpO o'' z w = some k) : ev F (.cmp a (.cons o b (.cons o' c (.cons o'' c2 .nil)))) ρ g = some (.bool (i && (j && k)), g) := by
  rw [ev, bnd_go h1]
  have q : evC F x (.cons o b (.cons o' c (.cons o'' c2 .nil))) ρ g = some (i && (j && k), g) := by
    rw [evC]
    · rw [bnd_go h2, h]
      show (if i = true then evC F y (.cons o' c (.cons o'' c2 .nil)) ρ else ret false) g = _
      cases i with
      | false => rfl
      | true =>
        rw [if_pos rfl, evC]
        · rw [bnd_go h3, h' rfl]
          show (if j = true then evC F z (.cons o'' c2 .nil) ρ else ret false) g = _
          cases j with
          | false => rfl
          | true =>
            rw [if_pos rfl, evC, bnd_go h4, h'' rfl rfl]
            rfl
        · exact fun z => by cases z
    · exact fun z => by cases z
  rw [bnd_go q]
  rfl
/-! ### whole numbers in their order -/
def isort (l : List Int) : List Int := l.mergeSort fun a b => decide (a ≤ b)
theorem sort_int (l : List Int) : sortO (l.map intD) = some ((isort l).map intD) := by
  have h1 : sortOk (l.map intD) = true := by
    unfold sortOk
    rw [Bool.and_eq_true, Bool.and_eq_true]
    refine ⟨⟨?_, ?_⟩, ?_⟩
    · refine List.all_eq_true.mpr fun d hd => List.all_eq_true.mpr fun e he => ?_
      obtain ⟨a, _, rfl⟩ := List.mem_map.mp hd
      obtain ⟨b, _, rfl⟩ := List.mem_map.mp he
      rfl
    · refine (Bool.or_eq_true ..).mpr (.inr (List.all_eq_true.mpr fun d hd => ?_))
      obtain ⟨a, _, rfl⟩ := List.mem_map.mp hd
      rfl
    · rw [Bool.and_eq_true]
      refine ⟨lay_all (h := intD) (fun _ => rfl) l, List.all_eq_true.mpr fun d hd => ?_⟩
      obtain ⟨a, _, rfl⟩ := List.mem_map.mp hd
      rfl
  unfold sortO
  rw [if_pos h1]
  congr 1
  refine (List.map_mergeSort fun a _ b _ => ?_).symm
  have q := congrFun (congrFun (PySem.W.dataLe_int fun b : Int => b) a) b
  exact q.symm
theorem isort_eq {l l' : List Int} (s : l'.Pairwise (· ≤ ·)) (p : l'.Perm l) : isort l = l' := by
  have h1 : (isort l).Pairwise (· ≤ ·) := by
    have := List.pairwise_mergeSort (le := fun a b : Int => decide (a ≤ b)) (fun a b c x y => decide_eq_true (Int.le_trans (of_decide_eq_true x) (of_decide_eq_true y))) (fun a b => by
      rcases Int.le_total a b with z | z
      · simp [z]
      · simp [z]) l
    exact this.imp fun z => of_decide_eq_true z
  exact List.Perm.eq_of_pairwise (le := (· ≤ ·)) (fun a b _ _ x y => Int.le_antisymm x y) h1 s ((List.mergeSort_perm l _).trans p.symm)
theorem isort2 (x y : Int) : isort [x, y] = [min x y, max x y] := by
  rcases Int.le_total x y with h | h
  · rw [Int.min_eq_left h, Int.max_eq_right h]
    exact isort_eq (by simp; exact h) (List.Perm.refl _)
  · rw [Int.min_eq_right h, Int.max_eq_left h]
    exact isort_eq (by simp; exact h) (List.Perm.swap x y [])
theorem sortIL (l : List Int) : bltO .sorted [.list (l.map intD)] = some (.list ((isort l).map intD)) := by
  show (match some (l.map intD) with
    | some xs => (sortO xs).map PyData.list
    | none => none) = _
  dsimp only
  rw [sort_int]
  rfl
/-- a door's labels -/
def drI (x y : Int) : Bool := decide (min x y < 0) && (decide (0 < max x y) && decide (max x y < - min x y))
def lab (ls : List Int) (k : Nat) : Int := ls.getD k 0
def dr (ls : List Int) (e : Tie) : Bool := drI (lab ls e.1) (lab ls e.2)
theorem lab_at {ls : List Int} {k : Nat} (h : k < ls.length) : ls[k]? = some (lab ls k) := by
  unfold lab
  rw [List.getD_eq_getElem?_getD, List.getElem?_eq_getElem h]
  rfl
theorem ix_lab {ls : List Int} {k : Nat} (h : k < ls.length) : ixO (tupI ls) (natD k) = some (intD (lab ls k)) := ix_tup (f := intD) rfl (lab_at h)
def PtsIn (T : List Tri) (n : Nat) : Prop := ∀ t, t ∈ T → t.1 < n ∧ t.2.1 < n ∧ t.2.2 < n
theorem ties_in {T : List Tri} {n : Nat} (h : PtsIn T n) {t : Tri} (ht : t ∈ T) {e : Tie} (he : e ∈ tiesT t) : e.1 < n ∧ e.2 < n := by
  obtain ⟨a, b, c⟩ := h t ht
  rcases mem_tiesT.mp he with rfl | rfl | rfl
  · exact ⟨a, b⟩
  · exact ⟨a, c⟩
  · exact ⟨b, c⟩
section
variable {F : List Fn}
def SpDoor (f : Fn) : Prop := ∀ (ls : List Int) (e : Tie), e.1 < ls.length → e.2 < ls.length → ∀ g, f [some (tupI ls), some (natD e.1), some (natD e.2)] g = some (.bool (dr ls e), g)
theorem door_sp : SpDoor (F_is_turn_door F) := fun ls e h1 h2 g => by
  have hs : ev F (.blt .sorted (.cons (.lst (.cons (.ix (.v 0) (.v 1)) (.cons (.ix (.v 0) (.v 2)) .nil))) .nil)) [some (.d false (tupI ls)), some (.d false (natD e.1)), some (.d false (natD e.2)), none, none] g = some (.list [intD (min (lab ls e.1) (lab ls e.2)), intD (max (lab ls e.1) (lab ls e.2))], g) := by
    refine ev_eq (e_blt (e_cons (e_lst (e_cons (e_ix (e_v rfl) (e_v rfl) (ix_lab h1)) (e_cons (e_ix (e_v rfl) (e_v rfl) (ix_lab h2)) e_nil))) e_nil) (sortIL [lab ls e.1, lab ls e.2])) ?_
    rw [isort2]
    rfl
  exact fn_go (x_cons (x_unp (ρ1 := [some (.d false (tupI ls)), some (.d false (natD e.1)), some (.d false (natD e.2)), some (.d false (intD (min (lab ls e.1) (lab ls e.2)))), some (.d false (intD (max (lab ls e.1) (lab ls e.2))))]) hs rfl) (x_stop (x_retE (e_cmp3 (e_v rfl) e_k (e_v rfl) (e_neg (e_v rfl)) rfl (fun _ => rfl) fun _ _ => rfl))))
theorem ties_ev {ρ : Rho} {g : PState} {T : List Tri} {t : Tri} {i c : Nat} {a b : Ex} (hc : At F c SpTies) (ht : T[i]? = some t) (ha : ev F a ρ g = some (.tuple (T.map triD), g)) (hb : ev F b ρ g = some (natD i, g)) : ev F (.call c (.ex (.ix a b) .nil)) ρ g = some (.list ((tiesT t).map tieD), g) := by
  obtain ⟨_, c1, c2⟩ := hc
  exact e_call (r_ex (e_ix ha hb (ix_tup (f := triD) rfl ht)) r_nil) c1 (c2 t g)
theorem door_ev {ρ : Rho} {g : PState} {ls : List Int} {e : Tie} {c i j : Nat} (hc : At F c SpDoor) (h1 : e.1 < ls.length) (h2 : e.2 < ls.length) (hl : getV ρ i = some (tupI ls)) (he : getV ρ j = some (tieD e)) : ev F (.call c (.ex (.v i) (.ex (.ix (.v j) (.k (.int 0))) (.ex (.ix (.v j) (.k (.int 1))) .nil)))) ρ g = some (.bool (dr ls e), g) := by
  obtain ⟨_, c1, c2⟩ := hc
  exact e_call (r_ex (e_v hl) (r_ex (e_ix (e_v he) e_k rfl) (r_ex (e_ix (e_v he) e_k rfl) r_nil))) c1 (c2 ls e h1 h2 g)
def SpDoors (f : Fn) : Prop := ∀ (w : Fil) (ls : List Int) (i : Nat) (t : Tri), w.T[i]? = some t → PtsIn w.T ls.length → ∀ g, f [some (filD w), some (tupI ls), some (natD i)] g = some (.tuple (((tiesT t).filter (dr ls)).map tieD), g)
theorem doors_sp {c1 c2 : Nat} (hc1 : At F c1 SpDoor) (hc2 : At F c2 SpTies) : SpDoors (F_doors_of F c1 c2) := fun w ls i t ht hp g => by
  refine fn_go (x_stop (x_retE (e_blt (e_cons (e_filV (l := tiesT t) (h := tieD) (f := tieD) (p := dr ls) (e_cons (ties_ev hc2 ht (e_ix (e_v rfl) e_k rfl) (e_v rfl)) e_nil) rfl (fun e he => ?_) fun e _ _ => e_v rfl) e_nil) (tupleL _))))
  obtain ⟨b1, b2⟩ := ties_in hp (List.mem_of_getElem? ht) he
  exact door_ev hc1 b1 b2 rfl rfl
def SpRimDoors (f : Fn) : Prop := ∀ (w : Fil) (ls : List Int), 1 ≤ w.h → w.h ≤ 1000 → 2 * w.h ≤ ls.length → ∀ g, f [some (filD w), some (tupI ls)] g = some (.tuple (((rimS w.h).filter (dr ls)).map tieD), g)
theorem rimdoors_sp {c1 c2 : Nat} (hc1 : At F c1 SpDoor) (hc2 : At F c2 SpRimT) : SpRimDoors (F_rim_doors F c1 c2) := fun w ls h1 h2 hl g => by
  obtain ⟨_, q1, q2⟩ := hc2
  refine fn_go (x_stop (x_retE (e_blt (e_cons (e_filV (l := rimS w.h) (h := tieD) (f := tieD) (p := dr ls) (e_cons (e_call (r_ex (e_v rfl) r_nil) q1 (q2 w h1 h2 g)) e_nil) rfl (fun e he => ?_) fun e _ _ => e_v rfl) e_nil) (tupleL _))))
  obtain ⟨b1, b2⟩ := rimL_lt h1 (srt_mem.mp he)
  exact door_ev hc1 (by omega) (by omega) rfl rfl
/-- ties with opposite labels -/
def opp (ls : List Int) (e : Tie) : Bool := decide (lab ls e.1 = - lab ls e.2)
def oppsF (w : Fil) (ls : List Int) : List Tie := (srt tieD (tksT w.T)).filter (opp ls)
theorem tks_in {T : List Tri} {n : Nat} (hp : PtsIn T n) {e : Tie} (he : e ∈ srt tieD (tksT T)) : e.1 < n ∧ e.2 < n := by
  have h := srt_mem.mp he
  unfold tksT at h
  rw [dedK_mem] at h
  obtain ⟨t, ht, h2⟩ := List.mem_flatMap.mp h
  exact ties_in hp ht h2
def SpOpps (f : Fn) : Prop := ∀ (w : Fil) (ls : List Int), w.T.length ≤ 1000 → PtsIn w.T ls.length → ∀ g, f [some (filD w), some (tupI ls)] g = some (.tuple ((oppsF w ls).map tieD), g)
theorem opps_sp {c : Nat} (hc : At F c SpAll) : SpOpps (F_opposite_ties F c) := fun w ls hT hp g => by
  obtain ⟨_, q1, q2⟩ := hc
  refine fn_go (x_stop (x_retE (e_blt (e_cons (e_filA (l := srt tieD (tksT w.T)) (h := tieD) (f := tieD) (p := opp ls) (e_cons (e_call (r_ex (e_v rfl) r_nil) q1 (q2 w hT g)) e_nil) rfl (fun _ _ => rfl) (fun e he => ?_) fun e _ _ => e_tup (e_cons (e_v rfl) (e_cons (e_v rfl) e_nil))) e_nil) (tupleL _))))
  obtain ⟨b1, b2⟩ := tks_in hp he
  exact e_cmp (e_ix (e_v rfl) (e_v rfl) (ix_lab b1)) (e_neg (e_ix (e_v rfl) (e_v rfl) (ix_lab b2))) (c_eq_int _ _)
/-! ### turn by turn -/
def asort (l : List Int) : List Int := l.mergeSort fun a b => decide (absI a ≤ absI b)
def trnQ (p q r : Int) : Bool := (decide (absI p < absI q) && decide (absI q < absI r)) && ((decide (0 < p) != decide (0 < q)) && (decide (0 < q) != decide (0 < r)))
def trn (x y z : Int) : Bool := trnQ ((asort [x, y, z]).getD 0 0) ((asort [x, y, z]).getD 1 0) ((asort [x, y, z]).getD 2 0)
def trnL (ls : List Int) (t : Tri) : Bool := trn (lab ls t.1) (lab ls t.2.1) (lab ls t.2.2)
theorem asort_len (l : List Int) : (asort l).length = l.length := (List.mergeSort_perm l _).length_eq
theorem len3 {l : List Int} (h : l.length = 3) : l = [l.getD 0 0, l.getD 1 0, l.getD 2 0] := by
  match l, h with
  | [_, _, _], _ => rfl
theorem sabs_ok (l : List Int) (h : l.length ≤ 1000) : sabsO (.list (l.map intD)) = some (.list ((asort l).map intD)) := by
  show (match intsOf (l.map fun a => PyData.int a) with
    | some ns => if decide (ns.length ≤ LINE) = true then some (PyData.list ((ns.mergeSort fun a b => decide (absI a ≤ absI b)).map .int)) else none
    | none => none) = _
  rw [intsOf_map (fun a : Int => a), List.map_id']
  dsimp only
  rw [if_pos (decide_eq_true (by unfold LINE; omega))]
  rfl
theorem bne_ev {ρ : Rho} {g : PState} {i j : Nat} {x y : Int} (h1 : getV ρ i = some (intD x)) (h2 : getV ρ j = some (intD y)) : ev F (.cmp (.cmp (.v i) (.cons .gt (.k (.int 0)) .nil)) (.cons .ne (.cmp (.v j) (.cons .gt (.k (.int 0)) .nil)) .nil)) ρ g = some (.bool (decide (0 < x) != decide (0 < y)), g) := by
  refine ev_eq (e_cmp (e_cmp (i := decide (0 < x)) (e_v h1) e_k rfl) (e_cmp (i := decide (0 < y)) (e_v h2) e_k rfl) rfl) ?_
  rw [PyData.eqv]
  cases decide (0 < x) <;> cases decide (0 < y) <;> rfl
def SpTurned (f : Fn) : Prop := ∀ (w : Fil) (ls : List Int) (i : Nat) (t : Tri), w.T[i]? = some t → PtsIn w.T ls.length → ∀ g, f [some (filD w), some (tupI ls), some (natD i)] g = some (.bool (trnL ls t), g)
theorem turned_sp : SpTurned (F_is_turned F) := fun w ls i t ht hp g => by
  obtain ⟨b1, b2, b3⟩ := hp t (List.mem_of_getElem? ht)
  have e0 : ev F (.comp (.ix (.v 1) (.v 6)) (.n 6) .seq (.cons (.ix (.ix (.v 0) (.k (.int 2))) (.v 2)) .nil) .nil) [some (.d false (filD w)), some (.d false (tupI ls)), some (.d false (natD i)), none, none, none, none] g = some (.list ([lab ls t.1, lab ls t.2.1, lab ls t.2.2].map intD), g) := by
    refine e_mapV (l := [t.1, t.2.1, t.2.2]) (h := natD) (f := fun k => intD (lab ls k)) (e_cons (e_ix (e_ix (e_v rfl) e_k rfl) (e_v rfl) (ix_tup (f := triD) rfl ht)) e_nil) rfl fun k hk => ?_
    have hk' : k < ls.length := by
      simp only [List.mem_cons, List.not_mem_nil, or_false] at hk
      rcases hk with rfl | rfl | rfl
      · exact b1
      · exact b2
      · exact b3
    exact e_ix (e_v rfl) (e_v rfl) (ix_lab hk')
  unfold trnL trn
  have hl := len3 (asort_len [lab ls t.1, lab ls t.2.1, lab ls t.2.2])
  have e1 := e_sabs e0 (sabs_ok _ (by show 3 ≤ 1000; decide))
  generalize asort [lab ls t.1, lab ls t.2.1, lab ls t.2.2] = L at *
  generalize L.getD 0 0 = p at *
  generalize L.getD 1 0 = q at *
  generalize L.getD 2 0 = r at *
  subst hl
  exact fn_go (x_cons (x_unp (ρ1 := [some (.d false (filD w)), some (.d false (tupI ls)), some (.d false (natD i)), some (.d false (intD p)), some (.d false (intD q)), some (.d false (intD r)), none]) e1 rfl) (x_stop (x_retE (e_and (a_cons (e_cmp2 (e_blt (e_cons (e_v rfl) e_nil) rfl) (e_blt (e_cons (e_v rfl) e_nil) rfl) (e_blt (e_cons (e_v rfl) e_nil) rfl) rfl fun _ => rfl) fun _ => a_cons (bne_ev rfl rfl) fun _ => a_one (bne_ev rfl rfl))))))
def trnsF (w : Fil) (ls : List Int) : List Nat := (List.range w.T.length).filter fun i => trnL ls (w.T.getD i (0, 0, 0))
def SpTurns (f : Fn) : Prop := ∀ (w : Fil) (ls : List Int), w.T.length ≤ 1000 → PtsIn w.T ls.length → ∀ g, f [some (filD w), some (tupI ls)] g = some (lotD (trnsF w ls), g)
theorem turns_sp {c : Nat} (hc : At F c SpTurned) : SpTurns (F_turn_triangles F c) := fun w ls hT hp g => by
  obtain ⟨_, q1, q2⟩ := hc
  refine fn_go (x_stop (x_retE (e_blt (e_cons (e_filV (l := List.range w.T.length) (h := natD) (f := natD) (p := fun i => trnL ls (w.T.getD i (0, 0, 0))) (e_cons (ev_eq (e_blt (e_cons (e_ix (e_v rfl) e_k rfl) e_nil) (lenTN _)) (congrArg natD (List.length_map ..))) e_nil) (it_rng (by unfold LINE; omega)) (fun i hi => ?_) fun e _ _ => e_v rfl) e_nil) (tupleL _))))
  have hi := List.mem_range.mp hi
  have ht : w.T[i]? = some (w.T.getD i (0, 0, 0)) := by
    rw [List.getD_eq_getElem?_getD, List.getElem?_eq_getElem hi]
    rfl
  exact e_call (r_ex (e_v rfl) (r_ex (e_v rfl) (r_ex (e_v rfl) r_nil))) q1 (q2 w ls i _ ht hp g)
/-! ### what the law asks of doors -/
def SpLDoor (f : Fn) : Prop := ∀ x y : Int, x.natAbs ≤ 1000 → y.natAbs ≤ 1000 → ∀ g, f [some (intD x), some (intD y)] g = some (.bool (drI x y), g)
theorem ldoor_sp : SpLDoor (F_law_is_door F) := fun x y hx hy g => by
  refine fn_eq (x_stop (x_retE (e_and (a_cons (i := decide (x * y < 0)) (e_cmp (e_bin (e_v rfl) (e_v rfl) (mulA (wid_le (by omega)))) e_k rfl) fun _ => a_cons (i := !decide (absI x = absI y)) (e_cmp (e_blt (e_cons (e_v rfl) e_nil) rfl) (e_blt (e_cons (e_v rfl) e_nil) rfl) (c_ne_int _ _)) fun _ => a_one (e_cmp (e_cmp (i := decide (0 < x)) (e_v rfl) e_k rfl) (e_cmp (i := decide (absI x < absI y)) (e_blt (e_cons (e_v rfl) e_nil) rfl) (e_blt (e_cons (e_v rfl) e_nil) rfl) rfl) rfl))))) ?_
  congr 1
  rw [PyData.eqv]
  unfold drI
  have hm : x * y < 0 ↔ (x < 0 ∧ 0 < y) ∨ (0 < x ∧ y < 0) := by
    constructor
    · intro h
      rcases Int.lt_trichotomy x 0 with a | a | a
      · rcases Int.lt_trichotomy y 0 with b | b | b
        · have := Int.mul_pos_of_neg_of_neg a b
          omega
        · subst b
          omega
        · exact .inl ⟨a, b⟩
      · subst a
        omega
      · rcases Int.lt_trichotomy y 0 with b | b | b
        · exact .inr ⟨a, b⟩
        · subst b
          omega
        · have := Int.mul_pos a b
          omega
    · rintro (⟨a, b⟩ | ⟨a, b⟩)
      · exact Int.mul_neg_of_neg_of_pos a b
      · exact Int.mul_neg_of_pos_of_neg a b
  rw [Bool.eq_iff_iff]
  simp only [Bool.and_eq_true, decide_eq_true_eq, Bool.not_eq_true', decide_eq_false_iff_not, beq_iff_eq, decide_eq_decide]
  rw [hm]
  unfold absI
  split <;> split <;> omega
/-! ### labels that are let -/
def SpLet (f : Fn) : Prop := ∀ (w : Fil) (ls : List Int) (most : Nat), FilOk w → w.h ≤ 1000 → LabOk w ls most → ∀ g, f [some (filD w), some (tupI ls)] g = some (.bool true, g)
theorem let_sp {c1 c2 : Nat} (hc1 : At F c1 SpOpp) (hc2 : At F c2 SpRimT) : SpLet (F_are_let F c1 c2) := fun w ls most ok hh L g => by
  obtain ⟨_, p1, p2⟩ := hc1
  obtain ⟨_, q1, q2⟩ := hc2
  have h2 := ok.h2
  have hn := ok.hn
  have ln := L.len
  have t1 : ev F (.or (.cons (.not (.blt (.isi .tuple) (.cons (.v 1) .nil))) (.cons (.cmp (.blt .len (.cons (.v 1) .nil)) (.cons .ne (.ix (.v 0) (.k (.int 1))) .nil)) .nil))) [some (.d false (filD w)), some (.d false (tupI ls)), none, none, none, none] g = some (.bool false, g) := by
    refine ev_eq (e_or (o_cons (i := false) (j := !decide (ls.length = w.n)) (e_not (i := true) (e_blt (e_cons (e_v rfl) e_nil) rfl)) fun _ => o_one (e_cmp (x := natD ls.length) (ev_eq (e_blt (e_cons (e_v rfl) e_nil) (lenTN _)) (congrArg natD (List.length_map ..))) (e_ix (e_v rfl) e_k rfl) (c_ne_nat _ _)))) ?_
    rw [decide_eq_true ln]
    rfl
  have t2 : ev F (.not (.blt .all (.cons (.comp (.and (.cons (.blt (.isi .int) (.cons (.v 2) .nil)) (.cons (.not (.blt (.isi .bool) (.cons (.v 2) .nil))) (.cons (.cmp (.v 2) (.cons .ne (.k (.int 0)) .nil)) .nil)))) (.n 2) .seq (.cons (.v 1) .nil) .nil) .nil))) [some (.d false (filD w)), some (.d false (tupI ls)), none, none, none, none] g = some (.bool false, g) := by
    refine ev_eq (e_not (e_allV (l := ls) (h := intD) (p := fun x => !decide (x = 0)) (e_cons (e_v rfl) e_nil) rfl fun x _ => ?_)) ?_
    · exact e_and (a_cons (i := true) (e_blt (e_cons (e_v rfl) e_nil) rfl) fun _ => a_cons (i := true) (e_not (i := false) (e_blt (e_cons (e_v rfl) e_nil) rfl)) fun _ => a_one (e_cmp (e_v rfl) e_k (c_ne_int _ _)))
    · have : (ls.all fun x => !decide (x = 0)) = true := List.all_eq_true.mpr fun x hx => by
        rw [decide_eq_false (L.bd x hx).1]
        rfl
      rw [this]
      rfl
  have t3 : ev F (.not (.blt .all (.cons (.comp (.cmp (.ix (.v 1) (.call c1 (.ex (.v 0) (.ex (.v 3) .nil)))) (.cons .eq (.neg (.ix (.v 1) (.v 3))) .nil)) (.n 3) .rng1 (.cons (.bin .mul (.k (.int 2)) (.ix (.v 0) (.k (.int 0)))) .nil) .nil) .nil))) [some (.d false (filD w)), some (.d false (tupI ls)), none, none, none, none] g = some (.bool false, g) := by
    refine ev_eq (e_not (e_allV (l := List.range (2 * w.h)) (h := natD) (p := fun k => decide (lab ls ((k + w.h) % (2 * w.h)) = - lab ls k)) (e_cons (e_bin (x := natD 2) e_k (e_ix (e_v rfl) e_k rfl) (mulN (by decide))) e_nil) (it_rng (by unfold LINE; omega)) fun k hk => ?_)) ?_
    · have hk := List.mem_range.mp hk
      have hm := Nat.mod_lt (k + w.h) (show 0 < 2 * w.h by omega)
      exact e_cmp (e_ix (e_v rfl) (e_call (r_ex (e_v rfl) (r_ex (e_v rfl) r_nil)) p1 (p2 w k (by omega) hh g)) (ix_lab (by omega))) (e_neg (e_ix (e_v rfl) (e_v rfl) (ix_lab (by omega)))) (c_eq_int _ _)
    · have : ((List.range (2 * w.h)).all fun k => decide (lab ls ((k + w.h) % (2 * w.h)) = - lab ls k)) = true := List.all_eq_true.mpr fun k hk => decide_eq_true (by
        have hk := List.mem_range.mp hk
        by_cases c : k < w.h
        · rw [Nat.mod_eq_of_lt (by omega)]
          exact L.anti k c
        · obtain ⟨m, rfl⟩ : ∃ m, k = m + w.h := ⟨k - w.h, by omega⟩
          have e : (m + w.h + w.h) % (2 * w.h) = m := by
            have : m + w.h + w.h = m + 2 * w.h := by omega
            rw [this, Nat.add_mod_right, Nat.mod_eq_of_lt (by omega)]
          rw [e]
          have := L.anti m (by omega)
          unfold lab
          omega)
      rw [this]
      rfl
  refine fn_eq (x_no t1 (x_no t2 (x_no t3 (x_stop (x_retE (e_blt (e_cons (e_mapA (l := rimS w.h) (h := tieD) (f := fun e : Tie => PyData.bool (!decide (lab ls e.1 = - lab ls e.2))) (e_cons (e_call (r_ex (e_v rfl) r_nil) q1 (q2 w (by omega) hh g)) e_nil) rfl (fun _ _ => rfl) fun e he => ?_) e_nil) (blt_all fun e : Tie => !decide (lab ls e.1 = - lab ls e.2)))))))) ?_
  · obtain ⟨b1, b2⟩ := rimL_lt (h := w.h) (by omega) (srt_mem.mp he)
    exact e_cmp (e_ix (e_v rfl) (e_v rfl) (ix_lab (by omega))) (e_neg (e_ix (e_v rfl) (e_v rfl) (ix_lab (by omega)))) (c_ne_int _ _)
  · congr 1
    refine List.all_eq_true.mpr fun e he => ?_
    have := L.rim e (srt_mem.mp he)
    rw [decide_eq_false]
    · rfl
    · unfold lab
      omega
end
end DT

/-! Fillings: how many doors. -/
namespace DT
open PySem
theorem dr_prop {x y : Int} : drI x y = true ↔ (x < 0 ∧ 0 < y ∧ y < -x) ∨ (y < 0 ∧ 0 < x ∧ x < -y) := by
  unfold drI
  simp only [Bool.and_eq_true, decide_eq_true_eq]
  omega
/-- 1 for a door -/
def dN (x y : Int) : Nat := if drI x y = true then 1 else 0
theorem dN_eq {x y : Int} : dN x y = if (x < 0 ∧ 0 < y ∧ y < -x) ∨ (y < 0 ∧ 0 < x ∧ x < -y) then 1 else 0 := by
  unfold dN
  by_cases h : drI x y = true
  · rw [if_pos h, if_pos (dr_prop.mp h)]
  · rw [if_neg h, if_neg fun z => h (dr_prop.mpr z)]
theorem dN_pair {x y : Int} (hx : x ≠ 0) (hy : y ≠ 0) (h : x + y ≠ 0) : dN x y + dN (-x) (-y) = if decide (0 < x) = decide (0 < y) then 0 else 1 := by
  rw [dN_eq, dN_eq]
  have e : (decide (0 < x) = decide (0 < y)) ↔ (0 < x ↔ 0 < y) := decide_eq_decide
  by_cases c : decide (0 < x) = decide (0 < y)
  · rw [if_pos c]
    have := e.mp c
    rw [if_neg (by omega), if_neg (by omega)]
  · rw [if_neg c]
    have c' : ¬ (0 < x ↔ 0 < y) := fun z => c (e.mpr z)
    by_cases d : (x < 0 ∧ 0 < y ∧ y < -x) ∨ (y < 0 ∧ 0 < x ∧ x < -y)
    · rw [if_pos d, if_neg (by omega)]
    · rw [if_neg d, if_pos (by omega)]
/-! ### the rim -/
def sumN (f : Nat → Nat) : Nat → Nat
  | 0 => 0
  | n + 1 => sumN f n + f n
theorem sumN_add (f : Nat → Nat) (a : Nat) : ∀ b, sumN f (a + b) = sumN f a + sumN (fun k => f (a + k)) b
  | 0 => rfl
  | b + 1 => by
    show sumN f (a + b) + f (a + b) = _ + (sumN (fun k => f (a + k)) b + f (a + b))
    rw [sumN_add f a b]
    omega
theorem sumN_count (p : Nat → Bool) : ∀ n, ((List.range n).filter p).length = sumN (fun k => if p k = true then 1 else 0) n
  | 0 => rfl
  | n + 1 => by
    rw [List.range_succ, List.filter_append, List.length_append, sumN_count p n]
    show _ + ([n].filter p).length = _ + (if p n = true then 1 else 0)
    by_cases h : p n = true
    · rw [List.filter_cons_of_pos h, if_pos h]
      rfl
    · rw [List.filter_cons_of_neg h, if_neg h]
      rfl
theorem flips_odd (s : Nat → Bool) : ∀ n, sumN (fun k => if s k = s (k + 1) then 0 else 1) n % 2 = if s 0 = s n then 0 else 1
  | 0 => by rw [if_pos rfl]; rfl
  | n + 1 => by
    have ih := flips_odd s n
    show (sumN (fun k => if s k = s (k + 1) then 0 else 1) n + (if s n = s (n + 1) then 0 else 1)) % 2 = _
    revert ih
    cases s 0 <;> cases s n <;> cases s (n + 1) <;> simp <;> omega
theorem rim_odd {w : Fil} {ls : List Int} {most : Nat} (ok : FilOk w) (L : LabOk w ls most) : ((rimL w.h).filter (dr ls)).length % 2 = 1 := by
  have h2 := ok.h2
  have hn := ok.hn
  have ln := L.len
  obtain ⟨m, hm⟩ : ∃ m, w.h = m + 1 := ⟨w.h - 1, by omega⟩
  have nz : ∀ k, k < 2 * w.h → lab ls k ≠ 0 := fun k hk => (L.bd _ (List.mem_of_getElem? (lab_at (by omega)))).1
  have anti : ∀ k, k < w.h → lab ls (k + w.h) = - lab ls k := L.anti
  have rimA : ∀ k, k < 2 * w.h - 1 → lab ls k + lab ls (k + 1) ≠ 0 := fun k hk => L.rim (k, k + 1) (List.mem_append_left _ (List.mem_map.mpr ⟨k, List.mem_range.mpr hk, rfl⟩))
  have rimB : lab ls 0 + lab ls (2 * w.h - 1) ≠ 0 := L.rim (0, 2 * w.h - 1) (List.mem_append_right _ List.mem_cons_self)
  have e0 : ((rimL w.h).filter (dr ls)).length = sumN (fun k => dN (lab ls k) (lab ls (k + 1))) (2 * w.h - 1) + dN (lab ls 0) (lab ls (2 * w.h - 1)) := by
    unfold rimL
    rw [List.filter_append, List.length_append, List.filter_map, List.length_map]
    have : ((List.range (2 * w.h - 1)).filter (dr ls ∘ fun k => (k, k + 1))).length = sumN (fun k => dN (lab ls k) (lab ls (k + 1))) (2 * w.h - 1) := sumN_count (dr ls ∘ fun k => (k, k + 1)) _
    rw [this]
    congr 1
    unfold dN
    by_cases c : drI (lab ls 0) (lab ls (2 * w.h - 1)) = true
    · rw [if_pos c, List.filter_cons_of_pos (show dr ls (0, 2 * w.h - 1) = true from c)]
      rfl
    · rw [if_neg c, List.filter_cons_of_neg (show ¬ dr ls (0, 2 * w.h - 1) = true from c)]
      rfl
  have e1 : 2 * w.h - 1 = (m + 1) + m := by omega
  have e2 : sumN (fun k => dN (lab ls k) (lab ls (k + 1))) ((m + 1) + m) = sumN (fun k => if decide (0 < lab ls k) = decide (0 < lab ls (k + 1)) then 0 else 1) m + dN (lab ls m) (lab ls (m + 1)) := by
    rw [sumN_add]
    show sumN (fun k => dN (lab ls k) (lab ls (k + 1))) m + dN (lab ls m) (lab ls (m + 1)) + _ = _
    have go : ∀ j, j ≤ m → sumN (fun k => dN (lab ls k) (lab ls (k + 1))) j + sumN (fun k => dN (lab ls (m + 1 + k)) (lab ls (m + 1 + k + 1))) j = sumN (fun k => if decide (0 < lab ls k) = decide (0 < lab ls (k + 1)) then 0 else 1) j := by
      intro j
      induction j with
      | zero => intro _; rfl
      | succ j ih =>
        intro hj
        have a1 := anti j (by omega)
        have a2 := anti (j + 1) (by omega)
        have q := dN_pair (nz j (by omega)) (nz (j + 1) (by omega)) (rimA j (by omega))
        have i1 : m + 1 + j = j + w.h := by omega
        have i2 : m + 1 + j + 1 = j + 1 + w.h := by omega
        show sumN _ j + dN (lab ls j) (lab ls (j + 1)) + (sumN _ j + dN (lab ls (m + 1 + j)) (lab ls (m + 1 + j + 1))) = sumN _ j + (if decide (0 < lab ls j) = decide (0 < lab ls (j + 1)) then 0 else 1)
        rw [i2, i1, a1, a2]
        have := ih (by omega)
        omega
    have := go m (Nat.le_refl _)
    omega
  have e3 : dN (lab ls m) (lab ls (m + 1)) + dN (lab ls 0) (lab ls (2 * w.h - 1)) = if decide (0 < lab ls m) = decide (0 < - lab ls 0) then 0 else 1 := by
    have a1 : lab ls (m + 1) = - lab ls 0 := by
      have := anti 0 (by omega)
      rw [Nat.zero_add, hm] at this
      exact this
    have a2 : lab ls (2 * w.h - 1) = - lab ls m := by
      have := anti m (by omega)
      have i : m + w.h = 2 * w.h - 1 := by omega
      rw [i] at this
      exact this
    rw [a1, a2]
    have q := dN_pair (x := lab ls m) (y := - lab ls 0) (nz m (by omega)) (by have := nz 0 (by omega); omega) (by have := rimA m (by omega); rw [a1] at this; exact this)
    rw [Int.neg_neg] at q
    rw [← q]
    congr 1
    rw [dN_eq, dN_eq]
    by_cases c : (lab ls 0 < 0 ∧ 0 < - lab ls m ∧ - lab ls m < - lab ls 0) ∨ (- lab ls m < 0 ∧ 0 < lab ls 0 ∧ lab ls 0 < - - lab ls m)
    · rw [if_pos c, if_pos (by omega)]
    · rw [if_neg c, if_neg (by omega)]
  have f := flips_odd (fun k => decide (0 < lab ls k)) m
  have z0 := nz 0 (by omega)
  rw [e0, e1, e2]
  have tot : (sumN (fun k => if decide (0 < lab ls k) = decide (0 < lab ls (k + 1)) then 0 else 1) m + (if decide (0 < lab ls m) = decide (0 < - lab ls 0) then 0 else 1)) % 2 = 1 := by
    have sg : decide (0 < - lab ls 0) = !decide (0 < lab ls 0) := by
      by_cases c : 0 < lab ls 0
      · rw [decide_eq_true c, decide_eq_false (by omega)]
        rfl
      · rw [decide_eq_false c, decide_eq_true (by omega)]
        rfl
    rw [sg]
    revert f
    cases decide (0 < lab ls 0) <;> cases decide (0 < lab ls m) <;> simp <;> omega
  rw [← e1]
  omega
/-! ### triangles with just one door -/
def doorsT (ls : List Int) (t : Tri) : List Tie := (tiesT t).filter (dr ls)
theorem doorsT_len (ls : List Int) (t : Tri) : (doorsT ls t).length = dN (lab ls t.1) (lab ls t.2.1) + (dN (lab ls t.1) (lab ls t.2.2) + dN (lab ls t.2.1) (lab ls t.2.2)) := by
  unfold doorsT tiesT dN
  simp only [List.filter_cons, List.filter_nil, dr]
  by_cases a : drI (lab ls t.1) (lab ls t.2.1) = true <;> by_cases b : drI (lab ls t.1) (lab ls t.2.2) = true <;> by_cases c : drI (lab ls t.2.1) (lab ls t.2.2) = true <;> simp [a, b, c]
theorem three_doors {x y z : Int} : dN x y + (dN x z + dN y z) ≤ 2 := by
  rw [dN_eq, dN_eq, dN_eq]
  split <;> split <;> split <;> omega
theorem cntT_count (t : Tri) (y : Tie) : cntT t y = (tiesT t).count y := by
  unfold cntT tiesT ind
  simp only [List.count_cons, List.count_nil]
  have e : ∀ a : Tie, (if (a == y) = true then 1 else 0) = if a = y then 1 else 0 := fun a => by
    by_cases c : a = y
    · rw [if_pos c, if_pos (by rw [c]; exact beq_self_eq_true y)]
    · rw [if_neg c, if_neg (fun z => c (eq_of_beq z))]
  rw [e, e, e]
  omega
theorem cnt_count (T : List Tri) (y : Tie) : cnt T y = (T.flatMap tiesT).count y := by
  induction T with
  | nil => rfl
  | cons t T ih => rw [cnt_cons, List.flatMap_cons, List.count_append, ih, cntT_count]
theorem count_filter' {l : List Tie} {p : Tie → Bool} {a : Tie} : (l.filter p).count a = if p a = true then l.count a else 0 := by
  by_cases h : p a = true
  · rw [if_pos h, List.count_filter h]
  · rw [if_neg h]
    exact List.count_eq_zero.mpr fun z => h (List.mem_filter.mp z).2
theorem even_twice (p : Tie → Bool) : ∀ (n : Nat) (l : List Tie), l.length = n → (∀ e, l.count e = 0 ∨ l.count e = 2) → (l.filter p).length % 2 = 0 := by
  intro n
  induction n using Nat.strongRecOn with
  | ind n ih =>
    intro l hl h
    cases l with
    | nil => rfl
    | cons a l =>
      have ha : (a :: l).count a = 2 := by
        rcases h a with z | z
        · rw [List.count_cons_self] at z
          omega
        · exact z
      rw [List.count_cons_self] at ha
      have hm : a ∈ l := List.count_pos_iff.mp (by omega)
      have pm : l.Perm (a :: l.erase a) := List.perm_cons_erase hm
      have len : (l.erase a).length + 2 = n := by
        have := pm.length_eq
        rw [List.length_cons] at this hl
        omega
      have := ih _ (by omega) (l.erase a) rfl fun e => by
        have he := h e
        have c := pm.count_eq e
        rw [List.count_cons] at he c
        by_cases z : a = e
        · subst z
          rw [if_pos (beq_self_eq_true a)] at c he
          left
          omega
        · rw [if_neg (fun w => z (eq_of_beq w))] at c he
          omega
      have e2 : ((a :: l).filter p).length = ((a :: a :: l.erase a).filter p).length := ((pm.cons a).filter p).length_eq
      rw [e2, List.filter_cons, List.filter_cons]
      split
      · rw [List.length_cons, List.length_cons]
        omega
      · exact this
theorem rimL_nodup {h : Nat} (h2 : 2 ≤ h) : (rimL h).Nodup := by
  unfold rimL
  refine List.nodup_append.mpr ⟨?_, by simp, fun a ha b hb z => ?_⟩
  · exact List.Pairwise.map _ (fun a b hab z => hab (congrArg Prod.fst z)) List.nodup_range
  · obtain ⟨k, _, rfl⟩ := List.mem_map.mp ha
    rw [List.mem_singleton.mp hb] at z
    have h1 := congrArg Prod.fst z
    have h3 := congrArg Prod.snd z
    simp only at h1 h3
    omega
/-- all doors of all triangles, and the rim's -/
theorem doors_par {w : Fil} (ok : FilOk w) (p : Tie → Bool) : ((w.T.flatMap tiesT).filter p).length % 2 = ((rimL w.h).filter p).length % 2 := by
  let q : Tie → Bool := fun e => decide (e ∈ rimL w.h)
  have pm : ((w.T.flatMap tiesT).filter q).Perm (rimL w.h) := by
    refine List.perm_iff_count.mpr fun e => ?_
    rw [count_filter']
    by_cases c : e ∈ rimL w.h
    · rw [if_pos (show q e = true from decide_eq_true c), ← cnt_count, ok.rim e c]
      have n1 := List.nodup_iff_count.mp (rimL_nodup ok.h2) e
      have n2 := List.count_pos_iff.mpr c
      omega
    · rw [if_neg (show ¬ q e = true from fun z => c (of_decide_eq_true z)), List.count_eq_zero.mpr c]
  have ev := even_twice p _ ((w.T.flatMap tiesT).filter fun e => !q e) rfl fun e => by
    rw [count_filter']
    by_cases c : e ∈ rimL w.h
    · left
      rw [if_neg (show ¬ (!q e) = true from fun z => by rw [show q e = true from decide_eq_true c] at z; cases z)]
    · rw [if_pos (show (!q e) = true by rw [show q e = false from decide_eq_false c]; rfl), ← cnt_count]
      exact ok.inn e c
  have all := ((List.filter_append_perm q (w.T.flatMap tiesT)).filter p).length_eq
  rw [List.filter_append, List.length_append, (pm.filter p).length_eq] at all
  omega
theorem lone_odd {w : Fil} {ls : List Int} {most : Nat} (ok : FilOk w) (L : LabOk w ls most) : (w.T.filter fun t => decide ((doorsT ls t).length = 1)).length % 2 = 1 := by
  have h := (doors_par ok (dr ls)).trans (rim_odd ok L)
  refine Eq.trans ?_ h
  clear h ok L
  induction w.T with
  | nil => rfl
  | cons t T ih =>
    rw [List.flatMap_cons, List.filter_append, List.length_append, List.filter_cons]
    have d : (doorsT ls t).length ≤ 2 := by
      rw [doorsT_len]
      exact three_doors
    have e : ((tiesT t).filter (dr ls)).length = (doorsT ls t).length := rfl
    rw [e]
    by_cases c : (doorsT ls t).length = 1
    · rw [if_pos (decide_eq_true c), List.length_cons]
      omega
    · rw [if_neg (by simpa using c)]
      omega
end DT

/-! Fillings: turn by turn. -/
namespace DT
open PySem
theorem absI_nat (x : Int) : absI x = (x.natAbs : Int) := by
  unfold absI
  split <;> omega
theorem asort_srt (l : List Int) : (asort l).Pairwise fun a b => absI a ≤ absI b := by
  have := List.pairwise_mergeSort (le := fun a b : Int => decide (absI a ≤ absI b)) (fun a b c x y => decide_eq_true (Int.le_trans (of_decide_eq_true x) (of_decide_eq_true y))) (fun a b => by
    rcases Int.le_total (absI a) (absI b) with z | z
    · simp [z]
    · simp [z]) l
  exact this.imp fun z => of_decide_eq_true z
theorem asort_eq {l l' : List Int} (s : l'.Pairwise fun a b => absI a < absI b) (p : l'.Perm l) : asort l = l' := by
  refine List.Perm.eq_of_pairwise (le := fun a b => absI a ≤ absI b) (fun a b ha hb x y => ?_) (asort_srt l) (s.imp fun z => Int.le_of_lt z) ((List.mergeSort_perm l _).trans p.symm)
  have ha' : a ∈ l' := p.mem_iff.mpr ((List.mergeSort_perm l _).mem_iff.mp ha)
  have go : ∀ l : List Int, (l.Pairwise fun a b => absI a < absI b) → ∀ a b, a ∈ l → b ∈ l → absI a = absI b → a = b := by
    intro l
    induction l with
    | nil => intro _ a b ha; cases ha
    | cons c l ih =>
      intro s a b ha hb e
      obtain ⟨s1, s2⟩ := List.pairwise_cons.mp s
      rcases List.mem_cons.mp ha with q1 | q1 <;> rcases List.mem_cons.mp hb with q2 | q2
      · rw [q1, q2]
      · have := s1 b q2
        rw [q1] at e
        omega
      · have := s1 a q1
        rw [q2] at e
        omega
      · exact ih s2 a b q1 q2 e
  exact go l' s a b ha' hb (Int.le_antisymm x y)
/-- by the sizes: alike for each order of three labels -/
theorem trn_by {x y z p q r : Int} (h1 : absI p < absI q) (h2 : absI q < absI r) (pm : [p, q, r].Perm [x, y, z]) : trn x y z = ((decide (0 < p) != decide (0 < q)) && (decide (0 < q) != decide (0 < r))) := by
  have s : [p, q, r].Pairwise fun a b => absI a < absI b := by
    simp
    omega
  unfold trn
  rw [asort_eq s pm]
  show trnQ p q r = _
  unfold trnQ
  rw [decide_eq_true h1, decide_eq_true h2]
  rfl
theorem trn_same {x y z : Int} (h : absI x = absI y ∨ absI x = absI z ∨ absI y = absI z) : trn x y z = false := by
  unfold trn
  have pm : (asort [x, y, z]).Perm [x, y, z] := List.mergeSort_perm _ _
  have hl := len3 (asort_len [x, y, z])
  generalize asort [x, y, z] = L at *
  generalize L.getD 0 0 = p at *
  generalize L.getD 1 0 = q at *
  generalize L.getD 2 0 = r at *
  subst hl
  unfold trnQ
  by_cases c : absI p < absI q ∧ absI q < absI r
  · exfalso
    have nd : ([p, q, r].map absI).Nodup := by
      simp
      omega
    have nd2 := (pm.map absI).nodup_iff.mp nd
    simp at nd2
    omega
  · have : (decide (absI p < absI q) && decide (absI q < absI r)) = false := by
      rw [Bool.and_eq_false_iff]
      by_cases d : absI p < absI q
      · exact .inr (decide_eq_false fun z => c ⟨d, z⟩)
      · exact .inl (decide_eq_false d)
    rw [this]
    rfl
theorem three_perm {x y z p q r : Int} (pm : [p, q, r].Perm [x, y, z]) : (x = p ∧ y = q ∧ z = r) ∨ (x = p ∧ y = r ∧ z = q) ∨ (x = q ∧ y = p ∧ z = r) ∨ (x = q ∧ y = r ∧ z = p) ∨ (x = r ∧ y = p ∧ z = q) ∨ (x = r ∧ y = q ∧ z = p) := by
  have h1 : x ∈ [p, q, r] := pm.mem_iff.mpr (by simp)
  simp only [List.mem_cons, List.not_mem_nil, or_false] at h1
  have two : ∀ {a b c d : Int}, [a, b].Perm [c, d] → (c = a ∧ d = b) ∨ (c = b ∧ d = a) := fun {a b c d} h => by
    have h2 : c ∈ [a, b] := h.mem_iff.mpr (by simp)
    simp only [List.mem_cons, List.not_mem_nil, or_false] at h2
    rcases h2 with rfl | rfl
    · have := h.cons_inv
      have := List.perm_singleton.mp this.symm
      simp at this
      exact .inl ⟨rfl, this⟩
    · have := ((List.Perm.swap a c []).trans h).cons_inv
      have := List.perm_singleton.mp this.symm
      simp at this
      exact .inr ⟨rfl, this⟩
  rcases h1 with rfl | rfl | rfl
  · rcases two pm.cons_inv with ⟨rfl, rfl⟩ | ⟨rfl, rfl⟩ <;> simp
  · rcases two (((List.Perm.swap p x [r]).trans pm).cons_inv) with ⟨rfl, rfl⟩ | ⟨rfl, rfl⟩ <;> simp
  · rcases two ((((List.Perm.swap p x [q]).trans ((List.Perm.swap q x []).cons p)).trans pm).cons_inv) with ⟨rfl, rfl⟩ | ⟨rfl, rfl⟩ <;> simp
/-- just one door, or turned -/
theorem door_turn {x y z : Int} (hx : x ≠ 0) (hy : y ≠ 0) (hz : z ≠ 0) (h1 : x + y ≠ 0) (h2 : x + z ≠ 0) (h3 : y + z ≠ 0) : decide (dN x y + (dN x z + dN y z) = 1) = trn x y z := by
  by_cases c : absI x = absI y ∨ absI x = absI z ∨ absI y = absI z
  · rw [trn_same c, decide_eq_false]
    rw [dN_eq, dN_eq, dN_eq]
    unfold absI at c
    split <;> split <;> split <;> split at c <;> split at c <;> split at c <;> omega
  · have pm : (asort [x, y, z]).Perm [x, y, z] := List.mergeSort_perm _ _
    have hl := len3 (asort_len [x, y, z])
    have sr := asort_srt [x, y, z]
    generalize asort [x, y, z] = L at *
    generalize L.getD 0 0 = p at *
    generalize L.getD 1 0 = q at *
    generalize L.getD 2 0 = r at *
    subst hl
    simp at sr
    have hp := three_perm pm
    have s1 : absI p < absI q := by
      rcases hp with ⟨rfl, rfl, rfl⟩ | ⟨rfl, rfl, rfl⟩ | ⟨rfl, rfl, rfl⟩ | ⟨rfl, rfl, rfl⟩ | ⟨rfl, rfl, rfl⟩ | ⟨rfl, rfl, rfl⟩ <;> omega
    have s2 : absI q < absI r := by
      rcases hp with ⟨rfl, rfl, rfl⟩ | ⟨rfl, rfl, rfl⟩ | ⟨rfl, rfl, rfl⟩ | ⟨rfl, rfl, rfl⟩ | ⟨rfl, rfl, rfl⟩ | ⟨rfl, rfl, rfl⟩ <;> omega
    rw [trn_by s1 s2 pm]
    have np : p ≠ 0 ∧ q ≠ 0 ∧ r ≠ 0 := by
      rcases hp with ⟨rfl, rfl, rfl⟩ | ⟨rfl, rfl, rfl⟩ | ⟨rfl, rfl, rfl⟩ | ⟨rfl, rfl, rfl⟩ | ⟨rfl, rfl, rfl⟩ | ⟨rfl, rfl, rfl⟩ <;> exact ⟨by assumption, by assumption, by assumption⟩
    have sym : ∀ a b : Int, dN a b = dN b a := fun a b => by
      rw [dN_eq, dN_eq]
      split <;> split <;> omega
    have tot : dN x y + (dN x z + dN y z) = dN p q + (dN p r + dN q r) := by
      rcases hp with ⟨rfl, rfl, rfl⟩ | ⟨rfl, rfl, rfl⟩ | ⟨rfl, rfl, rfl⟩ | ⟨rfl, rfl, rfl⟩ | ⟨rfl, rfl, rfl⟩ | ⟨rfl, rfl, rfl⟩
      · rfl
      · rw [sym y z]; omega
      · rw [sym x y]; omega
      · rw [sym x z, sym y z]; omega
      · rw [sym x y, sym x z]; omega
      · rw [sym x y, sym x z, sym y z]; omega
    rw [tot]
    rw [absI_nat, absI_nat] at s1 s2
    have a1 : dN p q = if 0 < p ∧ q < 0 then 1 else 0 := by
      rw [dN_eq]
      split <;> split <;> omega
    have a2 : dN p r = if 0 < p ∧ r < 0 then 1 else 0 := by
      rw [dN_eq]
      split <;> split <;> omega
    have a3 : dN q r = if 0 < q ∧ r < 0 then 1 else 0 := by
      rw [dN_eq]
      split <;> split <;> omega
    have hq : q < 0 ↔ ¬ 0 < q := by omega
    have hr : r < 0 ↔ ¬ 0 < r := by omega
    rw [a1, a2, a3]
    simp only [hq, hr]
    by_cases c1 : 0 < p <;> by_cases c2 : 0 < q <;> by_cases c3 : 0 < r <;> simp [c1, c2, c3]
end DT

/-! Walks: a step that no two share, from a place that none comes to, ends. -/
namespace DT
open PySem
theorem nodup_sub {α : Type} [DecidableEq α] : ∀ {S A : List α}, S.Nodup → (∀ x, x ∈ S → x ∈ A) → S.length ≤ A.length
  | [], _, _, _ => Nat.zero_le _
  | x :: S, A, nd, h => by
    have hx := h x List.mem_cons_self
    have := nodup_sub (S := S) (A := A.erase x) (List.nodup_cons.mp nd).2 fun y hy => (List.mem_erase_of_ne fun e => (List.nodup_cons.mp nd).1 (by rw [← e]; exact hy)).mpr (h y (List.mem_cons_of_mem _ hy))
    rw [List.length_erase_of_mem hx] at this
    have := List.length_pos_of_mem hx
    rw [List.length_cons]
    omega
section
variable {α : Type} {nx : α → Option α}
inductive Run (nx : α → Option α) : α → List α → Prop where
  | one {s : α} (h : nx s = none) : Run nx s [s]
  | more {s s' : α} {L : List α} (h : nx s = some s') (r : Run nx s' L) : Run nx s (s :: L)
theorem Run.ne {s : α} {L : List α} (h : Run nx s L) : L ≠ [] := by
  cases h <;> simp
theorem Run.head {s : α} {L : List α} (h : Run nx s L) : ∃ L', L = s :: L' := by
  cases h with
  | one _ => exact ⟨_, rfl⟩
  | more _ _ => exact ⟨_, rfl⟩
theorem run_ex [DecidableEq α] {V : α → Prop} {U : List α} (hU : ∀ s, V s → s ∈ U) (hV : ∀ s s', V s → nx s = some s' → V s') (inj : ∀ a b c, V a → V b → nx a = some c → nx b = some c → a = b) {s0 : α} (h0 : ∀ p, V p → nx p ≠ some s0) : ∀ (n : Nat) (vis : List α) (s : α), U.length ≤ vis.length + n → (vis ++ [s]).Nodup → (∀ x, x ∈ vis ++ [s] → V x ∧ (x = s0 ∨ ∃ p, p ∈ vis ∧ nx p = some x)) → ∃ L, Run nx s L ∧ L.length ≤ n
  | 0, vis, s, hn, nd, h => by
    have := nodup_sub nd fun x hx => hU x (h x hx).1
    rw [List.length_append, List.length_singleton] at this
    omega
  | n + 1, vis, s, hn, nd, h => by
    have hs := h s (List.mem_append_right _ List.mem_cons_self)
    cases e : nx s with
    | none => exact ⟨[s], .one e, by rw [List.length_singleton]; omega⟩
    | some s' =>
      have nin : s' ∉ vis ++ [s] := fun m => by
        rcases (h s' m).2 with rfl | ⟨p, hp, e2⟩
        · exact h0 s hs.1 e
        · have := inj p s s' (h p (List.mem_append_left _ hp)).1 hs.1 e2 e
          subst this
          have q := List.nodup_append.mp nd
          exact q.2.2 p hp p List.mem_cons_self rfl
      obtain ⟨L, r, hl⟩ := run_ex hU hV inj h0 n (vis ++ [s]) s' (by rw [List.length_append, List.length_singleton]; omega) (by
        refine List.nodup_append.mpr ⟨nd, List.nodup_cons.mpr ⟨List.not_mem_nil, List.nodup_nil⟩, fun a ha b hb => ?_⟩
        obtain rfl := List.mem_singleton.mp hb
        exact fun z => nin (z ▸ ha)) (fun x hx => by
        rcases List.mem_append.mp hx with hx | hx
        · obtain ⟨a, b⟩ := h x hx
          refine ⟨a, b.imp id ?_⟩
          rintro ⟨p, hp, e2⟩
          exact ⟨p, List.mem_append_left _ hp, e2⟩
        · obtain rfl := List.mem_singleton.mp hx
          exact ⟨hV _ _ hs.1 e, .inr ⟨s, List.mem_append_right _ List.mem_cons_self, e⟩⟩)
      exact ⟨s :: L, .more e r, by rw [List.length_cons]; omega⟩
def runN (nx : α → Option α) : Nat → α → List α
  | 0, s => [s]
  | n + 1, s => match nx s with
    | none => [s]
    | some s' => s :: runN nx n s'
theorem runN_eq : ∀ {n : Nat} {s : α} {L : List α}, Run nx s L → L.length ≤ n + 1 → runN nx n s = L
  | n, s, _, .one h, _ => by
    cases n with
    | zero => rfl
    | succ n => rw [runN, h]
  | 0, s, _, .more h r, hl => by
    have := List.length_pos_iff.mpr r.ne
    rw [List.length_cons] at hl
    omega
  | n + 1, s, _, .more h r, hl => by
    rw [runN, h]
    dsimp only
    rw [runN_eq r (by rw [List.length_cons] at hl; omega)]
theorem Run.det {s : α} {L L' : List α} (h : Run nx s L) (h' : Run nx s L') : L = L' := by
  have a := runN_eq (n := L.length + L'.length) h (by omega)
  have b := runN_eq (n := L.length + L'.length) h' (by omega)
  exact a.symm.trans b
theorem Run.all {V : α → Prop} (hV : ∀ s s', V s → nx s = some s' → V s') {s : α} {L : List α} (h : Run nx s L) : V s → ∀ x, x ∈ L → V x := by
  induction h with
  | one h =>
    intro v x hx
    obtain rfl := List.mem_singleton.mp hx
    exact v
  | more h r ih =>
    intro v x hx
    rcases List.mem_cons.mp hx with rfl | hx
    · exact v
    · exact ih (hV _ _ v h) x hx
theorem Run.last {s : α} {L : List α} (h : Run nx s L) : ∃ z, L.getLast? = some z ∧ nx z = none := by
  induction h with
  | one h => exact ⟨_, rfl, h⟩
  | more h r ih =>
    obtain ⟨z, h1, h2⟩ := ih
    refine ⟨z, ?_, h2⟩
    obtain ⟨L', rfl⟩ := r.head
    rw [List.getLast?_cons_cons]
    exact h1
/-- steps taken back: from what a run comes to, the other way -/
theorem Run.back {rv : α → α} {s : α} {L : List α} (h : Run nx s L) : (∀ a b, a ∈ L → b ∈ L → nx a = some b → nx (rv b) = some (rv a)) → ∀ (A : List α), Run nx (rv s) A → ∀ z, L.getLast? = some z → Run nx (rv z) ((L.tail.map rv).reverse ++ A) := by
  induction h with
  | one h =>
    intro _ A r z hz
    obtain rfl := Option.some.inj hz
    exact r
  | @more s s' L h r ih =>
    intro st A ra z hz
    obtain ⟨L', rfl⟩ := r.head
    have e := st _ _ List.mem_cons_self (List.mem_cons_of_mem _ List.mem_cons_self) h
    rw [List.getLast?_cons_cons] at hz
    have := ih (fun a b ha hb => st a b (List.mem_cons_of_mem _ ha) (List.mem_cons_of_mem _ hb)) (rv s' :: A) (.more e ra) z hz
    rw [List.tail_cons] at this ⊢
    rw [List.map_cons, List.reverse_cons, List.append_assoc]
    exact this
theorem Run.turn {rv : α → α} {s : α} {L : List α} (h : Run nx s L) (st : ∀ a b, a ∈ L → b ∈ L → nx a = some b → nx (rv b) = some (rv a)) (h0 : nx (rv s) = none) {z : α} (hz : L.getLast? = some z) : Run nx (rv z) (L.map rv).reverse := by
  have := h.back st [rv s] (.one h0) z hz
  obtain ⟨L', rfl⟩ := h.head
  rw [List.map_cons, List.reverse_cons]
  exact this
theorem Run.nth {s : α} {L : List α} (h : Run nx s L) : ∀ (i : Nat) (h1 : i + 1 < L.length), nx (L[i]'(by omega)) = some L[i + 1] := by
  induction h with
  | one h =>
    intro i h1
    rw [List.length_singleton] at h1
    omega
  | more h r ih =>
    intro i h1
    obtain ⟨L', rfl⟩ := r.head
    cases i with
    | zero => exact h
    | succ i => exact ih i (by rw [List.length_cons] at h1; omega)
theorem Run.nopal {rv : α → α} {s : α} {L : List α} (h : Run nx s L) (h1 : ∀ a b, a ∈ L → b ∈ L → nx a = some b → rv b ≠ a) (h2 : ∀ a, a ∈ L → rv a ≠ a) : (L.map rv).reverse ≠ L := fun e => by
  have hp := List.length_pos_iff.mpr h.ne
  have key : ∀ i j (hi : i < L.length) (hj : j < L.length), i + j + 1 = L.length → L[i] = rv L[j] := fun i j hi hj hij => by
    have a : (L.map rv).reverse[i]? = L[i]? := by rw [e]
    rw [List.getElem?_reverse (by rw [List.length_map]; exact hi), List.length_map, List.getElem?_map, show L.length - 1 - i = j by omega, List.getElem?_eq_getElem hi, List.getElem?_eq_getElem hj] at a
    exact (Option.some.inj a).symm
  by_cases o : L.length % 2 = 1
  · exact h2 _ (List.getElem_mem _) (key (L.length / 2) (L.length / 2) (by omega) (by omega) (by omega)).symm
  · have hlt : L.length / 2 - 1 + 1 < L.length := by omega
    exact h1 _ _ (List.getElem_mem _) (List.getElem_mem _) (h.nth (L.length / 2 - 1) hlt) (key (L.length / 2 - 1) (L.length / 2 - 1 + 1) (by omega) hlt (by omega)).symm
end
/-- pairs: what goes to another and back is even -/
theorem even_pairs {α : Type} [DecidableEq α] {f : α → α} : ∀ (n : Nat) (l : List α), l.length = n → l.Nodup → (∀ x, x ∈ l → f x ∈ l ∧ f (f x) = x ∧ f x ≠ x) → l.length % 2 = 0
  | n, [], _, _, _ => rfl
  | n, x :: l, hn, nd, h => by
    obtain ⟨h1, h2, h3⟩ := h x List.mem_cons_self
    have nd' := List.nodup_cons.mp nd
    have m : f x ∈ l := by
      rcases List.mem_cons.mp h1 with e | e
      · exact absurd e h3
      · exact e
    have hl := List.length_erase_of_mem m
    have hp := List.length_pos_of_mem m
    have nd2 := nd'.2.erase (f x)
    rw [List.length_cons] at hn
    have := even_pairs (f := f) (l.erase (f x)).length (l.erase (f x)) rfl nd2 fun y hy => by
      have hy' := (List.Nodup.mem_erase_iff nd'.2).mp hy
      obtain ⟨a, b, c⟩ := h y (List.mem_cons_of_mem _ hy'.2)
      refine ⟨(List.Nodup.mem_erase_iff nd'.2).mpr ⟨fun e => ?_, ?_⟩, b, c⟩
      · have : y = x := by
          rw [← b, e, h2]
        exact nd'.1 (this ▸ hy'.2)
      · rcases List.mem_cons.mp a with e | e
        · exact absurd (by rw [← b, e]) hy'.1
        · exact e
    rw [List.length_cons]
    omega
  termination_by n => n
  decreasing_by
    have hl := List.length_erase_of_mem m
    have hp := List.length_pos_of_mem m
    rw [List.length_cons] at hn
    omega
end DT

/-! Walks from rim doors. -/
namespace DT
open PySem
theorem Run.mem {α : Type} {nx : α → Option α} {s : α} {L : List α} (h : Run nx s L) : ∀ a, a ∈ L → L.getLast? = some a ∨ ∃ b, b ∈ L ∧ nx a = some b := by
  induction h with
  | one h =>
    intro a ha
    obtain rfl := List.mem_singleton.mp ha
    exact .inl rfl
  | more h r ih =>
    intro a ha
    obtain ⟨L', rfl⟩ := r.head
    rcases List.mem_cons.mp ha with rfl | ha
    · exact .inr ⟨_, List.mem_cons_of_mem _ List.mem_cons_self, h⟩
    · rw [List.getLast?_cons_cons]
      exact (ih a ha).imp id fun ⟨b, hb, e⟩ => ⟨b, List.mem_cons_of_mem _ hb, e⟩
/-- of two at most, the other one -/
theorem two_one {α : Type} [DecidableEq α] {l : List α} (nd : l.Nodup) (h : l.length ≤ 2) {x y : α} (hx : x ∈ l) (hy : y ∈ l) (ne : x ≠ y) : l.filter (fun d => !decide (d = y)) = [x] := by
  match l, h with
  | [], _ => cases hx
  | [a], _ =>
    rw [List.mem_singleton] at hx hy
    exact absurd (hx.trans hy.symm) ne
  | [a, b], _ =>
    simp only [List.mem_cons, List.not_mem_nil, or_false] at hx hy
    have nab : a ≠ b := by
      simp at nd
      exact nd
    rcases hx with rfl | rfl <;> rcases hy with rfl | rfl
    · exact absurd rfl ne
    · simp [nab]
    · simp [nab.symm]
    · exact absurd rfl ne
theorem two_eq {α : Type} [DecidableEq α] {l : List α} (nd : l.Nodup) (h : l.length ≤ 2) {x y z : α} (hx : x ∈ l) (hy : y ∈ l) (hz : z ∈ l) (n1 : x ≠ z) (n2 : y ≠ z) : x = y := by
  have a := two_one nd h hx hz n1
  have b := two_one nd h hy hz n2
  rw [a] at b
  exact List.head_eq_of_cons_eq b
def tr0 : Tri := (0, 0, 0)
def hereN (ls : List Int) (T : List Tri) (s : Nat × Tie) : Option Tie := ((doorsT ls (T.getD s.1 tr0)).filter fun d => !decide (d = s.2)).head?
def goN (ls : List Int) (T : List Tri) (s : Nat × Tie) : Option (Nat × Tie) := (hereN ls T s).bind fun e => (((tsOf T e).filter fun i => !decide (i = s.1)).head?).map fun i => (i, e)
def WkOk (ls : List Int) (T : List Tri) (s : Nat × Tie) : Prop := ∃ t, T[s.1]? = some t ∧ s.2 ∈ doorsT ls t
theorem getD_tr {T : List Tri} {i : Nat} {t : Tri} (h : T[i]? = some t) : T.getD i tr0 = t := by
  rw [List.getD_eq_getElem?_getD, h]
  rfl
section
variable {w : Fil} {ls : List Int}
theorem here_mem {T : List Tri} {s : Nat × Tie} {e : Tie} (h : hereN ls T s = some e) : e ∈ doorsT ls (T.getD s.1 tr0) ∧ e ≠ s.2 := by
  have m := List.mem_of_head? h
  obtain ⟨a, b⟩ := List.mem_filter.mp m
  exact ⟨a, by simpa using b⟩
theorem goN_some {T : List Tri} {s s' : Nat × Tie} (h : goN ls T s = some s') : hereN ls T s = some s'.2 ∧ s'.1 ∈ tsOf T s'.2 ∧ s'.1 ≠ s.1 := by
  unfold goN at h
  obtain ⟨e, h1, h2⟩ := Option.bind_eq_some_iff.mp h
  obtain ⟨i, h3, rfl⟩ := Option.map_eq_some_iff.mp h2
  obtain ⟨a, b⟩ := List.mem_filter.mp (List.mem_of_head? h3)
  exact ⟨h1, a, by simpa using b⟩
theorem ties_nodup {t : Tri} (a : Asc t) : (tiesT t).Nodup := by
  obtain ⟨x, y, z⟩ := t
  obtain ⟨h1, h2⟩ := a
  unfold tiesT
  simp at *
  omega
theorem doors_nodup {t : Tri} (a : Asc t) : (doorsT ls t).Nodup := (ties_nodup a).filter _
theorem doors_le (t : Tri) : (doorsT ls t).length ≤ 2 := by
  rw [doorsT_len]
  exact three_doors
theorem FilOk.as (ok : FilOk w) : ∀ t, t ∈ w.T → Asc t := fun t h => (ok.asc t h).1
theorem ts_le (ok : FilOk w) (e : Tie) : (tsOf w.T e).length ≤ 2 := by
  rw [ts_len ok.as]
  by_cases h : e ∈ rimL w.h
  · rw [ok.rim e h]
    omega
  · have := ok.inn e h
    omega
theorem ts_nodup (ok : FilOk w) (e : Tie) : (tsOf w.T e).Nodup := by
  rw [tsOf_eq ok.as]
  have : (w.T.zipIdx.map (·.2)).Nodup := by
    rw [List.zipIdx_map_snd]
    exact List.nodup_range'
  exact List.Nodup.sublist (List.Sublist.map _ List.filter_sublist) this
theorem door_ts (ok : FilOk w) {i : Nat} {t : Tri} {e : Tie} (h : w.T[i]? = some t) (he : e ∈ doorsT ls t) : i ∈ tsOf w.T e := (ts_mem ok.as).mpr ⟨t, h, (List.mem_filter.mp he).1⟩
theorem WkOk.next (ok : FilOk w) {s s' : Nat × Tie} (v : WkOk ls w.T s) (h : goN ls w.T s = some s') : WkOk ls w.T s' := by
  obtain ⟨h1, h2, h3⟩ := goN_some h
  obtain ⟨t, ht, hd⟩ := (ts_mem ok.as).mp h2
  exact ⟨t, ht, List.mem_filter.mpr ⟨hd, (List.mem_filter.mp (here_mem h1).1).2⟩⟩
theorem goN_inj (ok : FilOk w) {a b c : Nat × Tie} (va : WkOk ls w.T a) (vb : WkOk ls w.T b) (ha : goN ls w.T a = some c) (hb : goN ls w.T b = some c) : a = b := by
  obtain ⟨a1, a2, a3⟩ := goN_some ha
  obtain ⟨b1, b2, b3⟩ := goN_some hb
  obtain ⟨t, ht, hd⟩ := va
  obtain ⟨t', ht', hd'⟩ := vb
  have ma := here_mem a1
  have mb := here_mem b1
  rw [getD_tr ht] at ma
  rw [getD_tr ht'] at mb
  have e1 : a.1 = b.1 := two_eq (ts_nodup ok c.2) (ts_le ok c.2) (door_ts ok ht ma.1) (door_ts ok ht' mb.1) a2 a3.symm b3.symm
  rw [e1] at ht
  obtain rfl := Option.some.inj (ht.symm.trans ht')
  have e2 : a.2 = b.2 := two_eq (doors_nodup (ok.as t (List.mem_of_getElem? ht))) (doors_le t) hd hd' ma.1 ma.2.symm mb.2.symm
  exact Prod.ext e1 e2
def strt (T : List Tri) (e : Tie) : Nat := (tsOf T e).headD 0
theorem rim_ts (ok : FilOk w) {e : Tie} (he : e ∈ rimL w.h) : tsOf w.T e = [strt w.T e] := by
  have := ts_len (e := e) ok.as
  rw [ok.rim e he] at this
  unfold strt
  match tsOf w.T e, this with
  | [x], _ => rfl
theorem strt_ok (ok : FilOk w) {e : Tie} (he : e ∈ rimL w.h) (hd : dr ls e = true) : WkOk ls w.T (strt w.T e, e) := by
  have : strt w.T e ∈ tsOf w.T e := by
    rw [rim_ts ok he]
    exact List.mem_cons_self
  obtain ⟨t, h1, h2⟩ := (ts_mem ok.as).mp this
  exact ⟨t, h1, List.mem_filter.mpr ⟨h2, hd⟩⟩
theorem strt_none (ok : FilOk w) {e : Tie} (he : e ∈ rimL w.h) {p : Nat × Tie} (v : WkOk ls w.T p) : goN ls w.T p ≠ some (strt w.T e, e) := fun h => by
  obtain ⟨a1, a2, a3⟩ := goN_some h
  obtain ⟨t, ht, hd⟩ := v
  have ma := here_mem a1
  rw [getD_tr ht] at ma
  have := door_ts ok ht ma.1
  dsimp only at this
  rw [rim_ts ok he, List.mem_singleton] at this
  exact a3 this.symm
def univ (T : List Tri) : List (Nat × Tie) := (List.range T.length).flatMap fun i => (tiesT (T.getD i tr0)).map fun e => (i, e)
theorem univ_len (T : List Tri) : (univ T).length = 3 * T.length := by
  unfold univ
  have : ∀ l : List Nat, (l.flatMap fun i => (tiesT (T.getD i tr0)).map fun e => (i, e)).length = 3 * l.length := fun l => by
    induction l with
    | nil => rfl
    | cons a l ih =>
      rw [List.flatMap_cons, List.length_append, ih, List.length_cons]
      show 3 + _ = _
      omega
  rw [this, List.length_range]
theorem univ_mem {T : List Tri} {s : Nat × Tie} (v : WkOk ls T s) : s ∈ univ T := by
  obtain ⟨t, ht, hd⟩ := v
  obtain ⟨hi, _⟩ := List.getElem?_eq_some_iff.mp ht
  exact List.mem_flatMap.mpr ⟨s.1, List.mem_range.mpr hi, List.mem_map.mpr ⟨s.2, by rw [getD_tr ht]; exact (List.mem_filter.mp hd).1, rfl⟩⟩
def walkL (ls : List Int) (T : List Tri) (e : Tie) : List (Nat × Tie) := runN (goN ls T) (3 * T.length) (strt T e, e)
theorem walk_run (ok : FilOk w) {e : Tie} (he : e ∈ rimL w.h) (hd : dr ls e = true) : Run (goN ls w.T) (strt w.T e, e) (walkL ls w.T e) ∧ (walkL ls w.T e).length ≤ 3 * w.T.length := by
  obtain ⟨L, r, hl⟩ := run_ex (nx := goN ls w.T) (V := WkOk ls w.T) (U := univ w.T) (fun s v => univ_mem v) (fun s s' v h => v.next ok h) (fun a b c va vb ha hb => goN_inj ok va vb ha hb) (s0 := (strt w.T e, e)) (fun p v => strt_none ok he v) (3 * w.T.length) [] (strt w.T e, e) (by rw [univ_len]; exact Nat.le_of_eq (Nat.zero_add _).symm) (List.nodup_cons.mpr ⟨List.not_mem_nil, List.nodup_nil⟩) (fun x hx => by
    obtain rfl := List.mem_singleton.mp hx
    exact ⟨strt_ok ok he hd, .inl rfl⟩)
  have e2 : walkL ls w.T e = L := runN_eq r (by omega)
  rw [e2]
  exact ⟨r, hl⟩
def wEnd (ls : List Int) (T : List Tri) (e : Tie) : Option Tie := ((walkL ls T e).getLast?).bind (hereN ls T)
def trsL (ls : List Int) (T : List Tri) (e : Tie) : List Nat := (walkL ls T e).map (·.1)
def rvN (ls : List Int) (T : List Tri) (s : Nat × Tie) : Nat × Tie := (s.1, (hereN ls T s).getD s.2)
theorem here_back (ok : FilOk w) {s : Nat × Tie} {e : Tie} (v : WkOk ls w.T s) (h : hereN ls w.T s = some e) : rvN ls w.T s = (s.1, e) ∧ hereN ls w.T (rvN ls w.T s) = some s.2 ∧ e ∈ doorsT ls (w.T.getD s.1 tr0) := by
  obtain ⟨t, ht, hd⟩ := v
  have m := here_mem h
  have e1 : rvN ls w.T s = (s.1, e) := by
    unfold rvN
    rw [h]
    rfl
  refine ⟨e1, ?_, m.1⟩
  rw [e1]
  rw [getD_tr ht] at m
  unfold hereN
  dsimp only
  rw [getD_tr ht, two_one (doors_nodup (ok.as t (List.mem_of_getElem? ht))) (doors_le t) hd m.1 m.2.symm]
  rfl
theorem goN_back (ok : FilOk w) {a b : Nat × Tie} {e : Tie} (va : WkOk ls w.T a) (h : goN ls w.T a = some b) (hb : hereN ls w.T b = some e) : goN ls w.T (rvN ls w.T b) = some (rvN ls w.T a) := by
  obtain ⟨a1, a2, a3⟩ := goN_some h
  have vb := va.next ok h
  obtain ⟨b1, b2, b3⟩ := here_back ok vb hb
  obtain ⟨c1, c2, c3⟩ := here_back ok va a1
  obtain ⟨t, ht, hd⟩ := va
  have ma := (here_mem a1).1
  rw [getD_tr ht] at ma
  have k := two_one (ts_nodup ok b.2) (ts_le ok b.2) (door_ts ok ht ma) a2 a3.symm
  unfold goN
  rw [b2]
  show (((tsOf w.T b.2).filter fun i => !decide (i = b.1)).head?).map _ = _
  rw [k, c1]
  rfl
/-- a walk that ends at the rim, back -/
theorem walk_exit (ok : FilOk w) {e e' : Tie} (he : e ∈ rimL w.h) (hd : dr ls e = true) (h : wEnd ls w.T e = some e') : e' ∈ rimL w.h ∧ dr ls e' = true ∧ wEnd ls w.T e' = some e ∧ trsL ls w.T e' = (trsL ls w.T e).reverse ∧ e' ≠ e := by
  obtain ⟨r, hl⟩ := walk_run ok he hd
  have v0 := strt_ok ok he hd
  have va := r.all (V := WkOk ls w.T) (fun s s' v h => v.next ok h) v0
  obtain ⟨z, hz, hn⟩ := r.last
  unfold wEnd at h
  rw [hz] at h
  have hz' : hereN ls w.T z = some e' := h
  have zm : z ∈ walkL ls w.T e := List.mem_of_getLast? hz
  have vz := va z zm
  have all : ∀ a, a ∈ walkL ls w.T e → ∃ x, hereN ls w.T a = some x := fun a ha => by
    rcases r.mem a ha with q | ⟨b, _, q⟩
    · rw [hz] at q
      obtain rfl := Option.some.inj q
      exact ⟨_, hz'⟩
    · exact ⟨_, (goN_some q).1⟩
  obtain ⟨t, ht, htd⟩ := vz
  have mz := here_mem hz'
  rw [getD_tr ht] at mz
  have de : dr ls e' = true := (List.mem_filter.mp mz.1).2
  have zt := door_ts ok ht mz.1
  have one : tsOf w.T e' = [z.1] := by
    unfold goN at hn
    rw [hz'] at hn
    have hn' : (((tsOf w.T e').filter fun i => !decide (i = z.1)).head?).map (fun i => (i, e')) = none := hn
    rw [Option.map_eq_none_iff, List.head?_eq_none_iff, List.filter_eq_nil_iff] at hn'
    have nd := ts_nodup ok e'
    have al : ∀ i, i ∈ tsOf w.T e' → i = z.1 := fun i hi => by
      have := hn' i hi
      simpa using this
    match tsOf w.T e', zt, nd, al with
    | [x], _, _, al => rw [al x List.mem_cons_self]
    | x :: y :: l, _, nd, al =>
      have a := al x List.mem_cons_self
      have b := al y (List.mem_cons_of_mem _ List.mem_cons_self)
      rw [a, b] at nd
      exact absurd List.mem_cons_self (List.nodup_cons.mp nd).1
  have re : e' ∈ rimL w.h := Classical.byContradiction fun q => by
    have a := ok.inn e' q
    rw [← ts_len ok.as, one, List.length_singleton] at a
    omega
  have st : ∀ a b, a ∈ walkL ls w.T e → b ∈ walkL ls w.T e → goN ls w.T a = some b → goN ls w.T (rvN ls w.T b) = some (rvN ls w.T a) := fun a b ha hb q => by
    obtain ⟨x, hx⟩ := all b hb
    exact goN_back ok (va a ha) q hx
  obtain ⟨L', hL'⟩ := r.head
  have m0 : (strt w.T e, e) ∈ walkL ls w.T e := by
    rw [hL']
    exact List.mem_cons_self
  obtain ⟨x0, hx0⟩ := all _ m0
  obtain ⟨p1, p2, p3⟩ := here_back ok v0 hx0
  have h0 : goN ls w.T (rvN ls w.T (strt w.T e, e)) = none := by
    unfold goN
    rw [p2]
    show (((tsOf w.T e).filter fun i => !decide (i = (rvN ls w.T (strt w.T e, e)).1)).head?).map _ = none
    have q : (rvN ls w.T (strt w.T e, e)).1 = strt w.T e := rfl
    rw [rim_ts ok he, q]
    simp
  have back := r.turn st h0 hz
  have rz := (here_back ok (va z zm) hz').1
  have s' : strt w.T e' = z.1 := by
    unfold strt
    rw [one]
    rfl
  rw [rz, ← s'] at back
  have det := (walk_run ok re de).1.det back
  refine ⟨re, de, ?_, ?_, fun q => ?_⟩
  · unfold wEnd
    rw [det, List.getLast?_reverse, hL']
    exact p2
  · unfold trsL
    rw [det, List.map_reverse, List.map_map]
    rfl
  · subst q
    refine r.nopal (rv := rvN ls w.T) (fun a b ha hb q1 q2 => ?_) (fun a ha q2 => ?_) det.symm
    · have := (goN_some q1).2.2
      exact this (congrArg (·.1) q2)
    · obtain ⟨x, hx⟩ := all a ha
      have := here_back ok (va a ha) hx
      rw [this.1] at q2
      exact (here_mem hx).2 (congrArg (·.2) q2)
/-- how many walks end within: an odd number -/
theorem within_odd {most : Nat} (ok : FilOk w) (L : LabOk w ls most) : (((rimS w.h).filter (dr ls)).filter fun e => decide (wEnd ls w.T e = none)).length % 2 = 1 := by
  have tot : ((rimS w.h).filter (dr ls)).length % 2 = 1 := by
    rw [← rim_odd ok L]
    exact congrArg (· % 2) ((srt_perm tieD (rimL w.h)).filter _).length_eq
  have nd : ((rimS w.h).filter (dr ls)).Nodup := ((srt_perm tieD (rimL w.h)).nodup_iff.mpr (rimL_nodup ok.h2)).filter _
  have ev := even_pairs (f := fun e => (wEnd ls w.T e).getD e) _ (((rimS w.h).filter (dr ls)).filter fun e => !decide (wEnd ls w.T e = none)) rfl (nd.filter _) fun e he => by
    obtain ⟨h1, h2⟩ := List.mem_filter.mp he
    obtain ⟨h3, h4⟩ := List.mem_filter.mp h1
    have h5 := srt_mem.mp h3
    cases q : wEnd ls w.T e with
    | none =>
      rw [q] at h2
      cases h2
    | some e' =>
      obtain ⟨a, b, c, d, n⟩ := walk_exit ok h5 h4 q
      rw [Option.getD_some, c, Option.getD_some]
      refine ⟨List.mem_filter.mpr ⟨List.mem_filter.mpr ⟨srt_mem.mpr a, b⟩, ?_⟩, rfl, n⟩
      rw [c]
      rfl
  have sp : ∀ (l : List Tie) (p : Tie → Bool), (l.filter p).length + (l.filter fun e => !p e).length = l.length := fun l p => by
    induction l with
    | nil => rfl
    | cons a l ih =>
      rw [List.filter_cons, List.filter_cons]
      cases p a <;> simp <;> omega
  have := sp ((rimS w.h).filter (dr ls)) fun e => decide (wEnd ls w.T e = none)
  omega
end
end DT

/-! Texts: walks from the rim. -/
namespace DT
open PySem

def W1_rim_walk (c_doors_of c_ties_of_triangle : Nat) : Sxs := (.cons (.app 3 (.ix (.v 5) (.k (.int 0)))) (.cons (.set 8 (.comp (.v 9) (.n 9) .seq (.cons (.call c_doors_of (.ex (.v 0) (.ex (.v 1) (.ex (.ix (.v 3) (.neg (.k (.int 1)))) .nil)))) .nil) (.cons (.cmp (.v 9) (.cons .ne (.v 4) .nil)) .nil))) (.cons (.set 5 (.lst .nil)) (.cons (.iff (.cmp (.v 8) (.cons .ne (.lst .nil) .nil)) (.cons (.set 4 (.ix (.v 8) (.k (.int 0)))) (.cons (.set 5 (.comp (.v 6) (.t [(.n 6), (.n 7)]) .enum (.cons (.ix (.v 0) (.k (.int 2))) .nil) (.cons (.and (.cons (.cmp (.v 6) (.cons .ne (.ix (.v 3) (.neg (.k (.int 1)))) .nil)) (.cons (.cmp (.v 4) (.cons .mem (.call c_ties_of_triangle (.ex (.v 7) .nil)) .nil)) .nil))) .nil))) .nil)) .nil) .nil))))

def X_rim_walk (c_doors_of c_ties_of_triangle : Nat) : Sxs := (.cons (.par [3, 4] (.cons (.lst .nil) (.cons (.v 2) .nil))) (.cons (.set 5 (.comp (.v 6) (.t [(.n 6), (.n 7)]) .enum (.cons (.ix (.v 0) (.k (.int 2))) .nil) (.cons (.cmp (.v 4) (.cons .mem (.call c_ties_of_triangle (.ex (.v 7) .nil)) .nil)) .nil))) (.cons (.whl (.cmp (.v 5) (.cons .ne (.lst .nil) .nil)) (W1_rim_walk c_doors_of c_ties_of_triangle)) (.cons (.ret (.blt .tuple (.cons (.v 3) .nil))) .nil))))
abbrev F_rim_walk (F : List Fn) (c_doors_of c_ties_of_triangle : Nat) : Fn := fnOf F 10 (X_rim_walk c_doors_of c_ties_of_triangle)

def W1_turn_paper (c_doors_of c_rim_doors c_rim_walk c_ties_of_triangle : Nat) : Sxs := (.cons (.set 3 (.ix (.call c_rim_walk (.ex (.v 0) (.ex (.v 1) (.ex (.v 2) .nil)))) (.neg (.k (.int 1))))) (.cons (.iff (.cmp (.blt .len (.cons (.call c_doors_of (.ex (.v 0) (.ex (.v 1) (.ex (.v 3) .nil)))) .nil)) (.cons .eq (.k (.int 1)) .nil)) (.cons (.set 4 (.comp (.tup (.cons (.v 5) (.cons (.v 6) .nil))) (.t [(.n 5), (.n 6)]) .seq (.cons (.call c_ties_of_triangle (.ex (.ix (.ix (.v 0) (.k (.int 2))) (.v 3)) .nil)) .nil) (.cons (.cmp (.ix (.v 1) (.v 5)) (.cons .eq (.neg (.ix (.v 1) (.v 6))) .nil)) .nil))) (.cons (.ret (.ite (.cmp (.v 4) (.cons .ne (.lst .nil) .nil)) (.tup (.cons (.k (.str "opposite")) (.cons (.ix (.v 4) (.k (.int 0))) .nil))) (.tup (.cons (.k (.str "turn")) (.cons (.v 3) .nil))))) .nil)) .nil) .nil))

def X_turn_paper (c_doors_of c_rim_doors c_rim_walk c_ties_of_triangle : Nat) : Sxs := (.cons (.for (.n 2) .seq (.cons (.call c_rim_doors (.ex (.v 0) (.ex (.v 1) .nil))) .nil) (W1_turn_paper c_doors_of c_rim_doors c_rim_walk c_ties_of_triangle)) (.cons (.ret (.k .none)) .nil))
abbrev F_turn_paper (F : List Fn) (c_doors_of c_rim_doors c_rim_walk c_ties_of_triangle : Nat) : Fn := fnOf F 7 (X_turn_paper c_doors_of c_rim_doors c_rim_walk c_ties_of_triangle)

def X_is_integer : Sxs := (.cons (.ret (.and (.cons (.blt (.isi .int) (.cons (.v 0) .nil)) (.cons (.not (.blt (.isi .bool) (.cons (.v 0) .nil))) .nil)))) .nil)
abbrev F_is_integer (F : List Fn) : Fn := fnOf F 1 (X_is_integer)

def X_is_number_at_most (c_is_integer : Nat) : Sxs := (.cons (.ret (.and (.cons (.call c_is_integer (.ex (.v 0) .nil)) (.cons (.cmp (.v 1) (.cons .le (.v 0) (.cons .le (.v 2) .nil))) .nil)))) .nil)
abbrev F_is_number_at_most (F : List Fn) (c_is_integer : Nat) : Fn := fnOf F 3 (X_is_number_at_most c_is_integer)

def X_judge_turn (c_all_ties c_is_number_at_most c_is_turned : Nat) : Sxs := (.cons (.iff (.or (.cons (.not (.blt (.isi .tuple) (.cons (.v 2) .nil))) (.cons (.cmp (.blt .len (.cons (.v 2) .nil)) (.cons .ne (.k (.int 2)) .nil)) (.cons (.not (.blt (.isi .str) (.cons (.ix (.v 2) (.k (.int 0))) .nil))) .nil)))) (.cons (.ret (.tup (.cons (.k (.str "form")) .nil))) .nil) .nil) (.cons (.iff (.and (.cons (.cmp (.ix (.v 2) (.k (.int 0))) (.cons .eq (.k (.str "turn")) .nil)) (.cons (.call c_is_number_at_most (.ex (.ix (.v 2) (.k (.int 1))) (.ex (.k (.int 0)) (.ex (.bin .sub (.blt .len (.cons (.ix (.v 0) (.k (.int 2))) .nil)) (.k (.int 1))) .nil)))) .nil))) (.cons (.ret (.ite (.call c_is_turned (.ex (.v 0) (.ex (.v 1) (.ex (.ix (.v 2) (.k (.int 1))) .nil)))) (.k .none) (.tup (.cons (.k (.str "turn")) .nil)))) .nil) .nil) (.cons (.iff (.or (.cons (.cmp (.ix (.v 2) (.k (.int 0))) (.cons .ne (.k (.str "opposite")) .nil)) (.cons (.not (.blt (.isi .tuple) (.cons (.ix (.v 2) (.k (.int 1))) .nil))) (.cons (.cmp (.ix (.v 2) (.k (.int 1))) (.cons .nmem (.call c_all_ties (.ex (.v 0) .nil)) .nil)) .nil)))) (.cons (.ret (.tup (.cons (.k (.str "form")) .nil))) .nil) .nil) (.cons (.iff (.not (.blt .all (.cons (.comp (.call c_is_number_at_most (.ex (.v 3) (.ex (.k (.int 0)) (.ex (.bin .sub (.ix (.v 0) (.k (.int 1))) (.k (.int 1))) .nil)))) (.n 3) .seq (.cons (.ix (.v 2) (.k (.int 1))) .nil) .nil) .nil))) (.cons (.ret (.tup (.cons (.k (.str "form")) .nil))) .nil) .nil) (.cons (.ret (.ite (.cmp (.ix (.v 1) (.ix (.ix (.v 2) (.k (.int 1))) (.k (.int 0)))) (.cons .eq (.neg (.ix (.v 1) (.ix (.ix (.v 2) (.k (.int 1))) (.k (.int 1))))) .nil)) (.k .none) (.tup (.cons (.k (.str "opposite")) .nil)))) .nil)))))
abbrev F_judge_turn (F : List Fn) (c_all_ties c_is_number_at_most c_is_turned : Nat) : Fn := fnOf F 4 (X_judge_turn c_all_ties c_is_number_at_most c_is_turned)
end DT

/-! The walk from a rim door, step by step. -/
namespace DT
open PySem
section
variable {F : List Fn} {ρ ρ1 : Rho} {g g1 g2 g3 : PState} {t : Ex} {body : Sxs} {w : Fl × Rho}
theorem wf_stop {t : Rho → M Bool} {f : Rho → M (Fl × Rho)} {n : Nat} (h : t ρ g = some (false, g1)) : whlN t f (n + 1) ρ g = some ((.nx, ρ), g1) := by
  unfold whlN
  rw [bnd_go h]
  rfl
theorem wf_step {t : Rho → M Bool} {f : Rho → M (Fl × Rho)} {n : Nat} (h : t ρ g = some (true, g1)) (h2 : f ρ g1 = some ((.nx, ρ1), g2)) (h3 : whlN t f n ρ1 g2 = some (w, g3)) : whlN t f (n + 1) ρ g = some (w, g3) := by
  unfold whlN
  rw [bnd_go h]
  show bnd (f ρ) _ g1 = _
  rw [bnd_go h2]
  exact h3
theorem xf_whl (h : whlN (fun ρ => bnd (ev F t ρ) toB) (fun ρ => exs F body ρ) FU ρ g = some (w, g1)) : ex F (.whl t body) ρ g = some (w, g1) := by
  rw [ex]
  exact h
theorem tf_b {b : Bool} (h : ev F t ρ g = some (.bool b, g1)) : (bnd (ev F t ρ) toB) g = some (b, g1) := by
  rw [bnd_go h]
  rfl
end
theorem eq_nilA {α : Type} {h : α → D} (hl : ∀ a, (h a).canLay0 = true) (hd : ∀ a, (h a).depth ≤ 60) (l : List α) : cmpO .eq (.list (l.map h)) (.list []) = some (decide (l = [])) := by
  show (if SeqAt.shaped (.list (l.map h)) && SeqAt.shaped (.list []) then some (PyData.eqv (.list (l.map h)) (.list [])) else none) = _
  have e : SeqAt.shaped (.list []) = true := by decide +kernel
  rw [shL hl hd, e, Bool.and_self, if_pos rfl, PyData.eqv]
  cases l with
  | nil => rfl
  | cons a l => rfl
theorem ne_nilA {α : Type} {h : α → D} (hl : ∀ a, (h a).canLay0 = true) (hd : ∀ a, (h a).depth ≤ 60) (l : List α) : cmpO .ne (.list (l.map h)) (.list []) = some (!decide (l = [])) := congrArg (Option.map not) (eq_nilA hl hd l)
theorem ne_natL (l : List Nat) : cmpO .ne (.list (l.map natD)) (.list []) = some (!decide (l = [])) := ne_nilA (h := natD) (fun _ => rfl) (fun _ => Nat.zero_le _) l
theorem ne_tieL (l : List Tie) : cmpO .ne (.list (l.map tieD)) (.list []) = some (!decide (l = [])) := ne_nilA (h := tieD) (fun _ => rfl) (fun _ => (by decide : 1 ≤ 60)) l
theorem c_eq_tie (a b : Tie) : cmpO .eq (tieD a) (tieD b) = some (decide (a = b)) := congrArg some (eqv_tie a b)
theorem c_ne_tie (a b : Tie) : cmpO .ne (tieD a) (tieD b) = some (!decide (a = b)) := congrArg (Option.map not) (c_eq_tie a b)
theorem ts_but {T : List Tri} (ha : ∀ t, t ∈ T → Asc t) (e : Tie) (i : Nat) : (T.zipIdx.filter fun p => !decide (p.2 = i) && decide (e ∈ tiesT p.1)).map (·.2) = (tsOf T e).filter fun j => !decide (j = i) := by
  rw [tsOf_eq ha, List.filter_map, List.filter_filter]
  rfl
theorem snd_map (l : List (Tri × Nat)) : (l.map (·.2)).map natD = l.map fun p => natD p.2 := by
  rw [List.map_map]
  rfl
section
variable {F : List Fn}
def SpRW (f : Fn) : Prop := ∀ (w : Fil) (ls : List Int) (e : Tie), FilOk w → w.T.length ≤ 1000 → PtsIn w.T ls.length → e ∈ rimL w.h → dr ls e = true → ∀ g, f [some (filD w), some (tupI ls), some (tieD e)] g = some (lotD (trsL ls w.T e), g)
abbrev rhW (w : Fil) (ls : List Int) (e : Tie) (o3 o4 o5 o6 o7 o8 o9 : Option Sl) : Rho := [some (.d false (filD w)), some (.d false (tupI ls)), some (.d false (tieD e)), o3, o4, o5, o6, o7, o8, o9]
set_option maxHeartbeats 1000000 in
theorem rw_loop {c1 c2 : Nat} (hc1 : At F c1 SpDoors) (hc2 : At F c2 SpTies) {w : Fil} {ls : List Int} {e0 : Tie} (ok : FilOk w) (hT : w.T.length ≤ 1000) (hP : PtsIn w.T ls.length) {g : PState} {s : Nat × Tie} {L : List (Nat × Tie)} (r : Run (goN ls w.T) s L) : WkOk ls w.T s → ∀ (n : Nat) (A : List Nat) (f4 : Bool) (l : List Nat) (o6 o7 o8 o9 : Option Sl), L.length < n → A.length + L.length ≤ 4000 →
    ∃ o4' o5' o6' o7' o8' o9', whlN (fun ρ => bnd (ev F (.cmp (.v 5) (.cons .ne (.lst .nil) .nil)) ρ) toB) (fun ρ => exs F (W1_rim_walk c1 c2) ρ) n (rhW w ls e0 (some (.d true (.list (A.map natD)))) (some (.d f4 (tieD s.2))) (some (.d true (.list ((s.1 :: l).map natD)))) o6 o7 o8 o9) g = some ((.nx, rhW w ls e0 (some (.d true (.list ((A ++ L.map (·.1)).map natD)))) o4' o5' o6' o7' o8' o9'), g) := by
  obtain ⟨_, p1, p2⟩ := hc1
  obtain ⟨_, q1, q2⟩ := hc2
  have test : ∀ (f5 : Bool) (l : List Nat) (o3 o4 o6 o7 o8 o9 : Option Sl), ev F (.cmp (.v 5) (.cons .ne (.lst .nil) .nil)) (rhW w ls e0 o3 o4 (some (.d f5 (.list (l.map natD)))) o6 o7 o8 o9) g = some (.bool (!decide (l = [])), g) := fun f5 l o3 o4 o6 o7 o8 o9 => e_cmp (e_v rfl) (e_lst e_nil) (ne_natL l)
  -- one turn
  have body : ∀ (s : Nat × Tie) (A : List Nat) (f4 : Bool) (l : List Nat) (o6 o7 o8 o9 : Option Sl), WkOk ls w.T s → A.length < 4000 → ∃ o6' o7' o8' o9', (goN ls w.T s = none → ∃ o4', exs F (W1_rim_walk c1 c2) (rhW w ls e0 (some (.d true (.list (A.map natD)))) (some (.d f4 (tieD s.2))) (some (.d true (.list ((s.1 :: l).map natD)))) o6 o7 o8 o9) g = some ((.nx, rhW w ls e0 (some (.d true (.list ((A ++ [s.1]).map natD)))) o4' (some (.d true (.list (([] : List Nat).map natD)))) o6' o7' o8' o9'), g)) ∧ ∀ s', goN ls w.T s = some s' → ∃ l' f4', exs F (W1_rim_walk c1 c2) (rhW w ls e0 (some (.d true (.list (A.map natD)))) (some (.d f4 (tieD s.2))) (some (.d true (.list ((s.1 :: l).map natD)))) o6 o7 o8 o9) g = some ((.nx, rhW w ls e0 (some (.d true (.list ((A ++ [s.1]).map natD)))) (some (.d f4' (tieD s'.2))) (some (.d true (.list ((s'.1 :: l').map natD)))) o6' o7' o8' o9'), g) := by
    intro s A f4 l o6 o7 o8 o9 v hA
    obtain ⟨t, ht, hd⟩ := v
    have eA : A.map natD ++ [natD s.1] = (A ++ [s.1]).map natD := by rw [List.map_append]; rfl
    have lastA : (A ++ [s.1]).getLast? = some s.1 := List.getLast?_concat
    let O := (doorsT ls t).filter fun d => !decide (d = s.2)
    have s1 : ex F (.app 3 (.ix (.v 5) (.k (.int 0)))) (rhW w ls e0 (some (.d true (.list (A.map natD)))) (some (.d f4 (tieD s.2))) (some (.d true (.list ((s.1 :: l).map natD)))) o6 o7 o8 o9) g = some ((.nx, rhW w ls e0 (some (.d true (.list ((A ++ [s.1]).map natD)))) (some (.d f4 (tieD s.2))) (some (.d true (.list ((s.1 :: l).map natD)))) o6 o7 o8 o9), g) := x_app (l := A.map natD) (d := natD s.1) (e_ix (e_v rfl) e_k (ix_lst (f := natD) (l := s.1 :: l) (i := 0) rfl rfl)) rfl (by rw [List.length_map]; unfold LINE; omega) (by rw [eA]; rfl)
    have s2 : ex F (.set 8 (.comp (.v 9) (.n 9) .seq (.cons (.call c1 (.ex (.v 0) (.ex (.v 1) (.ex (.ix (.v 3) (.neg (.k (.int 1)))) .nil)))) .nil) (.cons (.cmp (.v 9) (.cons .ne (.v 4) .nil)) .nil))) (rhW w ls e0 (some (.d true (.list ((A ++ [s.1]).map natD)))) (some (.d f4 (tieD s.2))) (some (.d true (.list ((s.1 :: l).map natD)))) o6 o7 o8 o9) g = some ((.nx, rhW w ls e0 (some (.d true (.list ((A ++ [s.1]).map natD)))) (some (.d f4 (tieD s.2))) (some (.d true (.list ((s.1 :: l).map natD)))) o6 o7 (some (.d true (.list (O.map tieD)))) (frz1 o9)), g) := x_set (e_filV (l := doorsT ls t) (h := tieD) (f := tieD) (p := fun d => !decide (d = s.2)) (e_cons (e_call (r_ex (e_v rfl) (r_ex (e_v rfl) (r_ex (e_ix (e_v rfl) (e_neg e_k) (ix_lastL lastA)) r_nil))) p1 (p2 w ls s.1 t ht hP g)) e_nil) rfl (fun d _ => e_cmp (e_v rfl) (e_v rfl) (c_ne_tie _ _)) fun d _ _ => e_v rfl) rfl
    have s3 : ex F (.set 5 (.lst .nil)) (rhW w ls e0 (some (.d true (.list ((A ++ [s.1]).map natD)))) (some (.d f4 (tieD s.2))) (some (.d true (.list ((s.1 :: l).map natD)))) o6 o7 (some (.d true (.list (O.map tieD)))) (frz1 o9)) g = some ((.nx, rhW w ls e0 (some (.d true (.list ((A ++ [s.1]).map natD)))) (some (.d f4 (tieD s.2))) (some (.d true (.list (([] : List Nat).map natD)))) o6 o7 (some (.d true (.list (O.map tieD)))) (frz1 o9)), g) := x_set (e_lst e_nil) rfl
    have tst : ev F (.cmp (.v 8) (.cons .ne (.lst .nil) .nil)) (rhW w ls e0 (some (.d true (.list ((A ++ [s.1]).map natD)))) (some (.d f4 (tieD s.2))) (some (.d true (.list (([] : List Nat).map natD)))) o6 o7 (some (.d true (.list (O.map tieD)))) (frz1 o9)) g = some (.bool (!decide (O = [])), g) := e_cmp (e_v rfl) (e_lst e_nil) (ne_tieL O)
    have hO : hereN ls w.T s = O.head? := by
      unfold hereN
      rw [getD_tr ht]
    cases hq : O with
    | nil =>
      rw [hq] at hO
      have hg : goN ls w.T s = none := by
        unfold goN
        rw [hO]
        rfl
      rw [hq] at tst
      rw [hq] at s2 s3
      exact ⟨_, _, _, _, fun _ => ⟨_, x_cons s1 (x_cons s2 (x_cons s3 (x_no tst x_nil)))⟩, fun s' e => by rw [hg] at e; cases e⟩
    | cons e' O' =>
      rw [hq] at hO tst s2 s3
      let M := (tsOf w.T e').filter fun j => !decide (j = s.1)
      have hg : goN ls w.T s = M.head?.map fun i => (i, e') := by
        unfold goN
        rw [hO]
        rfl
      have s4 : ex F (.set 4 (.ix (.v 8) (.k (.int 0)))) (rhW w ls e0 (some (.d true (.list ((A ++ [s.1]).map natD)))) (some (.d f4 (tieD s.2))) (some (.d true (.list (([] : List Nat).map natD)))) o6 o7 (some (.d true (.list ((e' :: O').map tieD)))) (frz1 o9)) g = some ((.nx, rhW w ls e0 (some (.d true (.list ((A ++ [s.1]).map natD)))) (some (.d false (tieD e'))) (some (.d true (.list (([] : List Nat).map natD)))) o6 o7 (some (.d true (.list ((e' :: O').map tieD)))) (frz1 o9)), g) := x_set (e_ix (e_v rfl) e_k (ix_lst (f := tieD) (l := e' :: O') (i := 0) rfl rfl)) rfl
      have s5 : ex F (.set 5 (.comp (.v 6) (.t [(.n 6), (.n 7)]) .enum (.cons (.ix (.v 0) (.k (.int 2))) .nil) (.cons (.and (.cons (.cmp (.v 6) (.cons .ne (.ix (.v 3) (.neg (.k (.int 1)))) .nil)) (.cons (.cmp (.v 4) (.cons .mem (.call c2 (.ex (.v 7) .nil)) .nil)) .nil))) .nil))) (rhW w ls e0 (some (.d true (.list ((A ++ [s.1]).map natD)))) (some (.d false (tieD e'))) (some (.d true (.list (([] : List Nat).map natD)))) o6 o7 (some (.d true (.list ((e' :: O').map tieD)))) (frz1 o9)) g = some ((.nx, rhW w ls e0 (some (.d true (.list ((A ++ [s.1]).map natD)))) (some (.d false (tieD e'))) (some (.d true (.list (M.map natD)))) (frz1 o6) o7 (some (.d true (.list ((e' :: O').map tieD)))) (frz1 o9)), g) := by
        refine x_set (d := .list (M.map natD)) (ev_eq (e_filA (l := w.T.zipIdx) (h := enD) (f := fun p => natD p.2) (p := fun p => !decide (p.2 = s.1) && decide (e' ∈ tiesT p.1)) (bd := fun p => rhW w ls e0 (some (.d true (.list ((A ++ [s.1]).map natD)))) (some (.d false (tieD e'))) (some (.d true (.list (([] : List Nat).map natD)))) (some (.d false (natD p.2))) (some (.d false (triD p.1))) (some (.d true (.list ((e' :: O').map tieD)))) (frz1 o9)) (e_cons (e_ix (e_v rfl) e_k rfl) e_nil) (congrArg some (enum_tri w.T)) (fun _ _ => rfl) (fun p _ => e_and (a_cons (e_cmp (e_v rfl) (e_ix (e_v rfl) (e_neg e_k) (ix_lastL lastA)) (c_ne_nat _ _)) fun _ => a_one (e_cmp (e_v rfl) (e_call (r_ex (e_v rfl) r_nil) q1 (q2 p.1 g)) (mem_tieL e' (tiesT p.1))))) fun p _ _ => e_v rfl) ?_) rfl
        have := ts_but ok.as e' s.1
        rw [← snd_map, this]
      cases hM : M with
      | nil =>
        rw [hM] at hg s5
        exact ⟨_, _, _, _, fun _ => ⟨_, x_cons s1 (x_cons s2 (x_cons s3 (x_cons (x_iffT tst (x_cons s4 (x_cons s5 x_nil))) x_nil)))⟩, fun s' e => by rw [hg] at e; cases e⟩
      | cons i M' =>
        rw [hM] at hg s5
        refine ⟨frz1 o6, o7, some (.d true (.list ((e' :: O').map tieD))), frz1 o9, fun e => (by rw [hg] at e; cases e), fun s' e => ?_⟩
        rw [hg] at e
        obtain rfl := Option.some.inj e
        exact ⟨_, _, x_cons s1 (x_cons s2 (x_cons s3 (x_cons (x_iffT tst (x_cons s4 (x_cons s5 x_nil))) x_nil)))⟩
  have tru : ∀ (i : Nat) (l : List Nat), (!decide (i :: l = [])) = true := fun i l => by
    rw [decide_eq_false (by simp)]
    rfl
  induction r with
  | @one s h =>
    intro v n A f4 l o6 o7 o8 o9 hn hA
    rw [List.length_singleton] at hn hA
    obtain ⟨m, rfl⟩ : ∃ m, n = m + 1 + 1 := ⟨n - 2, by omega⟩
    obtain ⟨o6', o7', o8', o9', b, _⟩ := body s A f4 l o6 o7 o8 o9 v (by omega)
    obtain ⟨o4', b⟩ := b h
    have t1 := test true (s.1 :: l) (some (.d true (.list (A.map natD)))) (some (.d f4 (tieD s.2))) o6 o7 o8 o9
    rw [tru] at t1
    exact ⟨_, _, _, _, _, _, wf_step (tf_b t1) b (wf_stop (tf_b (test true [] _ _ _ _ _ _)))⟩
  | @more s s' L h r ih =>
    intro v n A f4 l o6 o7 o8 o9 hn hA
    rw [List.length_cons] at hn hA
    obtain ⟨m, rfl⟩ : ∃ m, n = m + 1 := ⟨n - 1, by omega⟩
    obtain ⟨o6', o7', o8', o9', _, b⟩ := body s A f4 l o6 o7 o8 o9 v (by omega)
    obtain ⟨l', f4', b⟩ := b s' h
    have t1 := test true (s.1 :: l) (some (.d true (.list (A.map natD)))) (some (.d f4 (tieD s.2))) o6 o7 o8 o9
    rw [tru] at t1
    obtain ⟨o4'', o5'', o6'', o7'', o8'', o9'', e⟩ := ih (v.next ok h) m (A ++ [s.1]) f4' l' o6' o7' o8' o9' (by omega) (by rw [List.length_append, List.length_singleton]; omega)
    rw [List.append_assoc] at e
    exact ⟨_, _, _, _, _, _, wf_step (tf_b t1) b e⟩
theorem rw_sp {c1 c2 : Nat} (hc1 : At F c1 SpDoors) (hc2 : At F c2 SpTies) : SpRW (F_rim_walk F c1 c2) := fun w ls e ok hT hP he hd g => by
  obtain ⟨r, hl⟩ := walk_run ok he hd
  have v := strt_ok ok he hd
  obtain ⟨_, q1, q2⟩ := id hc2
  obtain ⟨o4', o5', o6', o7', o8', o9', lp⟩ := rw_loop hc1 hc2 (e0 := e) ok hT hP (g := g) r v FU [] false [] none none none none (by unfold FU; omega) (by show 0 + _ ≤ _; omega)
  exact fn_go (x_cons (x_par (ρ1 := rhW w ls e (some (.d true (.list (([] : List Nat).map natD)))) (some (.d false (tieD e))) none none none none none) (e_cons (e_lst e_nil) (e_cons (e_v rfl) e_nil)) rfl) (x_cons (x_set (ρ1 := rhW w ls e (some (.d true (.list (([] : List Nat).map natD)))) (some (.d false (tieD e))) (some (.d true (.list ([strt w.T e].map natD)))) none none none none) (ev_eq (e_filA (l := w.T.zipIdx) (h := enD) (f := fun p => natD p.2) (p := fun p => decide (e ∈ tiesT p.1)) (bd := fun p => rhW w ls e (some (.d true (.list (([] : List Nat).map natD)))) (some (.d false (tieD e))) none (some (.d false (natD p.2))) (some (.d false (triD p.1))) none none) (e_cons (e_ix (e_v rfl) e_k rfl) e_nil) (congrArg some (enum_tri w.T)) (fun _ _ => rfl) (fun p _ => e_cmp (e_v rfl) (e_call (r_ex (e_v rfl) r_nil) q1 (q2 p.1 g)) (mem_tieL e (tiesT p.1))) fun p _ _ => e_v rfl) (by have z := tsOf_eq (e := e) ok.as; rw [rim_ts ok he] at z; rw [← snd_map, ← z])) rfl) (x_cons (xf_whl lp) (x_stop (x_retE (e_blt (e_cons (e_v rfl) e_nil) (tupleL _)))))))
end
end DT

/-! The turn paper. -/
namespace DT
open PySem
def lastT (ls : List Int) (T : List Tri) (e : Tie) : Nat := ((trsL ls T e).getLast?).getD 0
def papO (i : Nat) : List Tie → D
  | e :: _ => .tuple [.str "opposite", tieD e]
  | [] => .tuple [.str "turn", natD i]
def papT (w : Fil) (ls : List Int) (i : Nat) : D := papO i ((tiesT (w.T.getD i tr0)).filter (opp ls))
def inP (w : Fil) (ls : List Int) (e : Tie) : Bool := decide (wEnd ls w.T e = none)
def papE (w : Fil) (ls : List Int) : Option Tie := ((rimS w.h).filter (dr ls)).find? (inP w ls)
def papF (w : Fil) (ls : List Int) : D := match papE w ls with
  | some e => papT w ls (lastT ls w.T e)
  | none => .none
theorem pap_some {w : Fil} {ls : List Int} {most : Nat} (ok : FilOk w) (L : LabOk w ls most) : ∃ e, papE w ls = some e ∧ e ∈ rimL w.h ∧ dr ls e = true ∧ wEnd ls w.T e = none := by
  have o := within_odd ok L
  cases h : papE w ls with
  | none =>
    have : (((rimS w.h).filter (dr ls)).filter fun e => decide (wEnd ls w.T e = none)) = [] := List.filter_eq_nil_iff.mpr fun e he => (List.find?_eq_none.mp h) e he
    rw [this] at o
    cases o
  | some e =>
    have m := List.mem_of_find?_eq_some h
    have p := List.find?_some h
    obtain ⟨a, b⟩ := List.mem_filter.mp m
    exact ⟨e, rfl, srt_mem.mp a, b, of_decide_eq_true p⟩
theorem last_ok {w : Fil} {ls : List Int} {e : Tie} (ok : FilOk w) (he : e ∈ rimL w.h) (hd : dr ls e = true) : (trsL ls w.T e).getLast? = some (lastT ls w.T e) ∧ ∃ t, w.T[lastT ls w.T e]? = some t ∧ decide ((doorsT ls t).length = 1) = inP w ls e := by
  obtain ⟨r, hl⟩ := walk_run ok he hd
  have va := r.all (V := WkOk ls w.T) (fun s s' v h => v.next ok h) (strt_ok ok he hd)
  obtain ⟨z, hz, hn⟩ := r.last
  have e1 : (trsL ls w.T e).getLast? = some z.1 := by
    unfold trsL
    rw [List.getLast?_map, hz]
    rfl
  have e2 : lastT ls w.T e = z.1 := by
    unfold lastT
    rw [e1]
    rfl
  rw [e2]
  refine ⟨e1, ?_⟩
  obtain ⟨t, ht, hm⟩ := va z (List.mem_of_getLast? hz)
  refine ⟨t, ht, ?_⟩
  have e3 : wEnd ls w.T e = ((doorsT ls t).filter fun d => !decide (d = z.2)).head? := by
    unfold wEnd
    rw [hz]
    show hereN ls w.T z = _
    unfold hereN
    rw [getD_tr ht]
  unfold inP
  rw [e3]
  have nd := doors_nodup (ls := ls) (ok.as t (List.mem_of_getElem? ht))
  generalize doorsT ls t = l at *
  refine decide_eq_decide.mpr ?_
  rw [List.head?_eq_none_iff, List.filter_eq_nil_iff]
  constructor
  · intro h a ha
    match l, h with
    | [x], _ =>
      rw [List.mem_singleton] at ha hm
      rw [ha, hm]
      simp
  · intro h
    match l, hm, nd, h with
    | [x], _, _, _ => rfl
    | x :: y :: l, _, nd, h =>
      have a := h x List.mem_cons_self
      have b := h y (List.mem_cons_of_mem _ List.mem_cons_self)
      have a' : x = z.2 := by simpa using a
      have b' : y = z.2 := by simpa using b
      rw [a', b'] at nd
      exact absurd List.mem_cons_self (List.nodup_cons.mp nd).1
section
variable {F : List Fn}
def SpPaper (f : Fn) : Prop := ∀ (w : Fil) (ls : List Int) (most : Nat), FilOk w → LabOk w ls most → w.T.length ≤ 1000 → w.h ≤ 1000 → ∀ g, f [some (filD w), some (tupI ls)] g = some (papF w ls, g)
abbrev rhP (w : Fil) (ls : List Int) (o2 o3 o4 o5 o6 : Option Sl) : Rho := [some (.d false (filD w)), some (.d false (tupI ls)), o2, o3, o4, o5, o6]
set_option maxHeartbeats 1000000 in
theorem pap_loop {c1 c2 c3 c4 : Nat} (hc1 : At F c1 SpDoors) (hc3 : At F c3 SpRW) (hc4 : At F c4 SpTies) {w : Fil} {ls : List Int} (ok : FilOk w) (hT : w.T.length ≤ 1000) (hP : PtsIn w.T ls.length) {g : PState} {e : Tie} : ∀ (l : List Tie), (∀ x, x ∈ l → x ∈ rimL w.h ∧ dr ls x = true) → l.find? (inP w ls) = some e → ∀ (o2 o3 o4 o5 o6 : Option Sl), ∃ ρ', forL (fun ρ x => bnd (ofO (bindT (.n 2) x ρ)) fun ρ' => exs F (W1_turn_paper c1 c2 c3 c4) ρ') (l.map tieD) (rhP w ls o2 o3 o4 o5 o6) g = some ((.rt (papT w ls (lastT ls w.T e)), ρ'), g)
  | [], _, h, _, _, _, _, _ => by cases h
  | a :: l, hl, h, o2, o3, o4, o5, o6 => by
    obtain ⟨_, p1, p2⟩ := id hc1
    obtain ⟨_, q1, q2⟩ := id hc3
    obtain ⟨_, r1, r2⟩ := id hc4
    obtain ⟨ha, hd⟩ := hl a List.mem_cons_self
    obtain ⟨la, t, ht, hin⟩ := last_ok ok ha hd
    have s1 : ex F (.set 3 (.ix (.call c3 (.ex (.v 0) (.ex (.v 1) (.ex (.v 2) .nil)))) (.neg (.k (.int 1))))) (rhP w ls (some (.d false (tieD a))) o3 o4 o5 o6) g = some ((.nx, rhP w ls (some (.d false (tieD a))) (some (.d false (natD (lastT ls w.T a)))) o4 o5 o6), g) := x_set (e_ix (e_call (r_ex (e_v rfl) (r_ex (e_v rfl) (r_ex (e_v rfl) r_nil))) q1 (q2 w ls a ok hT hP ha hd g)) (e_neg e_k) (ix_last la)) rfl
    have tst : ev F (.cmp (.blt .len (.cons (.call c1 (.ex (.v 0) (.ex (.v 1) (.ex (.v 3) .nil)))) .nil)) (.cons .eq (.k (.int 1)) .nil)) (rhP w ls (some (.d false (tieD a))) (some (.d false (natD (lastT ls w.T a)))) o4 o5 o6) g = some (.bool (inP w ls a), g) := ev_eq (e_cmp (x := natD (doorsT ls t).length) (y := natD 1) (ev_eq (e_blt (e_cons (e_call (r_ex (e_v rfl) (r_ex (e_v rfl) (r_ex (e_v rfl) r_nil))) p1 (p2 w ls _ t ht hP g)) e_nil) (lenTN _)) (congrArg natD (List.length_map ..))) e_k (c_eq_nat _ 1)) (congrArg PyData.bool hin)
    rw [List.find?_cons] at h
    cases hp : inP w ls a with
    | false =>
      rw [hp] at h tst
      obtain ⟨ρ', e2⟩ := pap_loop hc1 hc3 hc4 ok hT hP (g := g) l (fun x hx => hl x (List.mem_cons_of_mem _ hx)) h (some (.d false (tieD a))) (some (.d false (natD (lastT ls w.T a)))) o4 o5 o6
      exact ⟨ρ', f_step (b_go rfl (x_cons s1 (x_no tst x_nil))) e2⟩
    | true =>
      rw [hp] at h tst
      obtain rfl := Option.some.inj h
      let O := (tiesT t).filter (opp ls)
      have s2 : ex F (.set 4 (.comp (.tup (.cons (.v 5) (.cons (.v 6) .nil))) (.t [(.n 5), (.n 6)]) .seq (.cons (.call c4 (.ex (.ix (.ix (.v 0) (.k (.int 2))) (.v 3)) .nil)) .nil) (.cons (.cmp (.ix (.v 1) (.v 5)) (.cons .eq (.neg (.ix (.v 1) (.v 6))) .nil)) .nil))) (rhP w ls (some (.d false (tieD a))) (some (.d false (natD (lastT ls w.T a)))) o4 o5 o6) g = some ((.nx, rhP w ls (some (.d false (tieD a))) (some (.d false (natD (lastT ls w.T a)))) (some (.d true (.list (O.map tieD)))) (frz1 o5) (frz1 o6)), g) := by
        refine x_set (e_filA (l := tiesT t) (h := tieD) (f := tieD) (p := opp ls) (bd := fun e => rhP w ls (some (.d false (tieD a))) (some (.d false (natD (lastT ls w.T a)))) o4 (some (.d false (natD e.1))) (some (.d false (natD e.2)))) (e_cons (ties_ev ⟨_, r1, r2⟩ ht (e_ix (e_v rfl) e_k rfl) (e_v rfl)) e_nil) rfl (fun _ _ => rfl) (fun x hx => ?_) fun _ _ _ => e_tup (e_cons (e_v rfl) (e_cons (e_v rfl) e_nil))) rfl
        obtain ⟨b1, b2⟩ := ties_in hP (List.mem_of_getElem? ht) hx
        exact e_cmp (e_ix (e_v rfl) (e_v rfl) (ix_lab b1)) (e_neg (e_ix (e_v rfl) (e_v rfl) (ix_lab b2))) (c_eq_int _ _)
      have tst2 : ev F (.cmp (.v 4) (.cons .ne (.lst .nil) .nil)) (rhP w ls (some (.d false (tieD a))) (some (.d false (natD (lastT ls w.T a)))) (some (.d true (.list (O.map tieD)))) (frz1 o5) (frz1 o6)) g = some (.bool (!decide (O = [])), g) := e_cmp (e_v rfl) (e_lst e_nil) (ne_tieL O)
      have fin : ∀ f3, ev F (.ite (.cmp (.v 4) (.cons .ne (.lst .nil) .nil)) (.tup (.cons (.k (.str "opposite")) (.cons (.ix (.v 4) (.k (.int 0))) .nil))) (.tup (.cons (.k (.str "turn")) (.cons (.v 3) .nil)))) (rhP w ls (some (.d false (tieD a))) (some (.d f3 (natD (lastT ls w.T a)))) (some (.d true (.list (O.map tieD)))) (frz1 o5) (frz1 o6)) g = some (papT w ls (lastT ls w.T a), g) := fun f3 => by
        have e1 : papT w ls (lastT ls w.T a) = papO (lastT ls w.T a) O := by
          unfold papT
          rw [getD_tr ht]
        rw [e1]
        have tst3 : ev F (.cmp (.v 4) (.cons .ne (.lst .nil) .nil)) (rhP w ls (some (.d false (tieD a))) (some (.d f3 (natD (lastT ls w.T a)))) (some (.d true (.list (O.map tieD)))) (frz1 o5) (frz1 o6)) g = some (.bool (!decide (O = [])), g) := e_cmp (e_v rfl) (e_lst e_nil) (ne_tieL O)
        generalize O = Q at *
        cases Q with
        | nil => exact e_iteF tst3 (e_tup (e_cons e_k (e_cons (e_v rfl) e_nil)))
        | cons q Q => exact e_iteT tst3 (e_tup (e_cons e_k (e_cons (e_ix (e_v rfl) e_k (ix_lst (f := tieD) (l := q :: Q) (i := 0) rfl rfl)) e_nil)))
      exact ⟨_, f_stop (b_go rfl (x_cons s1 (x_stop (x_iffT tst (x_cons s2 (x_stop (x_retE (fin _))))))))⟩
theorem paper_sp {c1 c2 c3 c4 : Nat} (hc1 : At F c1 SpDoors) (hc2 : At F c2 SpRimDoors) (hc3 : At F c3 SpRW) (hc4 : At F c4 SpTies) : SpPaper (F_turn_paper F c1 c2 c3 c4) := fun w ls most ok L hT hh g => by
  obtain ⟨e, h1, _⟩ := pap_some ok L
  obtain ⟨_, q1, q2⟩ := id hc2
  have hn := ok.hn
  have h2 := ok.h2
  have ln := L.len
  have hP : PtsIn w.T ls.length := fun t ht => by
    obtain ⟨⟨a, b⟩, c⟩ := ok.asc t ht
    rw [L.len]
    omega
  obtain ⟨ρ', lp⟩ := pap_loop (c2 := c2) hc1 hc3 hc4 ok hT hP (g := g) ((rimS w.h).filter (dr ls)) (fun x hx => ⟨srt_mem.mp (List.mem_filter.mp hx).1, (List.mem_filter.mp hx).2⟩) h1 none none none none none
  have e2 : papF w ls = papT w ls (lastT ls w.T e) := by
    unfold papF
    rw [h1]
  rw [e2]
  exact fn_go (x_stop (x_for (e_cons (e_call (r_ex (e_v rfl) (r_ex (e_v rfl) r_nil)) q1 (q2 w ls (by omega) hh (by omega) g)) e_nil) rfl lp))
end
end DT

/-! Sizes of ints, texts, tuples. -/
namespace DT
open PySem
theorem Fz.int {i : Int} (h : i.natAbs < 10 ^ 12) : Fz 40 0 (.int i) := by
  refine ⟨rfl, by rw [PyData.depth]; exact Nat.le_refl _, ?_, ?_, ?_⟩
  · have e : (PyData.int i).weight = Builtin.Int.intBits i := by simp only [PyData.weight, Builtin.Int.intBits]
    rw [e]
    exact intBits_le_iff.mpr (Nat.lt_trans h (by decide))
  · rw [PyData.intsShort]
    exact decide_eq_true (PyData.shown_int_le h)
  · rw [PyData.showable]
    refine decide_eq_true ?_
    by_cases z : i.natAbs = 0
    · rw [z]
      decide
    · exact Nat.lt_of_lt_of_le ((Nat.log2_lt (k := 40) z).mpr (Nat.lt_trans h (by decide))) (by decide)
theorem Fz.any {w k : Nat} {d : D} (h : Fz w k d) {w' k' : Nat} (hw : w ≤ w' := by decide) (hk : k ≤ k' := by decide) : Fz w' k' d := h.mono hw hk
/-- a tuple of ints within 10^12 -/
theorem Fz.tupI {l : List Int} (n : Nat) (hn : l.length ≤ n) (h : ∀ x, x ∈ l → x.natAbs < 10 ^ 12) : Fz (n * 41) 1 (tupI l) := Fz.tup (w := 40) (k := 0) n (by rw [List.length_map]; exact hn) fun x hx => by
  obtain ⟨i, hi, rfl⟩ := List.mem_map.mp hx
  exact .int (h i hi)
/-- a tuple of data -/
theorem Fz.tupM {α : Type} {f : α → D} {l : List α} {w k : Nat} (n : Nat) (hn : l.length ≤ n) (h : ∀ x, x ∈ l → Fz w k (f x)) : Fz (n * (w + 1)) (k + 1) (.tuple (l.map f)) := Fz.tup n (by rw [List.length_map]; exact hn) fun x hx => by
  obtain ⟨i, hi, rfl⟩ := List.mem_map.mp hx
  exact h i hi
theorem Fz.lstM {α : Type} {f : α → D} {l : List α} {w k : Nat} (n : Nat) (hn : l.length ≤ n) (h : ∀ x, x ∈ l → Fz w k (f x)) : Fz (n * (w + 1)) (k + 1) (.list (l.map f)) := Fz.lst n (by rw [List.length_map]; exact hn) fun x hx => by
  obtain ⟨i, hi, rfl⟩ := List.mem_map.mp hx
  exact h i hi
end DT

/-! The source of drawn numbers, as the text has it. -/
namespace DT
open PySem L2 PyProof.Rows
/-! ### the text -/
def topS (i : Nat) : Stmt := PySem.Challenge.pw_cornersled_k93_whole_two_sizes.main.body.getD i (.Pass ⟨0, 0, 0, 0⟩)
abbrev sOpen : Stmt := topS 16
abbrev sPick : Stmt := topS 17
theorem scOpen : FnScope ["script", "stirred", "cell", "cells"] ["script"] (defScope sOpen) := ⟨rfl, rfl, rfl, by decide +kernel, rfl, by decide +kernel, by decide +kernel⟩
theorem scPick : FnScope ["source", "most", "cells", "others", "lap", "stirred"] ["source", "most"] (defScope sPick) := ⟨rfl, rfl, rfl, by decide +kernel, rfl, by decide +kernel, by decide +kernel⟩
section
variable {P : Program} {w : World} {K : PySem.W.Frag} {mg : Str → Option Value} {base : Heap} {f : Addr} {fd : FuncData}
theorem mod_small (a : Int) {n : Int} (h : 0 < n) : 0 ≤ a.fmod n ∧ a.fmod n < n := ⟨Int.fmod_nonneg_of_pos _ h, Int.fmod_lt_of_pos _ h⟩
theorem vecMap_get {ns : List Int} {i : Nat} {x : V} (h : (ns.map V.int)[i]? = some x) : ∃ n, ns[i]? = some n ∧ x = .int n := by
  rw [List.getElem?_map] at h
  obtain ⟨n, h1, h2⟩ := Option.map_eq_some_iff.mp h
  exact ⟨n, h1, h2.symm⟩
theorem mixG_take {ns : List Int} {i : Nat} {n : Int} {s : Int} (h : ns[i]? = some n) : mixG s (ns.take (i + 1)) = (mixG s (ns.take i) * 69069 + n * 31 + 5).fmod 2147483629 := by
  induction ns generalizing i s with
  | nil => simp at h
  | cons c r ih =>
    cases i with
    | zero =>
      have e : c = n := Option.some.inj h
      subst e
      rfl
    | succ i => exact ih (s := (s * 69069 + c * 31 + 5).fmod 2147483629) (by simpa using h)
theorem ok_open (D : FunD K "_law_open_cells" "_law_open_cells" (defArgs sOpen) (defBody sOpen) (defScope sOpen) [] [] f fd) (mb : ∀ x, x ∈ bltNames → mg x = none) : FnG P w K mg base 1 f fd ["script"] (spOpen K openG) := by
  refine fnG_of D scOpen (fun vs H Q z => ?_) fun cdv A outer s H vs Q hr hg z => ?_
  · obtain ⟨a, ns, rfl, _⟩ := z
    rfl
  have mi : mg "int" = none := mb _ (by decide +kernel)
  have ma : mg "abs" = none := mb _ (by decide +kernel)
  obtain ⟨a, ns, rfl, hS, hl, want⟩ := z
  refine ⟨_, pss_cons (ps_set (i := 1) scOpen.nd rfl (.inl rfl) pe_int (by rfl) (.inr rfl))
    (pss_cons (ps_for PassesOwn.leaving rfl (pi_list (pv 0)) (pg_name (i := 2) scOpen.nd rfl (.inl rfl) (.inr rfl))
        (pss_one (ps_set (i := 1) scOpen.nd rfl (.inl rfl) (pe_op op_modN (pe_callTy call_int1 (by rfl) mi (by decide +kernel) (pa_cons (pe_op op_add (pe_op op_add (pe_op op_mul (pv 1) pe_int) (pe_op op_mul (pv 2) pe_int)) pe_int) pa_nil)) pe_int) (by rfl) (.inr rfl))))
    (pss_cons (ps_setLc (i := 3) (own := [("cell", 2)]) rfl scOpen.nd rfl rfl (by rfl) (pi_list (pv 0)) (show BlkOk ["script", "stirred", "cell", "cells"] (defScope sOpen) _ [("cell", 2)] from ⟨rfl, by decide +kernel, by decide +kernel, by decide +kernel, by decide +kernel⟩) (fun s H C cl fp => pg_name (i := 2) scOpen.nd rfl (.inl rfl) (.inr rfl)) (fun s H C cl fp => pts_nil)
        (fun s H C cl fp => pe_callB call_abs (by rfl) ma (by decide +kernel) (pa_cons (pv 2) pa_nil)))
    (pss_one (ps_ret (pe_disp (pps_cons pe_str (pe_revL (pv 3)) (pps_cons pe_str pe_int (pps_cons pe_str (pv 1) (pps_cons pe_str pe_int pps_nil)))) (by rfl) (by rfl) (fun z => by cases z) (by decide)))))), ?_⟩
  have look : ∀ {i : Nat} {x : V}, (ns.map V.int)[i]? = some x → ∃ n, ns[i]? = some n ∧ x = .int n := vecMap_get
  refine ⟨.ref a, rfl, a, rfl, ⟨_, hS⟩, for_list (xs := ns.map V.int) (fun i σ H' => H' = H ∧ ∃ z, σ = [some (.ref a), some (.int (mixG 11 (ns.take i))), z, none]) ⟨rfl, none, rfl⟩ (fun i σ H' _ q => by rw [q.1]; exact hS) (fun i x σ H' hx q => ?_) fun σ H' q => ?_⟩
  · obtain ⟨rfl, z, rfl⟩ := q
    obtain ⟨n, hn, rfl⟩ := look hx
    refine ⟨_, rfl, _, _, rfl, rfl, .inr ⟨by decide, by decide⟩, _, rfl, _, _, rfl, rfl, .inr ⟨by decide, by decide⟩, _, _, rfl, rfl, _, _, rfl, rfl, .inl ⟨_, rfl, _, _, rfl, rfl, (show (2147483629 : Int) ≠ 0 by decide), rfl, some (.int n), ?_⟩⟩
    rw [mixG_take hn]
    rfl
  · obtain ⟨rfl, z, rfl⟩ := q
    rw [List.length_map, List.take_length]
    refine ⟨.ref a, rfl, a, rfl, ⟨_, hS⟩, fun c hc => lc_list (xs := ns.map V.int) (fun i H2 => (∀ p o, H' p = some o → H2 p = some o) ∧ H2 c = some (.lst ((ns.take i).map fun n => V.int (absI n)))) ⟨fun p o e => ?_, upd_same⟩ (fun i H2 _ q => ?_) (fun i x H2 hx q => ?_) fun H2 q => ?_⟩
    · rw [upd_ne (ne_of_none e hc)]
      exact e
    · rcases hS with hS | hS
      · rcases hS with hS | ⟨o, hS⟩
        · exact .inl (.inl (q.1 _ _ hS))
        · exact .inl (.inr ⟨o, q.1 _ _ hS⟩)
      · exact .inr hS
    · obtain ⟨n, hn, rfl⟩ := look hx
      refine ⟨rfl, ?_⟩
      unfold tYes
      refine iteT ⟨_, rfl, n, rfl, _, q.2, ?_, fun p o e => ?_, ?_⟩
      · rw [List.length_map, List.length_take]
        exact Nat.lt_of_le_of_lt (Nat.le_trans (Nat.min_le_right _ _) hl) (by decide)
      · have ne : p ≠ c := fun z => by rw [z, hc] at e; cases e
        rw [upd_ne ne]
        exact q.1 p o e
      · rw [upd_same, List.take_add_one, hn, List.map_append]
        rfl
    · rw [List.length_map, List.take_length] at q
      obtain ⟨q1, q2⟩ := q
      intro d hd
      have hcd : c ≠ d := ne_of_none q2 hd
      refine ⟨.ref c, rfl, c, _, rfl, .of (by rw [upd_ne hcd]; exact q2), fun e he => ⟨_, rfl, ?_⟩⟩
      have hed : e ≠ d := fun z => by rw [z, upd_same] at he; cases he
      refine ⟨by rw [upd_ne (Ne.symm hed), upd_same], [(.inr "cells", .ref e), (.inr "left", .int 1), (.inr "mixed", .int (mixG 11 ns)), (.inr "turn", .int 0)], rfl, (show 4 ≤ 15 by decide), ?_⟩
      refine want d e _ (fun p o z => ?_) ⟨?_, ?_, Ne.symm hed⟩
      · have z1 := q1 p o z
        have n1 : p ≠ d := ne_of_none z1 hd
        have n2 : p ≠ e := fun y => by
          rw [← y, upd_ne n1] at he
          rw [z1] at he
          cases he
        rw [upd_ne n1, upd_ne n2, upd_ne n1]
        exact z1
      · rw [upd_same]
        rfl
      · rw [upd_ne hed, upd_same]
        show some (HO.lst _) = some (HO.lst _)
        congr 2
        show _ = ((ns.map absI).reverse).map V.int
        rw [List.map_reverse, List.map_map]
        rfl
/-! ### a pick -/
def srcK (c : Addr) (l m t : Int) : List (Key × V) := [(.inr "cells", .ref c), (.inr "left", .int l), (.inr "mixed", .int m), (.inr "turn", .int t)]
theorem put_left {c : Addr} {l m t l' : Int} : putK (srcK c l m t) (.inr "left") (.int l') = srcK c l' m t := rfl
theorem put_turn {c : Addr} {l m t t' : Int} : putK (srcK c l m t) (.inr "turn") (.int t') = srcK c l m t' := rfl
section
variable {H : Hp} {sa : Addr × Addr} {g : PState} {d c : Addr}
theorem src_get (q : SrcOk H (d, c) g) : DGet H d (.str "cells") (some (.ref c)) ∧ DGet H d (.str "left") (some (.int g.left)) ∧ DGet H d (.str "mixed") (some (.int g.mixed)) ∧ DGet H d (.str "turn") (some (.int g.turn)) :=
  ⟨DGet.k (k := .inr "cells") q.1, DGet.k (k := .inr "left") q.1, DGet.k (k := .inr "mixed") q.1, DGet.k (k := .inr "turn") q.1⟩
theorem src_left (q : SrcOk H (d, c) g) (l : Int) : DPut H d (.str "left") (.int l) (upd H d (.dK (srcK c l g.mixed g.turn))) ∧ SrcOk (upd H d (.dK (srcK c l g.mixed g.turn))) (d, c) ⟨g.cells, l, g.mixed, g.turn⟩ ∧ Keep (isS (d, c)) H (upd H d (.dK (srcK c l g.mixed g.turn))) := by
  refine ⟨DPut.k (k := .inr "left") (v := .int l) q.1 (show 4 < sizeLine by decide), ⟨upd_same, ?_, q.2.2⟩, .mut (.inl rfl)⟩
  rw [upd_ne (Ne.symm q.2.2)]
  exact q.2.1
theorem src_turn (q : SrcOk H (d, c) g) (t : Int) : DPut H d (.str "turn") (.int t) (upd H d (.dK (srcK c g.left g.mixed t))) ∧ SrcOk (upd H d (.dK (srcK c g.left g.mixed t))) (d, c) ⟨g.cells, g.left, g.mixed, t⟩ ∧ Keep (isS (d, c)) H (upd H d (.dK (srcK c g.left g.mixed t))) := by
  refine ⟨DPut.k (k := .inr "turn") (v := .int t) q.1 (show 4 < sizeLine by decide), ⟨upd_same, ?_, q.2.2⟩, .mut (.inl rfl)⟩
  rw [upd_ne (Ne.symm q.2.2)]
  exact q.2.1
theorem src_pop (q : SrcOk H (d, c) g) (cs : List Int) : SrcOk (upd H c (.lst (cs.map V.int))) (d, c) ⟨cs, g.left, g.mixed, g.turn⟩ ∧ Keep (isS (d, c)) H (upd H c (.lst (cs.map V.int))) := by
  refine ⟨⟨?_, upd_same, q.2.2⟩, .mut (.inr rfl)⟩
  rw [upd_ne q.2.2]
  exact q.1
theorem drain_step {l x : Int} {cs : List Int} (h : l < 2) : drainG l (cs ++ [x]) = drainG x cs := by
  unfold drainG
  rw [List.reverse_append]
  show ((drainR l (x :: cs.reverse)).1, (drainR l (x :: cs.reverse)).2.reverse) = _
  simp only [drainR, if_pos h]
theorem drain_stop {l : Int} {cs : List Int} (h : ¬ l < 2 ∨ cs = []) : drainG l cs = (l, cs) := by
  unfold drainG
  cases e : cs.reverse with
  | nil =>
    have : cs = [] := List.reverse_eq_nil_iff.mp e
    subst this
    rfl
  | cons x r =>
    have ne : cs ≠ [] := fun z => by rw [z] at e; cases e
    have h' := h.resolve_right ne
    simp only [drainR, if_neg h']
    rw [← e, List.reverse_reverse]
end
theorem pick_inv {as : List (Option DT.D)} {g : PState} {d : DT.D} {g' : PState} (h : pickFn as g = some (d, g')) : ∃ n, as = [none, some (.int n)] ∧ n < 1073741824 ∧ d = .int (pickG n g).1 ∧ g' = (pickG n g).2 := by
  unfold pickFn at h
  split at h
  · rename_i n
    split at h
    · cases h
      exact ⟨n, rfl, by assumption, rfl, rfl⟩
    · cases h
  · cases h
theorem ok_pick (D : FunD K "_law_pick" "_law_pick" (defArgs sPick) (defBody sPick) (defScope sPick) [] [] f fd) (mb : ∀ x, x ∈ bltNames → mg x = none) : FnG P w K mg base 1 f fd ["source", "most"] (spF 2 pickFn) := by
  refine fnG_of D scPick (fun vs H Q z => ?_) fun cdv A outer s H vs Q hr hg z => ?_
  · obtain ⟨M0, sa, as, g, d, g', hl, _, _, _, o, _⟩ := z
    rw [o.length, hl]
    rfl
  have mi : mg "int" = none := mb _ (by decide +kernel)
  have ml : mg "len" = none := mb _ (by decide +kernel)
  have hu : (A.deeper (envOfC "_law_pick" (defScope sPick) s.heap.objs.size f cdv)).units + 1 < cLine := by
    have := hr.un
    omega
  refine ⟨_, pss_cons (ps_if (pt_cmpR op_lt (pv 1) pe_int (nomark _)) (pss_one (ps_ret pe_int)) pss_nil)
    (pss_cons (ps_set (i := 2) scPick.nd rfl (.inl rfl) (pe_dget hu (pv 0) pe_str (fun _ _ => rfl)) (by rfl) (.inr rfl))
    (pss_cons (ps_while PassesOwn.leaving (pw_and (pt_cmpR op_lt (pe_dget hu (pv 0) pe_str (fun _ _ => rfl)) pe_int (nomark _)) (pw_and1 (pt_cmpR op_gt (pe_callB call_len_seq (by rfl) ml (by decide +kernel) (pa_cons (pv 2) pa_nil)) pe_int (nomark _)))).pt
      (pss_one (ps_dput hu (pv 0) pe_str (pe_bm0 PySem.F.plainAttrs_list PySem.F.slot_list_pop PySem.F.type_list_pop mt_pop (pv 2)) (by rfl))))
    (pss_cons (ps_set (i := 3) scPick.nd rfl (.inl rfl) (pe_dget hu (pv 0) pe_str (fun _ _ => rfl)) (by rfl) (.inr rfl))
    (pss_cons (ps_if (pt_cmpR op_gt (pv 3) pe_int (nomark _)) (pss_cons (ps_dput hu (pv 0) pe_str (pe_op op_fdivN (pv 3) (pv 1)) (by rfl)) (pss_one (ps_ret (pe_op op_modN (pe_callTy call_int1 (by rfl) mi (by decide +kernel) (pa_cons (pv 3) pa_nil)) (pv 1))))) pss_nil)
    (pss_cons (ps_dput hu (pv 0) pe_str (pe_op op_add (pe_dget hu (pv 0) pe_str (fun _ _ => rfl)) pe_int) (by rfl))
    (pss_cons (ps_set (i := 4) scPick.nd rfl (.inl rfl) (pe_dget hu (pv 0) pe_str (fun _ _ => rfl)) (by rfl) (.inr rfl))
    (pss_cons (ps_set (i := 5) scPick.nd rfl (.inl rfl) (pe_op op_modN (pe_callTy call_int1 (by rfl) mi (by decide +kernel) (pa_cons (pe_op op_add (pe_dget hu (pv 0) pe_str (fun _ _ => rfl)) (pe_op op_mul (pv 4) pe_int)) pa_nil)) pe_int) (by rfl) (.inr rfl))
    (pss_cons (ps_set (i := 5) scPick.nd rfl (.inl rfl) (pe_op op_modN (pe_callTy call_int1 (by rfl) mi (by decide +kernel) (pa_cons (pe_op op_add (pe_op op_mul (pv 5) (pv 5)) (pe_op op_mul (pv 4) pe_int)) pa_nil)) pe_int) (by rfl) (.inr rfl))
    (pss_one (ps_ret (pe_op op_modN (pe_callTy call_int1 (by rfl) mi (by decide +kernel) (pa_cons (pe_op op_fdivN (pv 5) pe_int) pa_nil)) (pv 1)))))))))))), ?_⟩
  obtain ⟨M0, ⟨dd, cc⟩, as, g, d, g', hl, h1, h2, src, o, e, want⟩ := z
  obtain ⟨n, rfl, hn, rfl, rfl⟩ := pick_inv e
  obtain ⟨t, rfl, v, t', rfl, hv, ht⟩ := o
  have ht' : t' = [] := ht
  subst ht'
  rw [Rep] at hv
  subst hv
  have out : ∀ (x : Int) H' g', (pickG n g) = (x, g') → Keep (isS (dd, cc)) H H' → SrcOk H' (dd, cc) g' → Q (.int x) H' := fun x H' g' eg k q => want (.int x) H' k (by rw [eg]; exact q) (by rw [eg, Rep])
  clear want e
  refine ⟨.int n, rfl, n, 2, rfl, rfl, _, rfl, ite2 (fun c => ?_) (fun c => ?_)⟩
  · have c := of_decide_eq_true c
    refine out 0 H g ?_ .refl src
    unfold pickG
    rw [if_pos c]
  have c : ¬ n < 2 := fun z => c (decide_eq_true z)
  refine ⟨.ref dd, rfl, dd, .ref cc, rfl, (src_get src).1, ?_⟩
  refine ⟨fun m σ H' => ∃ l cs, σ = [some (.ref dd), some (.int n), some (.ref cc), none, none, none] ∧ SrcOk H' (dd, cc) ⟨cs, l, g.mixed, g.turn⟩ ∧ Keep (isS (dd, cc)) H H' ∧ drainG l cs = drainG g.left g.cells ∧ m = cs.length, ⟨_, g.left, g.cells, rfl, src, .refl, rfl, rfl⟩, ?_⟩
  rintro m σ H' ⟨l, cs, rfl, q, k, ed, rfl⟩
  have gl := (src_get q).2.1
  by_cases go : l < 2 ∧ cs ≠ []
  · obtain ⟨c1, c2⟩ := go
    obtain ⟨cs', x, rfl⟩ : ∃ cs' x, cs = cs' ++ [x] := ⟨cs.dropLast, cs.getLast c2, (List.dropLast_concat_getLast c2).symm⟩
    refine ⟨.ref dd, rfl, dd, .int l, rfl, gl, l, 2, rfl, rfl, _, rfl, ite2 (fun _ => ?_) (fun z => (z (decide_eq_true c1)).elim)⟩
    refine ⟨.ref cc, rfl, cc, (cs' ++ [x]).map V.int, rfl, .inl (.of q.2.1), _, 0, rfl, rfl, _, rfl, ite2 (fun _ => ?_) (fun z => (z (decide_eq_true (by simp))).elim)⟩
    refine ⟨fun σ2 H2 => σ2 = [some (.ref dd), some (.int n), some (.ref cc), none, none, none] ∧ SrcOk H2 (dd, cc) ⟨cs', x, g.mixed, g.turn⟩ ∧ Keep (isS (dd, cc)) H H2, fun σ2 H2 ⟨e1, e2, e3⟩ => ⟨cs'.length, by simp, x, cs', e1, e2, e3, by rw [← ed, drain_step c1], rfl⟩, ?_⟩
    obtain ⟨p1, p2⟩ := src_pop q cs'
    obtain ⟨p3, p4, p5⟩ := src_left p1 x
    have el : ((cs' ++ [x]).map V.int).dropLast = cs'.map V.int := by simp
    refine ⟨.ref cc, rfl, .inl ⟨rfl, _, .of q.2.1⟩, cc, (cs' ++ [x]).map V.int, .int x, rfl, rfl, q.2.1, by simp, ?_⟩
    rw [el]
    exact ⟨.ref dd, rfl, dd, _, rfl, p3, rfl, p4, k.trans (p2.trans p5)⟩
  · have stop : ¬ l < 2 ∨ cs = [] := by
      by_cases z : l < 2
      · exact .inr (Classical.byContradiction fun y => go ⟨z, y⟩)
      · exact .inl z
    rw [drain_stop stop] at ed
    refine (fun fin => ⟨.ref dd, rfl, dd, .int l, rfl, gl, l, 2, rfl, rfl, _, rfl, ite2 (fun z => ⟨.ref cc, rfl, cc, cs.map V.int, rfl, .inl (.of q.2.1), _, 0, rfl, rfl, _, rfl, ite2 (fun y => (by
      have z := of_decide_eq_true z
      have y := of_decide_eq_true y
      rw [stop.resolve_left (fun w => w z)] at y
      simp at y)) (fun _ => fin)⟩) (fun _ => iteF fin)⟩) ?_
    -- behind the loop
    have gt := (src_get q).2.2.2
    refine ⟨.ref dd, rfl, dd, .int l, rfl, gl, ?_⟩
    refine ⟨.int l, rfl, l, 1, rfl, rfl, _, rfl, ite2 (fun z => ?_) (fun z => ?_)⟩
    · have z := of_decide_eq_true z
      obtain ⟨p3, p4, p5⟩ := src_left q (l.fdiv n)
      refine ⟨.int l, rfl, .int n, rfl, l, n, rfl, rfl, ⟨by omega, by omega⟩, .ref dd, rfl, dd, _, rfl, p3, ?_⟩
      refine ⟨_, rfl, .inl ⟨l, rfl, .int n, rfl, l, n, rfl, rfl, by omega, ?_⟩⟩
      refine out _ _ _ ?_ (k.trans p5) p4
      unfold pickG
      rw [if_neg c, ← ed, if_pos z]
    · have z : ¬ 1 < l := fun y => z (decide_eq_true y)
      obtain ⟨p3, p4, p5⟩ := src_turn q (g.turn + 1)
      have gm := (src_get p4).2.2.1
      have gt2 := (src_get p4).2.2.2
      have b1 := mod_small (g.mixed + (g.turn + 1) * 104729) (show (0 : Int) < 998244353 by decide)
      refine ⟨.ref dd, rfl, dd, .int g.turn, rfl, gt, g.turn, 1, rfl, rfl, .ref dd, rfl, dd, _, rfl, p3, ?_⟩
      refine ⟨.ref dd, rfl, dd, .int (g.turn + 1), rfl, gt2, ?_⟩
      refine ⟨.ref dd, rfl, dd, .int g.mixed, rfl, gm, .int (g.turn + 1), rfl, g.turn + 1, 104729, rfl, rfl, .inr ⟨by decide, by decide⟩, g.mixed, _, rfl, rfl, .inl ⟨_, rfl, _, 998244353, rfl, rfl, (show (998244353 : Int) ≠ 0 by decide), ?_⟩⟩
      refine ⟨_, rfl, _, rfl, _, _, rfl, rfl, .inl ⟨by omega, by omega⟩, .int (g.turn + 1), rfl, g.turn + 1, 17, rfl, rfl, .inr ⟨by decide, by decide⟩, _, _, rfl, rfl, .inl ⟨_, rfl, _, 2147483647, rfl, rfl, (show (2147483647 : Int) ≠ 0 by decide), ?_⟩⟩
      refine ⟨_, rfl, _, 16, rfl, rfl, ⟨by decide, by decide⟩, .inl ⟨_, rfl, .int n, rfl, _, n, rfl, rfl, by omega, ?_⟩⟩
      refine out _ _ _ ?_ (k.trans p5) p4
      unfold pickG
      rw [if_neg c, ← ed, if_neg z]
end
end DT

/-! The defs as functions. -/
namespace DT
open PySem L2 PyProof.Rows
def gls : List (Str × Int) := []
def tn : List (Str × Nat) := ([("_law_pick", 2), ("ties_of_triangle", 1), ("rim_of", 1), ("tie_counts", 1), ("rim_ties", 1), ("all_ties", 1), ("is_turn_door", 3), ("doors_of", 3), ("is_turned", 3), ("turn_triangles", 2), ("opposite_ties", 2), ("rim_doors", 2), ("rim_walk", 3), ("turn_paper", 2), ("_law_rim", 1), ("_law_cone", 1), ("_law_ties", 1), ("_law_parted", 2), ("_law_flipped", 2), ("_law_draw", 2), ("_law_labels", 3)] : List (Str × Nat))
def failFn : Fn := fun _ _ => none
def t1 : List Fn := [pickFn]
def x_ties_of_triangle : Sxs := X_ties_of_triangle
def f_ties_of_triangle : Fn := fnOf t1 4 x_ties_of_triangle
def t2 : List Fn := t1 ++ [f_ties_of_triangle]
def x_rim_of : Sxs := X_rim_of
def f_rim_of : Fn := fnOf t2 2 x_rim_of
def t3 : List Fn := t2 ++ [f_rim_of]
def x_tie_counts : Sxs := X_tie_counts 1
def f_tie_counts : Fn := fnOf t3 4 x_tie_counts
def t4 : List Fn := t3 ++ [f_tie_counts]
def x_rim_ties : Sxs := X_rim_ties 2
def f_rim_ties : Fn := fnOf t4 1 x_rim_ties
def t5 : List Fn := t4 ++ [f_rim_ties]
def x_all_ties : Sxs := X_all_ties 3
def f_all_ties : Fn := fnOf t5 1 x_all_ties
def t6 : List Fn := t5 ++ [f_all_ties]
def x_is_turn_door : Sxs := X_is_turn_door
def f_is_turn_door : Fn := fnOf t6 5 x_is_turn_door
def t7 : List Fn := t6 ++ [f_is_turn_door]
def x_doors_of : Sxs := X_doors_of 6 1
def f_doors_of : Fn := fnOf t7 4 x_doors_of
def t8 : List Fn := t7 ++ [f_doors_of]
def x_is_turned : Sxs := X_is_turned
def f_is_turned : Fn := fnOf t8 7 x_is_turned
def t9 : List Fn := t8 ++ [f_is_turned]
def x_turn_triangles : Sxs := X_turn_triangles 8
def f_turn_triangles : Fn := fnOf t9 3 x_turn_triangles
def t10 : List Fn := t9 ++ [f_turn_triangles]
def x_opposite_ties : Sxs := X_opposite_ties 5
def f_opposite_ties : Fn := fnOf t10 4 x_opposite_ties
def t11 : List Fn := t10 ++ [f_opposite_ties]
def x_rim_doors : Sxs := X_rim_doors 6 4
def f_rim_doors : Fn := fnOf t11 3 x_rim_doors
def t12 : List Fn := t11 ++ [f_rim_doors]
def x_rim_walk : Sxs := X_rim_walk 7 1
def f_rim_walk : Fn := fnOf t12 10 x_rim_walk
def t13 : List Fn := t12 ++ [f_rim_walk]
def x_turn_paper : Sxs := X_turn_paper 7 11 12 1
def f_turn_paper : Fn := fnOf t13 7 x_turn_paper
def t14 : List Fn := t13 ++ [f_turn_paper]
def x_law_rim : Sxs := X_law_rim
def f_law_rim : Fn := fnOf t14 2 x_law_rim
def t15 : List Fn := t14 ++ [f_law_rim]
def x_law_cone : Sxs := X_law_cone 14
def f_law_cone : Fn := fnOf t15 3 x_law_cone
def t16 : List Fn := t15 ++ [f_law_cone]
def x_law_ties : Sxs := X_law_ties
def f_law_ties : Fn := fnOf t16 7 x_law_ties
def t17 : List Fn := t16 ++ [f_law_ties]
def x_law_parted : Sxs := X_law_parted
def f_law_parted : Fn := fnOf t17 11 x_law_parted
def t18 : List Fn := t17 ++ [f_law_parted]
def x_law_flipped : Sxs := X_law_flipped 14 16
def f_law_flipped : Fn := fnOf t18 12 x_law_flipped
def t19 : List Fn := t18 ++ [f_law_flipped]
def x_law_draw : Sxs := X_law_drawF 15 18 17 16
def f_law_draw : Fn := fnOf t19 5 x_law_draw
def t20 : List Fn := t19 ++ [f_law_draw]
def x_law_labels : Sxs := X_law_labels
def f_law_labels : Fn := fnOf t20 11 x_law_labels
def t21 : List Fn := t20 ++ [f_law_labels]
-- for row in rows:
def w1_law : Sxs := (.cons (.iff (.or (.cons (.cmp (.call 10 (.ex (.v 3) (.ex (.v 13) .nil))) (.cons .eq (.tup .nil) .nil)) (.cons (.cmp (.call 9 (.ex (.v 3) (.ex (.v 13) .nil))) (.cons .ne (.tup .nil) .nil)) .nil))) (.cons (.ret (.k (.bool false))) .nil) .nil) .nil)
-- for row in rows:
def w2_law : Sxs := (.cons (.set 12 (.bin .add (.v 12) (.comp (.bin .add (.v 13) (.tup (.cons (.v 14) .nil))) (.n 14) .seq (.cons (.tup (.cons (.k (.int 1)) (.cons (.k (.int 2)) (.cons (.bin .sub (.k (.int 0)) (.k (.int 1))) (.cons (.bin .sub (.k (.int 0)) (.k (.int 2))) .nil))))) .nil) .nil))) .nil)
-- for point in range(2 * h, n):
def w3_law : Sxs := (.cons (.set 12 (.lst .nil)) (.cons (.for (.n 13) .seq (.cons (.v 10) .nil) w2_law) (.cons (.set 10 (.blt .list (.cons (.v 12) .nil))) .nil)))
-- for lap in range(5):
def w4_law : Sxs := (.cons (.set 3 (.call 19 (.src 1 (.ex (.ix (.lst (.cons (.k (.int 0)) (.cons (.k (.int 3)) (.cons (.k (.int 8)) (.cons (.k (.int 16)) (.cons (.k (.int 24)) .nil)))))) (.v 2)) .nil)))) (.cons (.unp (.t [(.n 4), (.n 5), (.n 6)]) (.v 3)) (.cons (.set 7 (.call 20 (.src 1 (.ex (.v 3) (.ex (.k (.int 2)) .nil))))) (.cons (.set 8 (.call 10 (.ex (.v 3) (.ex (.v 7) .nil)))) (.cons (.iff (.or (.cons (.cmp (.v 8) (.cons .eq (.tup .nil) .nil)) (.cons (.cmp (.call 9 (.ex (.v 3) (.ex (.v 7) .nil))) (.cons .ne (.tup .nil) .nil)) .nil))) (.cons (.ret (.k (.bool false))) .nil) .nil) (.cons (.iff (.cmp (.comp (.v 9) (.n 9) .seq (.cons (.v 8) .nil) (.cons (.or (.cons (.cmp (.bin .add (.ix (.v 7) (.ix (.v 9) (.k (.int 0)))) (.ix (.v 7) (.ix (.v 9) (.k (.int 1))))) (.cons .ne (.k (.int 0)) .nil)) (.cons (.cmp (.v 9) (.cons .mem (.call 14 (.ex (.v 4) .nil)) .nil)) .nil))) .nil)) (.cons .ne (.lst .nil) .nil)) (.cons (.ret (.k (.bool false))) .nil) .nil) (.cons (.iff (.cmp (.ix (.call 13 (.ex (.v 3) (.ex (.v 7) .nil))) (.k (.int 0))) (.cons .ne (.k (.str "opposite")) .nil)) (.cons (.ret (.k (.bool false))) .nil) .nil) (.cons (.iff (.cmp (.bin .sub (.v 5) (.bin .mul (.k (.int 2)) (.v 4))) (.cons .lt (.k (.int 5)) .nil)) (.cons (.set 10 (.lst (.cons (.sl (.v 7) .abs (.bin .mul (.k (.int 2)) (.v 4))) .nil))) (.cons (.for (.n 11) .rng2 (.cons (.bin .mul (.k (.int 2)) (.v 4)) (.cons (.v 5) .nil)) w3_law) (.cons (.for (.n 13) .seq (.cons (.v 10) .nil) w1_law) .nil))) .nil) .nil))))))))
-- law slots 0:script 1:source 2:lap 3:filling 4:h 5:n 6:triangles 7:labels 8:told 9:tie 10:rows 11:point 12:late 13:row 14:x
def x_law : Sxs := (.cons (.for (.n 2) .rng1 (.cons (.k (.int 5)) .nil) w4_law) (.cons (.ret (.k (.bool true))) .nil))
/-! ### the check -/
theorem s_1 : FnScope ["triangle", "a", "b", "c"] ["triangle"] (defScope (topS 1)) := ⟨rfl, rfl, rfl, by decide +kernel, rfl, by decide +kernel, by decide +kernel⟩
theorem c_ties_of_triangle : chSs gls (tn.take 1) (tn.take 1).length ["triangle", "a", "b", "c"] x_ties_of_triangle (defScope (topS 1)) (defBody (topS 1)) = true := by decide +kernel
theorem s_2 : FnScope ["h", "k"] ["h"] (defScope (topS 2)) := ⟨rfl, rfl, rfl, by decide +kernel, rfl, by decide +kernel, by decide +kernel⟩
theorem c_rim_of : chSs gls (tn.take 2) (tn.take 2).length ["h", "k"] x_rim_of (defScope (topS 2)) (defBody (topS 2)) = true := by decide +kernel
theorem s_3 : FnScope ["triangles", "found", "triangle", "tie"] ["triangles"] (defScope (topS 3)) := ⟨rfl, rfl, rfl, by decide +kernel, rfl, by decide +kernel, by decide +kernel⟩
theorem c_tie_counts : chSs gls (tn.take 3) (tn.take 3).length ["triangles", "found", "triangle", "tie"] x_tie_counts (defScope (topS 3)) (defBody (topS 3)) = true := by decide +kernel
theorem s_4 : FnScope ["filling"] ["filling"] (defScope (topS 4)) := ⟨rfl, rfl, rfl, by decide +kernel, rfl, by decide +kernel, by decide +kernel⟩
theorem c_rim_ties : chSs gls (tn.take 4) (tn.take 4).length ["filling"] x_rim_ties (defScope (topS 4)) (defBody (topS 4)) = true := by decide +kernel
theorem s_5 : FnScope ["filling"] ["filling"] (defScope (topS 5)) := ⟨rfl, rfl, rfl, by decide +kernel, rfl, by decide +kernel, by decide +kernel⟩
theorem c_all_ties : chSs gls (tn.take 5) (tn.take 5).length ["filling"] x_all_ties (defScope (topS 5)) (defBody (topS 5)) = true := by decide +kernel
theorem s_7 : FnScope ["labels", "a", "b", "x", "y"] ["labels", "a", "b"] (defScope (topS 7)) := ⟨rfl, rfl, rfl, by decide +kernel, rfl, by decide +kernel, by decide +kernel⟩
theorem c_is_turn_door : chSs gls (tn.take 6) (tn.take 6).length ["labels", "a", "b", "x", "y"] x_is_turn_door (defScope (topS 7)) (defBody (topS 7)) = true := by decide +kernel
theorem s_8 : FnScope ["filling", "labels", "t", "tie"] ["filling", "labels", "t"] (defScope (topS 8)) := ⟨rfl, rfl, rfl, by decide +kernel, rfl, by decide +kernel, by decide +kernel⟩
theorem c_doors_of : chSs gls (tn.take 7) (tn.take 7).length ["filling", "labels", "t", "tie"] x_doors_of (defScope (topS 8)) (defBody (topS 8)) = true := by decide +kernel
theorem s_9 : FnScope ["filling", "labels", "t", "x", "y", "z", "point"] ["filling", "labels", "t"] (defScope (topS 9)) := ⟨rfl, rfl, rfl, by decide +kernel, rfl, by decide +kernel, by decide +kernel⟩
theorem c_is_turned : chSs gls (tn.take 8) (tn.take 8).length ["filling", "labels", "t", "x", "y", "z", "point"] x_is_turned (defScope (topS 9)) (defBody (topS 9)) = true := by decide +kernel
theorem s_10 : FnScope ["filling", "labels", "t"] ["filling", "labels"] (defScope (topS 10)) := ⟨rfl, rfl, rfl, by decide +kernel, rfl, by decide +kernel, by decide +kernel⟩
theorem c_turn_triangles : chSs gls (tn.take 9) (tn.take 9).length ["filling", "labels", "t"] x_turn_triangles (defScope (topS 10)) (defBody (topS 10)) = true := by decide +kernel
theorem s_11 : FnScope ["filling", "labels", "a", "b"] ["filling", "labels"] (defScope (topS 11)) := ⟨rfl, rfl, rfl, by decide +kernel, rfl, by decide +kernel, by decide +kernel⟩
theorem c_opposite_ties : chSs gls (tn.take 10) (tn.take 10).length ["filling", "labels", "a", "b"] x_opposite_ties (defScope (topS 11)) (defBody (topS 11)) = true := by decide +kernel
theorem s_12 : FnScope ["filling", "labels", "tie"] ["filling", "labels"] (defScope (topS 12)) := ⟨rfl, rfl, rfl, by decide +kernel, rfl, by decide +kernel, by decide +kernel⟩
theorem c_rim_doors : chSs gls (tn.take 11) (tn.take 11).length ["filling", "labels", "tie"] x_rim_doors (defScope (topS 12)) (defBody (topS 12)) = true := by decide +kernel
theorem s_13 : FnScope ["filling", "labels", "tie", "found", "last", "some", "t", "triangle", "others", "door"] ["filling", "labels", "tie"] (defScope (topS 13)) := ⟨rfl, rfl, rfl, by decide +kernel, rfl, by decide +kernel, by decide +kernel⟩
theorem c_rim_walk : chSs gls (tn.take 12) (tn.take 12).length ["filling", "labels", "tie", "found", "last", "some", "t", "triangle", "others", "door"] x_rim_walk (defScope (topS 13)) (defBody (topS 13)) = true := by decide +kernel
theorem s_14 : FnScope ["filling", "labels", "tie", "t", "some", "a", "b"] ["filling", "labels"] (defScope (topS 14)) := ⟨rfl, rfl, rfl, by decide +kernel, rfl, by decide +kernel, by decide +kernel⟩
theorem c_turn_paper : chSs gls (tn.take 13) (tn.take 13).length ["filling", "labels", "tie", "t", "some", "a", "b"] x_turn_paper (defScope (topS 14)) (defBody (topS 14)) = true := by decide +kernel
theorem s_18 : FnScope ["h", "k"] ["h"] (defScope (topS 18)) := ⟨rfl, rfl, rfl, by decide +kernel, rfl, by decide +kernel, by decide +kernel⟩
theorem c_law_rim : chSs gls (tn.take 14) (tn.take 14).length ["h", "k"] x_law_rim (defScope (topS 18)) (defBody (topS 18)) = true := by decide +kernel
theorem s_19 : FnScope ["h", "a", "b"] ["h"] (defScope (topS 19)) := ⟨rfl, rfl, rfl, by decide +kernel, rfl, by decide +kernel, by decide +kernel⟩
theorem c_law_cone : chSs gls (tn.take 15) (tn.take 15).length ["h", "a", "b"] x_law_cone (defScope (topS 19)) (defBody (topS 19)) = true := by decide +kernel
theorem s_20 : FnScope ["triangles", "found", "t", "a", "b", "c", "tie"] ["triangles"] (defScope (topS 20)) := ⟨rfl, rfl, rfl, by decide +kernel, rfl, by decide +kernel, by decide +kernel⟩
theorem c_law_ties : chSs gls (tn.take 16) (tn.take 16).length ["triangles", "found", "t", "a", "b", "c", "tie"] x_law_ties (defScope (topS 20)) (defBody (topS 20)) = true := by decide +kernel
theorem s_21 : FnScope ["filling", "t", "h", "n", "triangles", "a", "b", "c", "late", "k", "triangle"] ["filling", "t"] (defScope (topS 21)) := ⟨rfl, rfl, rfl, by decide +kernel, rfl, by decide +kernel, by decide +kernel⟩
theorem c_law_parted : chSs gls (tn.take 17) (tn.take 17).length ["filling", "t", "h", "n", "triangles", "a", "b", "c", "late", "k", "triangle"] x_law_parted (defScope (topS 21)) (defBody (topS 21)) = true := by decide +kernel
theorem s_22 : FnScope ["filling", "tie", "h", "n", "triangles", "some", "ends", "x", "t", "late", "k", "triangle"] ["filling", "tie"] (defScope (topS 22)) := ⟨rfl, rfl, rfl, by decide +kernel, rfl, by decide +kernel, by decide +kernel⟩
theorem c_law_flipped : chSs gls (tn.take 18) (tn.take 18).length ["filling", "tie", "h", "n", "triangles", "some", "ends", "x", "t", "late", "k", "triangle"] x_law_flipped (defScope (topS 22)) (defBody (topS 22)) = true := by decide +kernel
theorem s_23 : FnScope ["source", "most", "here", "step", "ties"] ["source", "most"] (defScope (topS 23)) := ⟨rfl, rfl, rfl, by decide +kernel, rfl, by decide +kernel, by decide +kernel⟩
theorem c_law_draw : chSs gls (tn.take 19) (tn.take 19).length ["source", "most", "here", "step", "ties"] x_law_draw (defScope (topS 23)) (defBody (topS 23)) = true := by decide +kernel
theorem s_24 : FnScope ["source", "filling", "most", "h", "n", "triangles", "half", "k", "some", "x", "rest"] ["source", "filling", "most"] (defScope (topS 24)) := ⟨rfl, rfl, rfl, by decide +kernel, rfl, by decide +kernel, by decide +kernel⟩
theorem c_law_labels : chSs gls (tn.take 20) (tn.take 20).length ["source", "filling", "most", "h", "n", "triangles", "half", "k", "some", "x", "rest"] x_law_labels (defScope (topS 24)) (defBody (topS 24)) = true := by decide +kernel
theorem s_25 : FnScope ["script", "source", "lap", "filling", "h", "n", "triangles", "labels", "told", "tie", "rows", "point", "late", "row", "x"] ["script"] (defScope (topS 25)) := ⟨rfl, rfl, rfl, by decide +kernel, rfl, by decide +kernel, by decide +kernel⟩
theorem c_law : chSs gls (tn.take 21) (tn.take 21).length ["script", "source", "lap", "filling", "h", "n", "triangles", "labels", "told", "tie", "rows", "point", "late", "row", "x"] x_law (defScope (topS 25)) (defBody (topS 25)).tail = true := by decide +kernel
end DT
-- INFO [('def', 1, 'ties_of_triangle', ['triangle'], 4, 1), ('def', 2, 'rim_of', ['h'], 2, 2), ('def', 3, 'tie_counts', ['triangles'], 4, 3), ('def', 4, 'rim_ties', ['filling'], 1, 4), ('def', 5, 'all_ties', ['filling'], 1, 5), ('def', 7, 'is_turn_door', ['labels', 'a', 'b'], 5, 6), ('def', 8, 'doors_of', ['filling', 'labels', 't'], 4, 7), ('def', 9, 'is_turned', ['filling', 'labels', 't'], 7, 8), ('def', 10, 'turn_triangles', ['filling', 'labels'], 3, 9), ('def', 11, 'opposite_ties', ['filling', 'labels'], 4, 10), ('def', 12, 'rim_doors', ['filling', 'labels'], 3, 11), ('def', 13, 'rim_walk', ['filling', 'labels', 'tie'], 10, 12), ('def', 14, 'turn_paper', ['filling', 'labels'], 7, 13), ('def', 18, '_law_rim', ['h'], 2, 14), ('def', 19, '_law_cone', ['h'], 3, 15), ('def', 20, '_law_ties', ['triangles'], 7, 16), ('def', 21, '_law_parted', ['filling', 't'], 11, 17), ('def', 22, '_law_flipped', ['filling', 'tie'], 12, 18), ('def', 23, '_law_draw', ['source', 'most'], 5, 19), ('def', 24, '_law_labels', ['source', 'filling', 'most'], 11, 20), ('law', 25, 'law', ['script'], 15, None)]

/-! What the defs give. -/
namespace DT
open PySem
theorem sp_ties_of_triangle : SpTies f_ties_of_triangle := ties_sp
theorem sp_rim_of : SpRimL f_rim_of := rim_sp
theorem sp_tie_counts : SpCounts f_tie_counts := counts_sp ⟨_, rfl, sp_ties_of_triangle⟩
theorem sp_rim_ties : SpRimT f_rim_ties := rimT_sp ⟨_, rfl, sp_rim_of⟩
theorem sp_all_ties : SpAll f_all_ties := all_sp ⟨_, rfl, sp_tie_counts⟩
theorem sp_is_turn_door : SpDoor f_is_turn_door := door_sp
theorem sp_doors_of : SpDoors f_doors_of := doors_sp ⟨_, rfl, sp_is_turn_door⟩ ⟨_, rfl, sp_ties_of_triangle⟩
theorem sp_is_turned : SpTurned f_is_turned := turned_sp
theorem sp_turn_triangles : SpTurns f_turn_triangles := turns_sp ⟨_, rfl, sp_is_turned⟩
theorem sp_opposite_ties : SpOpps f_opposite_ties := opps_sp ⟨_, rfl, sp_all_ties⟩
theorem sp_rim_doors : SpRimDoors f_rim_doors := rimdoors_sp ⟨_, rfl, sp_is_turn_door⟩ ⟨_, rfl, sp_rim_ties⟩
theorem sp_rim_walk : SpRW f_rim_walk := rw_sp ⟨_, rfl, sp_doors_of⟩ ⟨_, rfl, sp_ties_of_triangle⟩
theorem sp_turn_paper : SpPaper f_turn_paper := paper_sp ⟨_, rfl, sp_doors_of⟩ ⟨_, rfl, sp_rim_doors⟩ ⟨_, rfl, sp_rim_walk⟩ ⟨_, rfl, sp_ties_of_triangle⟩
theorem sp_law_rim : SpRimL f_law_rim := lrim_sp
theorem sp_law_cone : SpCone f_law_cone := cone_sp ⟨_, rfl, sp_law_rim⟩
theorem sp_law_ties : SpLTies f_law_ties := lties_sp
theorem sp_law_parted : SpParted f_law_parted := parted_sp
theorem sp_law_flipped : SpFlip f_law_flipped := flip_sp ⟨_, rfl, sp_law_rim⟩ ⟨_, rfl, sp_law_ties⟩
theorem sp_law_draw : SpDrawF f_law_draw := drawF_sp rfl ⟨_, rfl, sp_law_cone⟩ ⟨_, rfl, sp_law_flipped⟩ ⟨_, rfl, sp_law_parted⟩ ⟨_, rfl, sp_law_ties⟩
theorem sp_law_labels : SpLabs f_law_labels := labs_sp rfl
end DT

/-! k93: labels of the sizes 1 and 2. -/
namespace DT
open PySem
theorem eq_nilT {α : Type} {h : α → D} (hl : ∀ a, (h a).canLay0 = true) (hd : ∀ a, (h a).depth ≤ 60) (l : List α) : cmpO .eq (.tuple (l.map h)) (.tuple []) = some (decide (l = [])) := by
  have sh : SeqAt.shaped (.tuple (l.map h)) = true := by
    unfold SeqAt.shaped
    rw [PyData.canLay0, lay_all hl, Bool.true_and, PyData.depth]
    have := depth_map hd l
    exact decide_eq_true (by omega)
  show (if SeqAt.shaped (.tuple (l.map h)) && SeqAt.shaped (.tuple []) then some (PyData.eqv (.tuple (l.map h)) (.tuple [])) else none) = _
  have e : SeqAt.shaped (.tuple []) = true := by decide +kernel
  rw [sh, e, Bool.and_self, if_pos rfl, PyData.eqv]
  cases l with
  | nil => rfl
  | cons a l => rfl
theorem pts_of {w : Fil} {ls : List Int} {most : Nat} (ok : FilOk w) (L : LabOk w ls most) : PtsIn w.T ls.length := fun t ht => by
  obtain ⟨⟨a, b⟩, c⟩ := ok.asc t ht
  rw [L.len]
  omega
theorem lab_ok {w : Fil} {ls : List Int} {most : Nat} (L : LabOk w ls most) {k : Nat} (h : k < ls.length) : lab ls k ≠ 0 ∧ (lab ls k).natAbs ≤ most := L.bd _ (List.mem_of_getElem? (lab_at h))
theorem no_turn {w : Fil} {ls : List Int} (ok : FilOk w) (L : LabOk w ls 2) {t : Tri} (ht : t ∈ w.T) : trnL ls t = false := by
  obtain ⟨b1, b2, b3⟩ := pts_of ok L t ht
  have l1 := lab_ok L b1
  have l2 := lab_ok L b2
  have l3 := lab_ok L b3
  unfold trnL
  refine trn_same ?_
  rw [absI_nat, absI_nat, absI_nat]
  omega
theorem turns_nil {w : Fil} {ls : List Int} (ok : FilOk w) (L : LabOk w ls 2) : trnsF w ls = [] := List.filter_eq_nil_iff.mpr fun i hi => by
  have hi := List.mem_range.mp hi
  have : w.T.getD i (0, 0, 0) ∈ w.T := by
    rw [List.getD_eq_getElem?_getD, List.getElem?_eq_getElem hi]
    exact List.getElem_mem hi
  rw [no_turn ok L this]
  simp
theorem op_of {w : Fil} {ls : List Int} (ok : FilOk w) (L : LabOk w ls 2) {t : Tri} (ht : t ∈ w.T) (h1 : (doorsT ls t).length = 1) : ∃ q l, (tiesT t).filter (opp ls) = q :: l := by
  cases h : (tiesT t).filter (opp ls) with
  | cons q l => exact ⟨q, l, rfl⟩
  | nil =>
    obtain ⟨b1, b2, b3⟩ := pts_of ok L t ht
    have l1 := lab_ok L b1
    have l2 := lab_ok L b2
    have l3 := lab_ok L b3
    have op : ∀ e, e ∈ tiesT t → lab ls e.1 + lab ls e.2 ≠ 0 := fun e he z => by
      have := (List.filter_eq_nil_iff.mp h) e he
      exact this (decide_eq_true (by omega))
    have q := door_turn l1.1 l2.1 l3.1 (op _ (mem_tiesT.mpr (.inl rfl))) (op _ (mem_tiesT.mpr (.inr (.inl rfl)))) (op _ (mem_tiesT.mpr (.inr (.inr rfl))))
    have n := no_turn ok L ht
    unfold trnL at n
    rw [← doorsT_len, h1, n] at q
    cases q
theorem opps_ne {w : Fil} {ls : List Int} (ok : FilOk w) (L : LabOk w ls 2) : oppsF w ls ≠ [] := fun z => by
  have o := lone_odd ok L
  cases h : w.T.filter fun t => decide ((doorsT ls t).length = 1) with
  | nil =>
    rw [h] at o
    cases o
  | cons t l =>
    have m : t ∈ w.T.filter fun t => decide ((doorsT ls t).length = 1) := by
      rw [h]
      exact List.mem_cons_self
    obtain ⟨ht, h1⟩ := List.mem_filter.mp m
    obtain ⟨q, l', hq⟩ := op_of ok L ht (of_decide_eq_true h1)
    have qm : q ∈ (tiesT t).filter (opp ls) := by
      rw [hq]
      exact List.mem_cons_self
    obtain ⟨q1, q2⟩ := List.mem_filter.mp qm
    have : q ∈ oppsF w ls := List.mem_filter.mpr ⟨srt_mem.mpr (by unfold tksT; rw [dedK_mem]; exact List.mem_flatMap.mpr ⟨t, ht, q1⟩), q2⟩
    rw [z] at this
    cases this
theorem paper_opp {w : Fil} {ls : List Int} (ok : FilOk w) (L : LabOk w ls 2) : ∃ q, papF w ls = .tuple [.str "opposite", tieD q] := by
  obtain ⟨e, h1, h2, h3, h4⟩ := pap_some ok L
  obtain ⟨la, t, ht, hin⟩ := last_ok ok h2 h3
  have hp : inP w ls e = true := decide_eq_true h4
  rw [hp] at hin
  obtain ⟨q, l, hq⟩ := op_of ok L (List.mem_of_getElem? ht) (of_decide_eq_true hin)
  refine ⟨q, ?_⟩
  unfold papF
  rw [h1]
  show papT w ls (lastT ls w.T e) = _
  unfold papT
  rw [getD_tr ht, hq]
  rfl
/-! ### rows of labels with the same rim -/
structure RowOk (w : Fil) (ls r : List Int) (k : Nat) : Prop where
  len : r.length = 2 * w.h + k
  pre : r.take (2 * w.h) = ls.take (2 * w.h)
  bd : ∀ x, x ∈ r → x ≠ 0 ∧ x.natAbs ≤ 2
def four : List Int := [1, 2, -1, -2]
def ext4 (r : List Int) : List (List Int) := four.map fun x => r ++ [x]
theorem RowOk.ext {w : Fil} {ls r : List Int} {k : Nat} (h : RowOk w ls r k) {r' : List Int} (m : r' ∈ ext4 r) : RowOk w ls r' (k + 1) := by
  obtain ⟨x, hx, rfl⟩ := List.mem_map.mp m
  have hl := h.len
  refine ⟨by rw [List.length_append, List.length_singleton]; omega, ?_, fun y hy => ?_⟩
  · rw [List.take_append_of_le_length (by omega)]
    exact h.pre
  · rcases List.mem_append.mp hy with hy | hy
    · exact h.bd y hy
    · obtain rfl := List.mem_singleton.mp hy
      unfold four at hx
      simp at hx
      rcases hx with rfl | rfl | rfl | rfl <;> decide
theorem row_lab {w : Fil} {ls r : List Int} (ok : FilOk w) (L : LabOk w ls 2) (h : RowOk w ls r (w.n - 2 * w.h)) : LabOk w r 2 := by
  have hn := ok.hn
  have hl := h.len
  have e : ∀ k, k < 2 * w.h → r.getD k 0 = ls.getD k 0 := fun k hk => by
    have a : (r.take (2 * w.h))[k]? = (ls.take (2 * w.h))[k]? := by rw [h.pre]
    rw [List.getElem?_take_of_lt hk, List.getElem?_take_of_lt hk] at a
    rw [List.getD_eq_getElem?_getD, List.getD_eq_getElem?_getD, a]
  refine ⟨by omega, h.bd, fun k hk => ?_, fun x hx => ?_⟩
  · rw [e _ (by omega), e _ (by omega)]
    exact L.anti k hk
  · have h2 := ok.h2
    obtain ⟨b1, b2⟩ := rimL_lt (h := w.h) (by omega) hx
    rw [e _ (by omega), e _ (by omega)]
    exact L.rim x hx
theorem ext_len (l : List (List Int)) : (l.flatMap ext4).length = 4 * l.length := by
  induction l with
  | nil => rfl
  | cons a l ih =>
    rw [List.flatMap_cons, List.length_append, ih, List.length_cons]
    show 4 + _ = _
    omega
end DT

/-! The law of k93. -/
namespace DT
open PySem
abbrev dF (d : D) : Option Sl := some (.d false d)
theorem cutF_to {α : Type} (xs : List α) (k : Nat) : cutL xs none (some (k : Int)) = xs.take k := by
  unfold cutL
  rw [HT.sIx_nat, HT.sIx_none, List.drop_zero, Nat.sub_zero]
  by_cases h : k ≤ xs.length
  · rw [Nat.min_eq_left h]
  · rw [Nat.min_eq_right (by omega), List.take_of_length_le (Nat.le_refl _), List.take_of_length_le (by omega)]
theorem sl_toT {α : Type} (f : α → D) (xs : List α) (k : Nat) : slO (.tuple (xs.map f)) none (some (k : Int)) = some (.tuple ((xs.take k).map f)) := by
  show some (PyData.tuple (cutL (xs.map f) none (some (k : Int)))) = _
  rw [cutF_to, List.map_take]
abbrev RG (o2 o3 o4 o5 o6 o7 o8 o9 o10 o11 o12 o13 o14 : Option Sl) : Rho := [none, some .src, o2, o3, o4, o5, o6, o7, o8, o9, o10, o11, o12, o13, o14]
/-- rows one longer -/
theorem ext_loop {o2 o3 o4 o5 o6 o7 o8 o9 o11 : Option Sl} {f10 : Bool} {X : D} {g : PState} : ∀ (l : List (List Int)) (A : List (List Int)) (f12 : Bool) (o13 o14 : Option Sl), A.length + 4 * l.length ≤ 5000 → (∀ r, r ∈ l → r.length ≤ 1000) → ∃ f12' o13' o14', forL (fun ρ x => bnd (ofO (bindT (.n 13) x ρ)) fun ρ' => exs t21 w2_law ρ') (l.map tupI) (RG o2 o3 o4 o5 o6 o7 o8 o9 (some (.d f10 X)) o11 (some (.d f12 (.list (A.map tupI)))) o13 o14) g = some ((.nx, RG o2 o3 o4 o5 o6 o7 o8 o9 (some (.d f10 X)) o11 (some (.d f12' (.list ((A ++ l.flatMap ext4).map tupI)))) o13' o14'), g)
  | [], A, f12, o13, o14, _, _ => ⟨f12, o13, o14, by rw [List.flatMap_nil, List.append_nil]; rfl⟩
  | r :: l, A, f12, o13, o14, h, hr => by
    have hr1 := hr r List.mem_cons_self
    rw [List.length_cons] at h
    obtain ⟨f12', o13', o14', e⟩ := ext_loop (o2 := o2) (o3 := o3) (o4 := o4) (o5 := o5) (o6 := o6) (o7 := o7) (o8 := o8) (o9 := o9) (o11 := o11) (f10 := f10) (X := X) (g := g) l (A ++ ext4 r) true (dF (tupI r)) (frz1 o14) (by rw [List.length_append]; show _ + 4 + _ ≤ _; omega) fun x hx => hr x (List.mem_cons_of_mem _ hx)
    rw [List.append_assoc, ← List.flatMap_cons] at e
    refine ⟨f12', o13', o14', f_step (b_go (ρ1 := RG o2 o3 o4 o5 o6 o7 o8 o9 (some (.d f10 X)) o11 (some (.d f12 (.list (A.map tupI)))) (dF (tupI r)) o14) rfl (x_cons (g1 := g) (x_set (ρ1 := RG o2 o3 o4 o5 o6 o7 o8 o9 (some (.d f10 X)) o11 (some (.d true (.list ((A ++ ext4 r).map tupI)))) (dF (tupI r)) (frz1 o14)) (d := .list ((A ++ ext4 r).map tupI)) (e_bin (y := .list ((ext4 r).map tupI)) (e_v rfl) (ev_eq (e_mapV (l := four) (h := intD) (f := fun x => tupI (r ++ [x])) (e_cons (e_tup (e_cons e_k (e_cons e_k (e_cons (e_bin (d := .int (-1)) e_k e_k rfl) (e_cons (e_bin (d := .int (-2)) e_k e_k rfl) e_nil))))) e_nil) rfl fun x _ => e_bin (e_v rfl) (e_tup (e_cons (e_v rfl) e_nil)) ?_) ?_) ?_) rfl) x_nil)) e⟩
    · refine o_eq (catT (by rw [List.length_map]; unfold LINE; show _ + 1 ≤ _; omega)) ?_
      unfold tupI
      rw [List.map_append]
      rfl
    · unfold ext4
      rw [List.map_map]
      rfl
    · rw [catL (by rw [List.length_map, List.length_map]; unfold LINE; show _ + 4 ≤ _; omega), List.map_append]
/-- all points -/
theorem pts_loop {w : Fil} {ls : List Int} (hn : w.n ≤ 60) {o2 o3 o4 o5 o6 o7 o8 o9 : Option Sl} {g : PState} : ∀ (l : List Nat) (k : Nat) (rows : List (List Int)) (f10 : Bool) (o11 o12 o13 o14 : Option Sl), k + l.length ≤ 5 → 2 * w.h + k + l.length ≤ w.n → rows.length = 4 ^ k → (∀ r, r ∈ rows → RowOk w ls r k) → ∃ (rows' : List (List Int)) (f10' : Bool) (o11' o12' o13' o14' : Option Sl), forL (fun ρ x => bnd (ofO (bindT (.n 11) x ρ)) fun ρ' => exs t21 w3_law ρ') (l.map natD) (RG o2 o3 o4 o5 o6 o7 o8 o9 (some (.d f10 (.list (rows.map tupI)))) o11 o12 o13 o14) g = some ((.nx, RG o2 o3 o4 o5 o6 o7 o8 o9 (some (.d f10' (.list (rows'.map tupI)))) o11' o12' o13' o14'), g) ∧ ∀ r, r ∈ rows' → RowOk w ls r (k + l.length)
  | [], k, rows, f10, o11, o12, o13, o14, _, _, _, h => ⟨rows, f10, o11, o12, o13, o14, rfl, h⟩
  | a :: l, k, rows, f10, o11, o12, o13, o14, h1, h2, h3, h4 => by
    rw [List.length_cons] at h1 h2
    have p4 : 4 ^ k ≤ 256 := Nat.le_trans (Nat.pow_le_pow_right (by decide) (show k ≤ 4 by omega)) (by decide)
    obtain ⟨f12', o13', o14', e1⟩ := ext_loop (o2 := o2) (o3 := o3) (o4 := o4) (o5 := o5) (o6 := o6) (o7 := o7) (o8 := o8) (o9 := o9) (o11 := dF (natD a)) (f10 := false) (X := .list (rows.map tupI)) (g := g) rows [] true o13 o14 (by show 0 + _ ≤ _; omega) fun r hr => by
      have := (h4 r hr).len
      omega
    rw [List.nil_append] at e1
    obtain ⟨rows', f10', o11', o12', o13'', o14'', e2, h⟩ := pts_loop hn (ls := ls) (o2 := o2) (o3 := o3) (o4 := o4) (o5 := o5) (o6 := o6) (o7 := o7) (o8 := o8) (o9 := o9) (g := g) l (k + 1) (rows.flatMap ext4) true (dF (natD a)) (some (.d f12' (.list ((rows.flatMap ext4).map tupI)))) o13' o14' (by omega) (by omega) (by rw [ext_len, h3, Nat.pow_succ]; omega) fun r hr => by
      obtain ⟨q, hq, m⟩ := List.mem_flatMap.mp hr
      exact (h4 q hq).ext m
    refine ⟨rows', f10', o11', o12', o13'', o14'', f_step (b_go (ρ1 := RG o2 o3 o4 o5 o6 o7 o8 o9 (some (.d f10 (.list (rows.map tupI)))) (dF (natD a)) o12 o13 o14) rfl (x_cons (g1 := g) (x_set (ρ1 := RG o2 o3 o4 o5 o6 o7 o8 o9 (some (.d f10 (.list (rows.map tupI)))) (dF (natD a)) (some (.d true (.list (([] : List (List Int)).map tupI)))) o13 o14) (e_lst e_nil) rfl) (x_cons (g1 := g) (x_for (e_cons (e_v rfl) e_nil) rfl e1) (x_cons (g1 := g) (x_set (ρ1 := RG o2 o3 o4 o5 o6 o7 o8 o9 (some (.d true (.list ((rows.flatMap ext4).map tupI)))) (dF (natD a)) (some (.d f12' (.list ((rows.flatMap ext4).map tupI)))) o13' o14') (e_blt (e_cons (e_v rfl) e_nil) rfl) rfl) x_nil)))) e2, fun r hr => ?_⟩
    have := h r hr
    rw [show k + 1 + l.length = k + (l.length + 1) by omega] at this
    exact this
/-- all rows -/
theorem rows_loop {w : Fil} {ls : List Int} (ok : FilOk w) (hT : w.T.length ≤ 1000) (L : LabOk w ls 2) {f3 f10 : Bool} {X : D} {o2 o4 o5 o6 o7 o8 o9 o11 o12 o14 : Option Sl} {g : PState} : ∀ (l : List (List Int)) (o13 : Option Sl), (∀ r, r ∈ l → RowOk w ls r (w.n - 2 * w.h)) → ∃ o13', forL (fun ρ x => bnd (ofO (bindT (.n 13) x ρ)) fun ρ' => exs t21 w1_law ρ') (l.map tupI) (RG o2 (some (.d f3 (filD w))) o4 o5 o6 o7 o8 o9 (some (.d f10 X)) o11 o12 o13 o14) g = some ((.nx, RG o2 (some (.d f3 (filD w))) o4 o5 o6 o7 o8 o9 (some (.d f10 X)) o11 o12 o13' o14), g)
  | [], o13, _ => ⟨o13, rfl⟩
  | r :: l, o13, h => by
    obtain ⟨o13', e⟩ := rows_loop ok hT L (f3 := f3) (f10 := f10) (X := X) (o2 := o2) (o4 := o4) (o5 := o5) (o6 := o6) (o7 := o7) (o8 := o8) (o9 := o9) (o11 := o11) (o12 := o12) (o14 := o14) (g := g) l (dF (tupI r)) fun x hx => h x (List.mem_cons_of_mem _ hx)
    have Lr := row_lab ok L (h r List.mem_cons_self)
    have P := pts_of ok Lr
    have a1 := opps_ne ok Lr
    have a2 := turns_nil ok Lr
    refine ⟨o13', f_step (b_go rfl (x_no (ev_eq (e_or (o_cons (i := decide (oppsF w r = [])) (j := !decide (trnsF w r = [])) (e_cmp (e_call (r_ex (e_v rfl) (r_ex (e_v rfl) r_nil)) rfl (sp_opposite_ties w r hT P g)) (e_tup e_nil) (eq_nilT (h := tieD) (fun _ => rfl) (fun _ => (by decide : 1 ≤ 60)) _)) fun _ => o_one (e_cmp (e_call (r_ex (e_v rfl) (r_ex (e_v rfl) r_nil)) rfl (sp_turn_triangles w r hT P g)) (e_tup e_nil) (congrArg (Option.map not) (eq_nilT (h := natD) (fun _ => rfl) (fun _ => Nat.zero_le _) _))))) ?_) x_nil)) e⟩
    rw [decide_eq_false a1, decide_eq_true a2]
    rfl
set_option maxHeartbeats 4000000 in
theorem lap_step (lap : Nat) (hlap : lap < 5) (g : PState) (o2 o3 o4 o5 o6 o7 o8 o9 o10 o11 o12 o13 o14 : Option Sl) :
    ∃ ρ' g', (bnd (ofO (bindT (.n 2) (natD lap) (RG o2 o3 o4 o5 o6 o7 o8 o9 o10 o11 o12 o13 o14))) fun ρ' => exs t21 w4_law ρ') g = some ((.nx, ρ'), g') ∧ ∃ o2 o3 o4 o5 o6 o7 o8 o9 o10 o11 o12 o13 o14, ρ' = RG o2 o3 o4 o5 o6 o7 o8 o9 o10 o11 o12 o13 o14 := by
  have hs : ∃ m, m ≤ 40 ∧ ixO (.list [natD 0, natD 3, natD 8, natD 16, natD 24]) (natD lap) = some (natD m) := by
    have : lap = 0 ∨ lap = 1 ∨ lap = 2 ∨ lap = 3 ∨ lap = 4 := by omega
    rcases this with rfl | rfl | rfl | rfl | rfl
    · exact ⟨0, by decide, rfl⟩
    · exact ⟨3, by decide, rfl⟩
    · exact ⟨8, by decide, rfl⟩
    · exact ⟨16, by decide, rfl⟩
    · exact ⟨24, by decide, rfl⟩
  obtain ⟨m, hm, x1⟩ := hs
  obtain ⟨w, g1, e1, ok, bd0⟩ := sp_law_draw m hm g
  have bd := bd0.mono hm
  obtain ⟨ls, g2, e2, L⟩ := sp_law_labels w 2 ok bd (by decide) (by decide) g1
  have bT := bd.T
  have bn := bd.n
  have bh := bd.h
  have h2 := ok.h2
  have hn := ok.hn
  have ln := L.len
  have P := pts_of ok L
  have a1 := opps_ne ok L
  have a2 := turns_nil ok L
  obtain ⟨q, hq⟩ := paper_opp ok L
  let R := fun (a3 a4 a5 a6 a7 a8 a9 a10 a11 a12 a13 a14 : Option Sl) => RG (dF (natD lap)) a3 a4 a5 a6 a7 a8 a9 a10 a11 a12 a13 a14
  let T : D := .tuple (w.T.map triD)
  let O : D := .tuple ((oppsF w ls).map tieD)
  have bad : ev t21 (.cmp (.comp (.v 9) (.n 9) .seq (.cons (.v 8) .nil) (.cons (.or (.cons (.cmp (.bin .add (.ix (.v 7) (.ix (.v 9) (.k (.int 0)))) (.ix (.v 7) (.ix (.v 9) (.k (.int 1))))) (.cons .ne (.k (.int 0)) .nil)) (.cons (.cmp (.v 9) (.cons .mem (.call 14 (.ex (.v 4) .nil)) .nil)) .nil))) .nil)) (.cons .ne (.lst .nil) .nil)) (R (dF (filD w)) (dF (natD w.h)) (dF (natD w.n)) (dF T) (dF (tupI ls)) (dF O) o9 o10 o11 o12 o13 o14) g2 = some (.bool false, g2) := by
    have em : ((oppsF w ls).filter fun e => !decide (lab ls e.1 + lab ls e.2 = 0) || decide (e ∈ rimS w.h)) = [] := List.filter_eq_nil_iff.mpr fun e he => by
      have o := of_decide_eq_true (List.mem_filter.mp he).2
      have nr : e ∉ rimS w.h := fun m => L.rim e (srt_mem.mp m) (by
        show lab ls e.1 + lab ls e.2 = 0
        omega)
      rw [decide_eq_true (by omega), decide_eq_false nr]
      simp
    refine ev_eq (e_cmp (e_filV (l := oppsF w ls) (h := tieD) (f := tieD) (p := fun e => !decide (lab ls e.1 + lab ls e.2 = 0) || decide (e ∈ rimS w.h)) (e_cons (e_v rfl) e_nil) rfl (fun e he => ?_) fun e _ _ => e_v rfl) (e_lst e_nil) (ne_tieL _)) ?_
    · obtain ⟨b1, b2⟩ := tks_in P (List.mem_filter.mp he).1
      exact e_or (o_cons (e_cmp (e_bin (d := .int (lab ls e.1 + lab ls e.2)) (e_ix (e_v rfl) (e_ix (e_v rfl) e_k rfl) (ix_lab b1)) (e_ix (e_v rfl) (e_ix (e_v rfl) e_k rfl) (ix_lab b2)) rfl) e_k (c_ne_int _ 0)) fun _ => o_one (e_cmp (e_v rfl) (e_call (r_ex (e_v rfl) r_nil) rfl (sp_law_rim w.h (by omega) (by omega) g2)) (mem_tieL e (rimS w.h))))
    · rw [em]
      rfl
  have hd : ∀ (k : List Sx) , True := fun _ => trivial
  have tail : ∃ ρ', exs t21 (.cons (.iff (.cmp (.bin .sub (.v 5) (.bin .mul (.k (.int 2)) (.v 4))) (.cons .lt (.k (.int 5)) .nil)) (.cons (.set 10 (.lst (.cons (.sl (.v 7) .abs (.bin .mul (.k (.int 2)) (.v 4))) .nil))) (.cons (.for (.n 11) .rng2 (.cons (.bin .mul (.k (.int 2)) (.v 4)) (.cons (.v 5) .nil)) w3_law) (.cons (.for (.n 13) .seq (.cons (.v 10) .nil) w1_law) .nil))) .nil) .nil) (R (dF (filD w)) (dF (natD w.h)) (dF (natD w.n)) (dF T) (dF (tupI ls)) (dF O) o9 o10 o11 o12 o13 o14) g2 = some ((.nx, ρ'), g2) ∧ ∃ o2 o3 o4 o5 o6 o7 o8 o9 o10 o11 o12 o13 o14, ρ' = RG o2 o3 o4 o5 o6 o7 o8 o9 o10 o11 o12 o13 o14 := by
    have t0 : ev t21 (.cmp (.bin .sub (.v 5) (.bin .mul (.k (.int 2)) (.v 4))) (.cons .lt (.k (.int 5)) .nil)) (R (dF (filD w)) (dF (natD w.h)) (dF (natD w.n)) (dF T) (dF (tupI ls)) (dF O) o9 o10 o11 o12 o13 o14) g2 = some (.bool (decide (w.n - 2 * w.h < 5)), g2) := e_cmp (x := natD (w.n - 2 * w.h)) (y := natD 5) (e_bin (e_v rfl) (e_bin (x := natD 2) e_k (e_v rfl) (mulN (by decide))) (subN hn)) e_k (c_lt_nat _ 5)
    by_cases c : w.n - 2 * w.h < 5
    · rw [decide_eq_true c] at t0
      obtain ⟨rows', f10', o11', o12', o13', o14', e3, hr⟩ := pts_loop (w := w) (ls := ls) (by omega) (o2 := dF (natD lap)) (o3 := dF (filD w)) (o4 := dF (natD w.h)) (o5 := dF (natD w.n)) (o6 := dF T) (o7 := dF (tupI ls)) (o8 := dF O) (o9 := o9) (g := g2) ((List.range (w.n - 2 * w.h)).map (2 * w.h + ·)) 0 [ls.take (2 * w.h)] true o11 o12 o13 o14 (by rw [List.length_map, List.length_range]; omega) (by rw [List.length_map, List.length_range]; omega) rfl (fun r hr => by
        obtain rfl := List.mem_singleton.mp hr
        refine ⟨by rw [List.length_take]; omega, by rw [List.take_take, Nat.min_self], fun x hx => L.bd x (List.mem_of_mem_take hx)⟩)
      rw [List.length_map, List.length_range, Nat.zero_add] at hr
      obtain ⟨o13'', e4⟩ := rows_loop ok (by omega) L (f3 := false) (f10 := false) (X := .list (rows'.map tupI)) (o2 := dF (natD lap)) (o4 := dF (natD w.h)) (o5 := dF (natD w.n)) (o6 := dF T) (o7 := dF (tupI ls)) (o8 := dF O) (o9 := o9) (o11 := o11') (o12 := o12') (o14 := o14') (g := g2) rows' o13' hr
      refine ⟨_, x_cons (x_iffT t0 (x_cons (g1 := g2) (x_set (ρ1 := R (dF (filD w)) (dF (natD w.h)) (dF (natD w.n)) (dF T) (dF (tupI ls)) (dF O) o9 (some (.d true (.list ([ls.take (2 * w.h)].map tupI)))) o11 o12 o13 o14) (e_lst (e_cons (e_sl (e_v rfl) p_abs (p_int (by intro z; cases z) (e_bin (x := natD 2) e_k (e_v rfl) (mulN (by decide)))) (sl_toT intD ls (2 * w.h))) e_nil)) rfl) (x_cons (g1 := g2) (x_for (e_cons (e_bin (x := natD 2) e_k (e_v rfl) (mulN (by decide))) (e_cons (e_v rfl) e_nil)) (o_eq (it_rng2 (by unfold LINE; omega) (by unfold LINE; omega)) (by rw [List.map_map]; rfl)) e3) (x_cons (g1 := g2) (x_for (e_cons (e_v rfl) e_nil) rfl e4) x_nil)))) x_nil, ⟨_, _, _, _, _, _, _, _, _, _, _, _, _, rfl⟩⟩
    · rw [decide_eq_false c] at t0
      exact ⟨_, x_no t0 x_nil, ⟨_, _, _, _, _, _, _, _, _, _, _, _, _, rfl⟩⟩
  obtain ⟨ρ', et, hρ⟩ := tail
  refine ⟨ρ', g2, b_go (ρ1 := R o3 o4 o5 o6 o7 o8 o9 o10 o11 o12 o13 o14) rfl (x_cons (g1 := g1) (x_set (ρ1 := R (dF (filD w)) o4 o5 o6 o7 o8 o9 o10 o11 o12 o13 o14) (e_call (r_src rfl (r_ex (e_ix (e_lst (e_cons e_k (e_cons e_k (e_cons e_k (e_cons e_k (e_cons e_k e_nil)))))) (e_v rfl) x1) r_nil)) rfl e1) rfl) ?_), hρ⟩
  refine x_cons (g1 := g1) (x_unp (ρ1 := R (dF (filD w)) (dF (natD w.h)) (dF (natD w.n)) (dF T) o7 o8 o9 o10 o11 o12 o13 o14) (e_v (d := filD w) rfl) rfl) ?_
  refine x_cons (g1 := g2) (x_set (ρ1 := R (dF (filD w)) (dF (natD w.h)) (dF (natD w.n)) (dF T) (dF (tupI ls)) o8 o9 o10 o11 o12 o13 o14) (e_call (r_src rfl (r_ex (e_v rfl) (r_ex e_k r_nil))) rfl e2) rfl) ?_
  refine x_cons (g1 := g2) (x_set (ρ1 := R (dF (filD w)) (dF (natD w.h)) (dF (natD w.n)) (dF T) (dF (tupI ls)) (dF O) o9 o10 o11 o12 o13 o14) (e_call (r_ex (e_v rfl) (r_ex (e_v rfl) r_nil)) rfl (sp_opposite_ties w ls (by omega) P g2)) rfl) ?_
  refine x_no (g1 := g2) (ev_eq (e_or (o_cons (i := decide (oppsF w ls = [])) (j := !decide (trnsF w ls = [])) (e_cmp (e_v rfl) (e_tup e_nil) (eq_nilT (h := tieD) (fun _ => rfl) (fun _ => (by decide : 1 ≤ 60)) _)) fun _ => o_one (e_cmp (e_call (r_ex (e_v rfl) (r_ex (e_v rfl) r_nil)) rfl (sp_turn_triangles w ls (by omega) P g2)) (e_tup e_nil) (congrArg (Option.map not) (eq_nilT (h := natD) (fun _ => rfl) (fun _ => Nat.zero_le _) _))))) ?_) ?_
  · rw [decide_eq_false a1, decide_eq_true a2]
    rfl
  refine x_no (g1 := g2) bad ?_
  refine x_no (g1 := g2) (e_cmp (x := .str "opposite") (y := .str "opposite") (e_ix (e_call (r_ex (e_v rfl) (r_ex (e_v rfl) r_nil)) rfl (by have z := sp_turn_paper w ls 2 ok L (by omega) (by omega) g2; rw [hq] at z; exact z)) e_k rfl) e_k ?_) et
  show Option.map not (some (decide (("opposite" : Str) = "opposite"))) = _
  rw [decide_eq_true rfl]
  rfl
theorem law_holds : ∀ ns : List Int, ns.length ≤ 63 → ∃ ρ' g', exs t21 x_law (lawR 15) (openG ns) = some ((.rt (.bool true), ρ'), g') := fun ns _ => by
  obtain ⟨ρ', g', e, _⟩ := for_inv (f := fun ρ x => bnd (ofO (bindT (.n 2) x ρ)) fun ρ' => exs t21 w4_law ρ') (P := fun l ρ _ => (∃ o2 o3 o4 o5 o6 o7 o8 o9 o10 o11 o12 o13 o14, ρ = RG o2 o3 o4 o5 o6 o7 o8 o9 o10 o11 o12 o13 o14) ∧ ∀ x, x ∈ l → ∃ i, i < 5 ∧ x = natD i) ((List.range 5).map natD) (RG none none none none none none none none none none none none none) (openG ns) ⟨⟨_, _, _, _, _, _, _, _, _, _, _, _, _, rfl⟩, fun x hx => by
    obtain ⟨i, hi, rfl⟩ := List.mem_map.mp hx
    exact ⟨i, List.mem_range.mp hi, rfl⟩⟩ (by
    rintro x l ρ g - ⟨⟨o2, o3, o4, o5, o6, o7, o8, o9, o10, o11, o12, o13, o14, rfl⟩, h⟩
    obtain ⟨i, hi, rfl⟩ := h x List.mem_cons_self
    obtain ⟨ρ', g', e, q⟩ := lap_step i hi g o2 o3 o4 o5 o6 o7 o8 o9 o10 o11 o12 o13 o14
    exact ⟨ρ', g', e, q, fun y hy => h y (List.mem_cons_of_mem _ hy)⟩)
  exact ⟨ρ', g', x_cons (x_for (e_cons e_k e_nil) (it_rng (n := 5) (by decide)) e) (x_stop (x_retE e_k))⟩
end DT

/-! The law's end. -/
namespace DT
open PySem PySem.Spec PyProof.Rows L2
def d_ties_of_triangle : He.DefD := ⟨("ties_of_triangle", none), "ties_of_triangle", "ties_of_triangle", defArgs (topS 1), defBody (topS 1), defScope (topS 1), [], []⟩
def d_rim_of : He.DefD := ⟨("rim_of", none), "rim_of", "rim_of", defArgs (topS 2), defBody (topS 2), defScope (topS 2), [], []⟩
def d_tie_counts : He.DefD := ⟨("tie_counts", none), "tie_counts", "tie_counts", defArgs (topS 3), defBody (topS 3), defScope (topS 3), [], []⟩
def d_rim_ties : He.DefD := ⟨("rim_ties", none), "rim_ties", "rim_ties", defArgs (topS 4), defBody (topS 4), defScope (topS 4), [], []⟩
def d_all_ties : He.DefD := ⟨("all_ties", none), "all_ties", "all_ties", defArgs (topS 5), defBody (topS 5), defScope (topS 5), [], []⟩
def d_is_turn_door : He.DefD := ⟨("is_turn_door", none), "is_turn_door", "is_turn_door", defArgs (topS 7), defBody (topS 7), defScope (topS 7), [], []⟩
def d_doors_of : He.DefD := ⟨("doors_of", none), "doors_of", "doors_of", defArgs (topS 8), defBody (topS 8), defScope (topS 8), [], []⟩
def d_is_turned : He.DefD := ⟨("is_turned", none), "is_turned", "is_turned", defArgs (topS 9), defBody (topS 9), defScope (topS 9), [], []⟩
def d_turn_triangles : He.DefD := ⟨("turn_triangles", none), "turn_triangles", "turn_triangles", defArgs (topS 10), defBody (topS 10), defScope (topS 10), [], []⟩
def d_opposite_ties : He.DefD := ⟨("opposite_ties", none), "opposite_ties", "opposite_ties", defArgs (topS 11), defBody (topS 11), defScope (topS 11), [], []⟩
def d_rim_doors : He.DefD := ⟨("rim_doors", none), "rim_doors", "rim_doors", defArgs (topS 12), defBody (topS 12), defScope (topS 12), [], []⟩
def d_rim_walk : He.DefD := ⟨("rim_walk", none), "rim_walk", "rim_walk", defArgs (topS 13), defBody (topS 13), defScope (topS 13), [], []⟩
def d_turn_paper : He.DefD := ⟨("turn_paper", none), "turn_paper", "turn_paper", defArgs (topS 14), defBody (topS 14), defScope (topS 14), [], []⟩
def d_law_open_cells : He.DefD := ⟨("_law_open_cells", none), "_law_open_cells", "_law_open_cells", defArgs (topS 16), defBody (topS 16), defScope (topS 16), [], []⟩
def d_law_pick : He.DefD := ⟨("_law_pick", none), "_law_pick", "_law_pick", defArgs (topS 17), defBody (topS 17), defScope (topS 17), [], []⟩
def d_law_rim : He.DefD := ⟨("_law_rim", none), "_law_rim", "_law_rim", defArgs (topS 18), defBody (topS 18), defScope (topS 18), [], []⟩
def d_law_cone : He.DefD := ⟨("_law_cone", none), "_law_cone", "_law_cone", defArgs (topS 19), defBody (topS 19), defScope (topS 19), [], []⟩
def d_law_ties : He.DefD := ⟨("_law_ties", none), "_law_ties", "_law_ties", defArgs (topS 20), defBody (topS 20), defScope (topS 20), [], []⟩
def d_law_parted : He.DefD := ⟨("_law_parted", none), "_law_parted", "_law_parted", defArgs (topS 21), defBody (topS 21), defScope (topS 21), [], []⟩
def d_law_flipped : He.DefD := ⟨("_law_flipped", none), "_law_flipped", "_law_flipped", defArgs (topS 22), defBody (topS 22), defScope (topS 22), [], []⟩
def d_law_draw : He.DefD := ⟨("_law_draw", none), "_law_draw", "_law_draw", defArgs (topS 23), defBody (topS 23), defScope (topS 23), [], []⟩
def d_law_labels : He.DefD := ⟨("_law_labels", none), "_law_labels", "_law_labels", defArgs (topS 24), defBody (topS 24), defScope (topS 24), [], []⟩
def d_law : He.DefD := ⟨("law", none), "law", "law", defArgs (topS 25), defBody (topS 25), defScope (topS 25), [], []⟩
def fnL : List He.DefD := [d_ties_of_triangle, d_rim_of, d_tie_counts, d_rim_ties, d_all_ties, d_is_turn_door, d_doors_of, d_is_turned, d_turn_triangles, d_opposite_ties, d_rim_doors, d_rim_walk, d_turn_paper, d_law_open_cells, d_law_pick, d_law_rim, d_law_cone, d_law_ties, d_law_parted, d_law_flipped, d_law_draw, d_law_labels, d_law]
def faL : List He.Fa := ([.glo "ties_of_triangle", .glo "rim_of", .glo "tie_counts", .glo "rim_ties", .glo "all_ties", .glo "is_turn_door", .glo "doors_of", .glo "is_turned", .glo "turn_triangles", .glo "opposite_ties", .glo "rim_doors", .glo "rim_walk", .glo "turn_paper", .glo "_law_open_cells", .glo "_law_pick", .glo "_law_rim", .glo "_law_cone", .glo "_law_ties", .glo "_law_parted", .glo "_law_flipped", .glo "_law_draw", .glo "_law_labels", .glo "law"] : List He.Fa) ++ (bltNames.map He.Fa.free ++ gls.map fun p => He.Fa.int p.1 p.2)
def namesL : List PySem.Str := (["ties_of_triangle", "rim_of", "tie_counts", "rim_ties", "all_ties", "is_turn_door", "doors_of", "is_turned", "turn_triangles", "opposite_ties", "rim_doors", "rim_walk", "turn_paper", "_law_open_cells", "_law_pick", "_law_rim", "_law_cone", "_law_ties", "_law_parted", "_law_flipped", "_law_draw", "_law_labels"] : List PySem.Str)
abbrev RR : PySem.W.OpenRow := PySem.W.OpenLaw.row PySem.Challenge.rw_cornersled_k93_whole_two_sizes
abbrev hk : PySem.W.Hook := He.hookD 4 faL fnL
def ob (s : PySem.W.SharedT) : He.AlD := He.obsDG 4 faL fnL (HandSHeadRun.getT s)
theorem ob_eq (s : PySem.W.SharedT) : ob s = hk.obs s.abs := He.obsDG_eq (HandSHeadRun.getT_eq s)
theorem run (w : World) : HandSHeadRun.RunEq RR (PySem.W.view RR.prog [25]) hk ob 4000 namesL w := by
  intro os
  kernel_rfl
theorem blt_in : ∀ x, x ∈ bltNames → He.Fa.free x ∈ faL := fun x hx => List.mem_append_right _ (List.mem_append_left _ (List.mem_map.mpr ⟨x, hx, rfl⟩))
set_option maxHeartbeats 8000000 in
theorem factsL {P : Program} {w : World} {K : PySem.W.Frag} {h : Heap} {mg : Str → Option Value} {f : Addr} (X : K.In h) (G : h.Ns mainGlobals mg) (hfa : mg ("law" : Str) = some (.ref f)) (c : He.SaysD faL fnL K) :
    ∃ fd : FuncData, (∀ (s : Shared) (v : Value), BindsTo s fd ⟨[v], []⟩ [("script", v)]) ∧ ∀ base : Heap, K.In base → base.Ns mainGlobals mg → FnG P w K mg base 22 f fd ["script"] (spLawG K) := by
  have mb : ∀ x, x ∈ bltNames → mg x = none := fun x hx => He.free_ok X G (c.facts (blt_in x hx))
  have gl : ∀ x i, (x, i) ∈ gls → ∃ t, mg x = some (.int i t) := fun x i hx => by cases hx
  obtain ⟨e_ties_of_triangle, F_ties_of_triangle⟩ := c.def_ 0 (d := d_ties_of_triangle) rfl
  have g_ties_of_triangle := He.glo_ok X G (c.fact 0 (f := .glo "ties_of_triangle") rfl)
  have b_ties_of_triangle : Binds K e_ties_of_triangle ["triangle"] [] := F_ties_of_triangle.bindsN fun _ _ _ _ _ _ us hl => match us, hl with | [_], _ => rfl
  obtain ⟨e_rim_of, F_rim_of⟩ := c.def_ 1 (d := d_rim_of) rfl
  have g_rim_of := He.glo_ok X G (c.fact 1 (f := .glo "rim_of") rfl)
  have b_rim_of : Binds K e_rim_of ["h"] [] := F_rim_of.bindsN fun _ _ _ _ _ _ us hl => match us, hl with | [_], _ => rfl
  obtain ⟨e_tie_counts, F_tie_counts⟩ := c.def_ 2 (d := d_tie_counts) rfl
  have g_tie_counts := He.glo_ok X G (c.fact 2 (f := .glo "tie_counts") rfl)
  have b_tie_counts : Binds K e_tie_counts ["triangles"] [] := F_tie_counts.bindsN fun _ _ _ _ _ _ us hl => match us, hl with | [_], _ => rfl
  obtain ⟨e_rim_ties, F_rim_ties⟩ := c.def_ 3 (d := d_rim_ties) rfl
  have g_rim_ties := He.glo_ok X G (c.fact 3 (f := .glo "rim_ties") rfl)
  have b_rim_ties : Binds K e_rim_ties ["filling"] [] := F_rim_ties.bindsN fun _ _ _ _ _ _ us hl => match us, hl with | [_], _ => rfl
  obtain ⟨e_all_ties, F_all_ties⟩ := c.def_ 4 (d := d_all_ties) rfl
  have g_all_ties := He.glo_ok X G (c.fact 4 (f := .glo "all_ties") rfl)
  have b_all_ties : Binds K e_all_ties ["filling"] [] := F_all_ties.bindsN fun _ _ _ _ _ _ us hl => match us, hl with | [_], _ => rfl
  obtain ⟨e_is_turn_door, F_is_turn_door⟩ := c.def_ 5 (d := d_is_turn_door) rfl
  have g_is_turn_door := He.glo_ok X G (c.fact 5 (f := .glo "is_turn_door") rfl)
  have b_is_turn_door : Binds K e_is_turn_door ["labels", "a", "b"] [] := F_is_turn_door.bindsN fun _ _ _ _ _ _ us hl => match us, hl with | [_, _, _], _ => rfl
  obtain ⟨e_doors_of, F_doors_of⟩ := c.def_ 6 (d := d_doors_of) rfl
  have g_doors_of := He.glo_ok X G (c.fact 6 (f := .glo "doors_of") rfl)
  have b_doors_of : Binds K e_doors_of ["filling", "labels", "t"] [] := F_doors_of.bindsN fun _ _ _ _ _ _ us hl => match us, hl with | [_, _, _], _ => rfl
  obtain ⟨e_is_turned, F_is_turned⟩ := c.def_ 7 (d := d_is_turned) rfl
  have g_is_turned := He.glo_ok X G (c.fact 7 (f := .glo "is_turned") rfl)
  have b_is_turned : Binds K e_is_turned ["filling", "labels", "t"] [] := F_is_turned.bindsN fun _ _ _ _ _ _ us hl => match us, hl with | [_, _, _], _ => rfl
  obtain ⟨e_turn_triangles, F_turn_triangles⟩ := c.def_ 8 (d := d_turn_triangles) rfl
  have g_turn_triangles := He.glo_ok X G (c.fact 8 (f := .glo "turn_triangles") rfl)
  have b_turn_triangles : Binds K e_turn_triangles ["filling", "labels"] [] := F_turn_triangles.bindsN fun _ _ _ _ _ _ us hl => match us, hl with | [_, _], _ => rfl
  obtain ⟨e_opposite_ties, F_opposite_ties⟩ := c.def_ 9 (d := d_opposite_ties) rfl
  have g_opposite_ties := He.glo_ok X G (c.fact 9 (f := .glo "opposite_ties") rfl)
  have b_opposite_ties : Binds K e_opposite_ties ["filling", "labels"] [] := F_opposite_ties.bindsN fun _ _ _ _ _ _ us hl => match us, hl with | [_, _], _ => rfl
  obtain ⟨e_rim_doors, F_rim_doors⟩ := c.def_ 10 (d := d_rim_doors) rfl
  have g_rim_doors := He.glo_ok X G (c.fact 10 (f := .glo "rim_doors") rfl)
  have b_rim_doors : Binds K e_rim_doors ["filling", "labels"] [] := F_rim_doors.bindsN fun _ _ _ _ _ _ us hl => match us, hl with | [_, _], _ => rfl
  obtain ⟨e_rim_walk, F_rim_walk⟩ := c.def_ 11 (d := d_rim_walk) rfl
  have g_rim_walk := He.glo_ok X G (c.fact 11 (f := .glo "rim_walk") rfl)
  have b_rim_walk : Binds K e_rim_walk ["filling", "labels", "tie"] [] := F_rim_walk.bindsN fun _ _ _ _ _ _ us hl => match us, hl with | [_, _, _], _ => rfl
  obtain ⟨e_turn_paper, F_turn_paper⟩ := c.def_ 12 (d := d_turn_paper) rfl
  have g_turn_paper := He.glo_ok X G (c.fact 12 (f := .glo "turn_paper") rfl)
  have b_turn_paper : Binds K e_turn_paper ["filling", "labels"] [] := F_turn_paper.bindsN fun _ _ _ _ _ _ us hl => match us, hl with | [_, _], _ => rfl
  obtain ⟨e_law_open_cells, F_law_open_cells⟩ := c.def_ 13 (d := d_law_open_cells) rfl
  have g_law_open_cells := He.glo_ok X G (c.fact 13 (f := .glo "_law_open_cells") rfl)
  have b_law_open_cells : Binds K e_law_open_cells ["script"] [] := F_law_open_cells.bindsN fun _ _ _ _ _ _ us hl => match us, hl with | [_], _ => rfl
  obtain ⟨e_law_pick, F_law_pick⟩ := c.def_ 14 (d := d_law_pick) rfl
  have g_law_pick := He.glo_ok X G (c.fact 14 (f := .glo "_law_pick") rfl)
  have b_law_pick : Binds K e_law_pick ["source", "most"] [] := F_law_pick.bindsN fun _ _ _ _ _ _ us hl => match us, hl with | [_, _], _ => rfl
  obtain ⟨e_law_rim, F_law_rim⟩ := c.def_ 15 (d := d_law_rim) rfl
  have g_law_rim := He.glo_ok X G (c.fact 15 (f := .glo "_law_rim") rfl)
  have b_law_rim : Binds K e_law_rim ["h"] [] := F_law_rim.bindsN fun _ _ _ _ _ _ us hl => match us, hl with | [_], _ => rfl
  obtain ⟨e_law_cone, F_law_cone⟩ := c.def_ 16 (d := d_law_cone) rfl
  have g_law_cone := He.glo_ok X G (c.fact 16 (f := .glo "_law_cone") rfl)
  have b_law_cone : Binds K e_law_cone ["h"] [] := F_law_cone.bindsN fun _ _ _ _ _ _ us hl => match us, hl with | [_], _ => rfl
  obtain ⟨e_law_ties, F_law_ties⟩ := c.def_ 17 (d := d_law_ties) rfl
  have g_law_ties := He.glo_ok X G (c.fact 17 (f := .glo "_law_ties") rfl)
  have b_law_ties : Binds K e_law_ties ["triangles"] [] := F_law_ties.bindsN fun _ _ _ _ _ _ us hl => match us, hl with | [_], _ => rfl
  obtain ⟨e_law_parted, F_law_parted⟩ := c.def_ 18 (d := d_law_parted) rfl
  have g_law_parted := He.glo_ok X G (c.fact 18 (f := .glo "_law_parted") rfl)
  have b_law_parted : Binds K e_law_parted ["filling", "t"] [] := F_law_parted.bindsN fun _ _ _ _ _ _ us hl => match us, hl with | [_, _], _ => rfl
  obtain ⟨e_law_flipped, F_law_flipped⟩ := c.def_ 19 (d := d_law_flipped) rfl
  have g_law_flipped := He.glo_ok X G (c.fact 19 (f := .glo "_law_flipped") rfl)
  have b_law_flipped : Binds K e_law_flipped ["filling", "tie"] [] := F_law_flipped.bindsN fun _ _ _ _ _ _ us hl => match us, hl with | [_, _], _ => rfl
  obtain ⟨e_law_draw, F_law_draw⟩ := c.def_ 20 (d := d_law_draw) rfl
  have g_law_draw := He.glo_ok X G (c.fact 20 (f := .glo "_law_draw") rfl)
  have b_law_draw : Binds K e_law_draw ["source", "most"] [] := F_law_draw.bindsN fun _ _ _ _ _ _ us hl => match us, hl with | [_, _], _ => rfl
  obtain ⟨e_law_labels, F_law_labels⟩ := c.def_ 21 (d := d_law_labels) rfl
  have g_law_labels := He.glo_ok X G (c.fact 21 (f := .glo "_law_labels") rfl)
  have b_law_labels : Binds K e_law_labels ["source", "filling", "most"] [] := F_law_labels.bindsN fun _ _ _ _ _ _ us hl => match us, hl with | [_, _, _], _ => rfl
  obtain ⟨e_law, F_law⟩ := c.def_ 22 (d := d_law) rfl
  have e := hfa.symm.trans (He.glo_ok X G (c.fact 22 (f := .glo "law") rfl))
  cases e
  have b := FunD.bindsA (ps := ["script"]) F_law fun _ _ _ _ _ _ us hl => match us, hl with | [_], _ => rfl
  refine ⟨e_law, fun s v => b s [v] rfl, fun base _ _ => ?_⟩
  have o_open := ok_open (P := P) (w := w) (base := base) F_law_open_cells mb
  have o_pick := ok_pick (P := P) (w := w) (base := base) F_law_pick mb
  have T1 : TabOk P w K mg base 1 (tn.take 1) t1 := TabOk.nil.snoc rfl g_law_pick F_law_pick.kp b_law_pick o_pick
  have T2 : TabOk P w K mg base 2 (tn.take 2) t2 := T1.snoc rfl g_ties_of_triangle F_ties_of_triangle.kp b_ties_of_triangle (fn_text F_ties_of_triangle s_1 T1 gl mb c_ties_of_triangle)
  have T3 : TabOk P w K mg base 3 (tn.take 3) t3 := T2.snoc rfl g_rim_of F_rim_of.kp b_rim_of (fn_text F_rim_of s_2 T2 gl mb c_rim_of)
  have T4 : TabOk P w K mg base 4 (tn.take 4) t4 := T3.snoc rfl g_tie_counts F_tie_counts.kp b_tie_counts (fn_text F_tie_counts s_3 T3 gl mb c_tie_counts)
  have T5 : TabOk P w K mg base 5 (tn.take 5) t5 := T4.snoc rfl g_rim_ties F_rim_ties.kp b_rim_ties (fn_text F_rim_ties s_4 T4 gl mb c_rim_ties)
  have T6 : TabOk P w K mg base 6 (tn.take 6) t6 := T5.snoc rfl g_all_ties F_all_ties.kp b_all_ties (fn_text F_all_ties s_5 T5 gl mb c_all_ties)
  have T7 : TabOk P w K mg base 7 (tn.take 7) t7 := T6.snoc rfl g_is_turn_door F_is_turn_door.kp b_is_turn_door (fn_text F_is_turn_door s_7 T6 gl mb c_is_turn_door)
  have T8 : TabOk P w K mg base 8 (tn.take 8) t8 := T7.snoc rfl g_doors_of F_doors_of.kp b_doors_of (fn_text F_doors_of s_8 T7 gl mb c_doors_of)
  have T9 : TabOk P w K mg base 9 (tn.take 9) t9 := T8.snoc rfl g_is_turned F_is_turned.kp b_is_turned (fn_text F_is_turned s_9 T8 gl mb c_is_turned)
  have T10 : TabOk P w K mg base 10 (tn.take 10) t10 := T9.snoc rfl g_turn_triangles F_turn_triangles.kp b_turn_triangles (fn_text F_turn_triangles s_10 T9 gl mb c_turn_triangles)
  have T11 : TabOk P w K mg base 11 (tn.take 11) t11 := T10.snoc rfl g_opposite_ties F_opposite_ties.kp b_opposite_ties (fn_text F_opposite_ties s_11 T10 gl mb c_opposite_ties)
  have T12 : TabOk P w K mg base 12 (tn.take 12) t12 := T11.snoc rfl g_rim_doors F_rim_doors.kp b_rim_doors (fn_text F_rim_doors s_12 T11 gl mb c_rim_doors)
  have T13 : TabOk P w K mg base 13 (tn.take 13) t13 := T12.snoc rfl g_rim_walk F_rim_walk.kp b_rim_walk (fn_text F_rim_walk s_13 T12 gl mb c_rim_walk)
  have T14 : TabOk P w K mg base 14 (tn.take 14) t14 := T13.snoc rfl g_turn_paper F_turn_paper.kp b_turn_paper (fn_text F_turn_paper s_14 T13 gl mb c_turn_paper)
  have T15 : TabOk P w K mg base 15 (tn.take 15) t15 := T14.snoc rfl g_law_rim F_law_rim.kp b_law_rim (fn_text F_law_rim s_18 T14 gl mb c_law_rim)
  have T16 : TabOk P w K mg base 16 (tn.take 16) t16 := T15.snoc rfl g_law_cone F_law_cone.kp b_law_cone (fn_text F_law_cone s_19 T15 gl mb c_law_cone)
  have T17 : TabOk P w K mg base 17 (tn.take 17) t17 := T16.snoc rfl g_law_ties F_law_ties.kp b_law_ties (fn_text F_law_ties s_20 T16 gl mb c_law_ties)
  have T18 : TabOk P w K mg base 18 (tn.take 18) t18 := T17.snoc rfl g_law_parted F_law_parted.kp b_law_parted (fn_text F_law_parted s_21 T17 gl mb c_law_parted)
  have T19 : TabOk P w K mg base 19 (tn.take 19) t19 := T18.snoc rfl g_law_flipped F_law_flipped.kp b_law_flipped (fn_text F_law_flipped s_22 T18 gl mb c_law_flipped)
  have T20 : TabOk P w K mg base 20 (tn.take 20) t20 := T19.snoc rfl g_law_draw F_law_draw.kp b_law_draw (fn_text F_law_draw s_23 T19 gl mb c_law_draw)
  have T21 : TabOk P w K mg base 21 (tn.take 21) t21 := T20.snoc rfl g_law_labels F_law_labels.kp b_law_labels (fn_text F_law_labels s_24 T20 gl mb c_law_labels)
  exact law_text (by decide) F_law s_25 T21 gl mb rfl c_law rfl rfl (by decide +kernel) (by decide +kernel) (by decide +kernel) (by decide +kernel) (by decide +kernel) g_law_open_cells F_law_open_cells.kp b_law_open_cells (o_open.mono (by decide)) law_holds
end DT
open PySem PySem.W PySem.Calls PyProof.Rows
set_option maxHeartbeats 0 in
theorem PySem.Challenge.cw_cornersled_k93_whole_two_sizes_holds : PySem.Challenge.rw_cornersled_k93_whole_two_sizes.Holds := by
  w_on; o_law
  refine HandSHeadRun.head_any (r := OpenLaw.row PySem.Challenge.rw_cornersled_k93_whole_two_sizes) (q := view (OpenLaw.row PySem.Challenge.rw_cornersled_k93_whole_two_sizes).prog [25]) (H := DT.hk) (ob := DT.ob) (M := 4000) (loose := DT.namesL) (d := HandSHeadRun.topDef (OpenLaw.row PySem.Challenge.rw_cornersled_k93_whole_two_sizes).prog 25) (kwd := []) DT.ob_eq
    (by kernel_rfl) (fun s => by kernel_rfl) DT.run (by kernel_rfl) (by kernel_rfl) (by kernel_rfl) (by rfl) (by first | assumption | decide +kernel) (by decide +kernel) ⟨rfl, rfl, rfl, rfl, rfl, by decide +kernel⟩ ?hw ?hc
  case hw => w_witness2
  case hc =>
    refine DT.walk_G (l := PySem.Challenge.rw_cornersled_k93_whole_two_sizes) (lev := 22) (x := "script") rfl (by kernel_rfl) ⟨rfl, by decide, by decide⟩ ?G
    intro w mg fa h Y G hmg0
    obtain ⟨K, KX, c⟩ := Y
    have hmg : mg ("law" : PySem.Str) = some (.ref fa) := by
      have e : (HandSHeadRun.topDef (OpenLaw.row PySem.Challenge.rw_cornersled_k93_whole_two_sizes).prog 25).name = ("law" : PySem.Str) := by kernel_rfl
      rw [← e]
      exact hmg0
    obtain ⟨fd, hb, hF⟩ := DT.factsL (P := (PySem.Challenge.rw_cornersled_k93_whole_two_sizes).prog) (w := w) KX G hmg c
    exact ⟨K, fd, KX, hb, hF⟩
