import PyProof.Rows.All
import Wide.All
import OpenK.AllK
import Wide.FinOn
import HandS.ForMost
import HandS.TupAny
import HandS.IsInst
import HandS.Conv
import HandS.Zip
import HandS.Deep
import HandS.Walk
import HandS.Style
import HandS.Flow
import HandS.TupLe
import HandS.Wide
import HandS.Strs
import HandS.Ends
import HandS.Defaults
import HandS.Head0
import HandS.Head1
import HandS.Head2
import HandS.HeadEnd
import HandS.HeadHook1
import HandS.HeadHook2
import HandS.HeadHook4
import HandS.DictTup
import HandS.TupLen
import HandS.SetFor
import HandS.TupSets
import KE.KeyNested
import KE.KDictPairs
import KE.DataMinMax
import KE.SortData
import PyProof.ReprRoads
import KE.GoesEnum
import KE.GoesNew
import KE.KDictCopyH
import KE.KDictSum
import KE.KDictItemsList
import HandS.RaiseMore
import KE.KStar
import KE.SortKeyHeap
import HandS.SortKw
import KE.KUnpack
import PySem.Challenge.RW_cornersled_k86_clubs_and_lists
set_option Elab.async false
set_option linter.all false
set_option maxRecDepth 100000
/-! A small functional language over data trees: its meaning. -/
namespace DT
open PySem

abbrev D := PyData
abbrev LINE : Nat := 16777216

/-- what the drawing of numbers carries along -/
structure PState where
  cells : List Int
  left : Int
  mixed : Int
  turn : Int

/-- what a slot holds: the source, or data (mine: made here and known nowhere else) -/
inductive Sl where
  | src
  | d (mine : Bool) (x : D)

abbrev Rho := List (Option Sl)
abbrev M (α : Type) := PState → Option (α × PState)
/-- a function: its arguments (none: the source) -/
abbrev Fn := List (Option D) → M D

def ret {α : Type} (x : α) : M α := fun g => some (x, g)
def fail {α : Type} : M α := fun _ => none
def ofO {α : Type} : Option α → M α
  | none => fail
  | some x => ret x
def bnd {α β : Type} (m : M α) (f : α → M β) : M β := fun g => match m g with
  | none => none
  | some (a, g') => f a g'

inductive BOp where
  | add | sub | mul | fdiv | mod | pow | shl
  deriving DecidableEq
inductive COp where
  | lt | le | gt | ge | eq | ne | is | isnt | mem | nmem
  deriving DecidableEq
inductive Ty where
  | int | bool | str | tuple | list | dict
  deriving DecidableEq
inductive Bl where
  | len | tuple | list | int | abs | sorted | all | any | sum | max | max2 | min | min2 | repr | isi (t : Ty) | listR1 | listR2 | tupR1 | lenSet | sortSet | lenDict | maxT
  deriving DecidableEq
inductive ItK where
  | seq | rng1 | rng2 | enum | zip2 | zip3 | items
  deriving DecidableEq
inductive Me where
  | index | get | items
  deriving DecidableEq
inductive Tg where
  | n (i : Nat)
  | t (ts : List Tg)

mutual
inductive Ex where
  | v (i : Nat)
  | k (c : D)
  | tup (es : Exs)
  | lst (es : Exs)
  | bin (o : BOp) (a b : Ex)
  | neg (a : Ex)
  | not (a : Ex)
  | and (es : Exs)
  | or (es : Exs)
  | cmp (a : Ex) (cs : Cps)
  | ite (t a b : Ex)
  | ix (a i : Ex)
  | sl (a lo hi : Ex)
  | rev (a : Ex)
  | abs
  | comp (elt : Ex) (tg : Tg) (ik : ItK) (ss ifs : Exs)
  | call (f : Nat) (args : Ars)
  | blt (b : Bl) (es : Exs)
  | meth (m : Me) (o : Ex) (es : Exs)
  | dnew (t : Bool)
  | disp (t : Bool) (fl : List Bool) (es : Exs)
  | sabs (a : Ex)
inductive Exs where
  | nil
  | cons (e : Ex) (r : Exs)
inductive Cps where
  | nil
  | cons (o : COp) (b : Ex) (r : Cps)
inductive Ars where
  | nil
  | src (i : Nat) (r : Ars)
  | ex (e : Ex) (r : Ars)
end

mutual
inductive Sx where
  | set (i : Nat) (e : Ex)
  | par (is : List Nat) (es : Exs)
  | unp (tg : Tg) (e : Ex)
  | six (i : Nat) (k e : Ex)
  | app (i : Nat) (e : Ex)
  | ext (i : Nat) (e : Ex)
  | iff (t : Ex) (a b : Sxs)
  | for (tg : Tg) (ik : ItK) (ss : Exs) (body : Sxs)
  | whl (t : Ex) (body : Sxs)
  | ret (e : Ex)
  | cont
  | pass
  | never
inductive Sxs where
  | nil
  | cons (s : Sx) (r : Sxs)
end

/-! ### operations on data -/
def lenOk (n : Nat) : Bool := decide (n ≤ LINE)
def mkT (xs : List D) : Option D := if lenOk xs.length then some (.tuple xs) else none
def mkL (xs : List D) : Option D := if lenOk xs.length then some (.list xs) else none

def wid (i : Int) : Bool := decide (-(2 ^ 64) < i) && decide (i < 2 ^ 64)
def binD : BOp → D → D → Option D
  | .add, .int i, .int j => some (.int (i + j))
  | .add, .tuple xs, .tuple ys => mkT (xs ++ ys)
  | .add, .list xs, .list ys => mkL (xs ++ ys)
  | .sub, .int i, .int j => some (.int (i - j))
  | .mul, .int i, .int j => if wid i || wid j then some (.int (i * j)) else none
  | .fdiv, .int i, .int j => if decide (j ≠ 0) && decide (j.natAbs < 2 ^ 512) then some (.int (i.fdiv j)) else none
  | .mod, .int i, .int j => if j ≠ 0 then some (.int (i.fmod j)) else none
  | .pow, .int i, .int j => if decide (0 ≤ j) && (decide (j ≤ 1000000) && decide (i.natAbs < 2 ^ 64)) then some (.int (i ^ j.toNat)) else none
  | .shl, .int i, .int j => if decide (0 ≤ j) && (decide (j ≤ 1000000) && decide (i.natAbs < 2 ^ 64)) then some (.int (i * 2 ^ j.toNat)) else none
  | _, _, _ => none

mutual
/-- the data as a key (whole numbers, and tuples of such) -/
def toKey : D → NestedKey
  | .int i => .num i
  | .str x => .text x
  | .tuple ds => .tup (toKeys ds)
  | _ => .none
def toKeys : List D → List NestedKey
  | [] => []
  | d :: ds => toKey d :: toKeys ds
end
mutual
def keyOk : D → Bool
  | .int _ => true
  | .tuple ds => keysOk ds
  | _ => false
def keysOk : List D → Bool
  | [] => true
  | d :: ds => keyOk d && keysOk ds
end
def isInt : D → Bool
  | .int _ => true
  | _ => false
def isTup : D → Bool
  | .tuple _ => true
  | _ => false
/-- a tuple that may be a key -/
def tupKD (d : D) : Bool := isTup d && (keyOk d && decide ((toKey d).depth ≤ 8))
/-- a key among keys of its own kind -/
def dOk (kvs : List (D × D)) (k : D) : Bool := (tupKD k && kvs.all fun p => tupKD p.1) || (isInt k && kvs.all fun p => isInt p.1)
def dGet (kvs : List (D × D)) (k : D) : Option D := (kvs.find? fun p => decide (toKey p.1 = toKey k)).map (·.2)
def dPut (kvs : List (D × D)) (k v : D) : List (D × D) := if (kvs.any fun p => decide (toKey p.1 = toKey k)) = true then kvs.map (fun p => if toKey p.1 = toKey k then (p.1, v) else p) else kvs ++ [(k, v)]
def eqO : D → D → Option Bool
  | .str x, .str y => some (decide (x = y))
  | a, b => if SeqAt.shaped a && SeqAt.shaped b then some (PyData.eqv a b) else none
def memO (x c : D) : Option Bool := match c with
  | .list ds => if SeqAt.shaped x && SeqAt.shaped c then some (ds.any fun z => PyData.eqv z x) else none
  | .tuple ds => if SeqAt.shaped x && SeqAt.shaped c then some (ds.any fun z => PyData.eqv z x) else none
  | .dict kvs => if dOk kvs x then some (dGet kvs x).isSome else none
  | _ => none
def intsOf : List D → Option (List Int)
  | [] => some []
  | .int i :: r => match intsOf r with
    | some ns => some (i :: ns)
    | none => none
  | _ :: _ => none
def ltO : D → D → Option Bool
  | .int i, .int j => some (decide (i < j))
  | .tuple xs, .tuple ys => match intsOf xs, intsOf ys with
    | some ns, some ms => some (HT.lexLt ns ms)
    | _, _ => none
  | _, _ => none
def isO : D → D → Option Bool
  | .none, .none => some true
  | .bool _, .none | .int _, .none | .str _, .none | .list _, .none | .tuple _, .none | .dict _, .none => some false
  | .bool a, .bool b => some (decide (a = b))
  | _, _ => none
def cmpO : COp → D → D → Option Bool
  | .eq, a, b => eqO a b
  | .ne, a, b => (eqO a b).map not
  | .lt, a, b => ltO a b
  | .gt, .int i, .int j => some (decide (j < i))
  | .le, .int i, .int j => some (decide (i ≤ j))
  | .ge, .int i, .int j => some (decide (j ≤ i))
  | .is, a, b => isO a b
  | .isnt, a, b => (isO a b).map not
  | .mem, a, b => memO a b
  | .nmem, a, b => (memO a b).map not
  | _, _, _ => none

/-- a store that may be made -/
def sixOk (kvs : List (D × D)) (k : D) : Bool := tupKD k && ((kvs.all fun p => tupKD p.1) && decide (kvs.length < LINE))
def ixO : D → D → Option D
  | .list xs, .int i => L2.atI xs i
  | .tuple xs, .int i => L2.atI xs i
  | .dict kvs, k => if dOk kvs k then dGet kvs k else none
  | _, _ => none
/-- part lo to hi of a list -/
def cutL {α : Type} (xs : List α) (lo hi : Option Int) : List α := (xs.drop (HT.sIx xs.length 0 lo)).take (HT.sIx xs.length xs.length hi - HT.sIx xs.length 0 lo)
/-- a place counted from behind, -1 being the one ahead of all -/
def rIx (n : Nat) (d : Int) : Option Int → Int
  | none => d
  | some i => if i < 0 then max (i + n) (-1) else min i (n - 1)
def cutR {α : Type} (xs : List α) (lo hi : Option Int) : List α := ((xs.take (rIx xs.length (xs.length - 1) lo + 1).toNat).drop (rIx xs.length (-1) hi + 1).toNat).reverse
def slO : D → Option Int → Option Int → Option D
  | .list xs, lo, hi => some (.list (cutL xs lo hi))
  | .tuple xs, lo, hi => some (.tuple (cutL xs lo hi))
  | _, _, _ => none
def revO : D → Option D
  | .list xs => some (.list xs.reverse)
  | .tuple xs => some (.tuple xs.reverse)
  | _ => none

def seqO : D → Option (List D)
  | .list xs => some xs
  | .tuple xs => some xs
  | _ => none
def boolsOf : List D → Option (List Bool)
  | [] => some []
  | .bool b :: r => match boolsOf r with
    | some bs => some (b :: bs)
    | none => none
  | _ :: _ => none
def tyOf : D → Ty → Bool
  | .bool _, .int => true
  | .bool _, .bool => true
  | .int _, .int => true
  | .str _, .str => true
  | .tuple _, .tuple => true
  | .list _, .list => true
  | .dict _, .dict => true
  | _, _ => false
def rngL (a b : Int) : List D := (List.range (b - a).toNat).map fun i => .int (a + (i : Nat))
def rngO (a b : Int) : Option (List D) := if decide (-(2 ^ 62) ≤ a) && (decide (a < 2 ^ 62) && (decide (-(2 ^ 62) ≤ b) && (decide (b < 2 ^ 62) && decide ((b - a).toNat ≤ LINE)))) then some (rngL a b) else none
/-- data that sorted puts in order by what stands in it -/
def sortOk (xs : List D) : Bool := xs.all (fun d => xs.all fun e => PySem.W.alike d e) && ((xs.all fun d => match d with | .tuple (_ :: _) => true | _ => false) || (xs.all fun d => match d with | .none => false | .tuple _ => false | _ => true)) && (PyData.canLayAll0 xs && xs.all fun d => decide (d.depth ≤ 64))
def sortO (xs : List D) : Option (List D) := if sortOk xs then some (xs.mergeSort (PySem.W.dataLe false id)) else none
def maxI : List Int → Int
  | [] => 0
  | [x] => x
  | x :: r => max x (maxI r)
def minI : List Int → Int
  | [] => 0
  | [x] => x
  | x :: r => min x (minI r)
def noKeys : D → Bool
  | .dict [] => true
  | d => d.canLay0
def reprO (d : D) : Option D := if noKeys d && (d.showable && (decide (d.shown.length ≤ LINE) && decide (d.depth ≤ 64))) then some (.str d.shown) else none

/-- the keys of a list of pairs -/
def pairKs : List D → Option (List D)
  | [] => some []
  | .tuple [k, _] :: r => (pairKs r).map fun ks => k :: ks
  | _ :: _ => none
/-- each key once -/
def dedK {α : Type} [DecidableEq α] (ks : List α) : List α := ks.foldl (fun acc k => if k ∈ acc then acc else acc ++ [k]) []
def maxTOk (xs : List D) : Bool := (xs.all fun d => xs.all fun e => PySem.W.alike d e) && (xs.all (fun d => isTup d && decide (d.depth ≤ 64)) && PyData.canLayAll0 xs)
/-- tuples of whole numbers -/
def tupsOf : List D → Option (List (List Int))
  | [] => some []
  | .tuple ds :: r => match intsOf ds, tupsOf r with
    | some k, some ks => some (k :: ks)
    | _, _ => none
  | _ :: _ => none
def absI (i : Int) : Int := if i < 0 then -i else i
/-- sorted(.., key=abs) -/
def sabsO : D → Option D
  | .list xs => match intsOf xs with
    | some ns => if decide (ns.length ≤ LINE) then some (.list ((ns.mergeSort fun a b => decide (absI a ≤ absI b)).map .int)) else none
    | none => none
  | _ => none
/-- items put in a row, some of them sequences whose items are meant -/
def spl : List Bool → List D → Option (List D)
  | [], [] => some []
  | true :: fl, d :: ds => match seqO d, spl fl ds with
    | some xs, some r => some (xs ++ r)
    | _, _ => none
  | false :: fl, d :: ds => match spl fl ds with
    | some r => some (d :: r)
    | none => none
  | _, _ => none
def dispO (t : Bool) (fl : List Bool) (ds : List D) : Option D := match spl fl ds with
  | some xs => if t then mkT xs else mkL xs
  | none => none
def bltO : Bl → List D → Option D
  | .len, [.list xs] => some (.int xs.length)
  | .len, [.tuple xs] => some (.int xs.length)
  | .tuple, [x] => (seqO x).map .tuple
  | .list, [.dict kvs] => some (.list (kvs.map (·.1)))
  | .list, [x] => (seqO x).map .list
  | .int, [.int i] => some (.int i)
  | .int, [.bool b] => some (.int (if b then 1 else 0))
  | .abs, [.int i] => some (.int (if i < 0 then -i else i))
  | .sorted, [.dict kvs] => (sortO (kvs.map (·.1))).map .list
  | .sorted, [x] => match seqO x with
    | some xs => (sortO xs).map .list
    | none => none
  | .all, [.list xs] => (boolsOf xs).map fun bs => .bool (bs.all id)
  | .any, [.list xs] => (boolsOf xs).map fun bs => .bool (bs.any id)
  | .sum, [.list xs] => (intsOf xs).map fun ns => .int ns.sum
  | .sum, [.tuple xs] => (intsOf xs).map fun ns => .int ns.sum
  | .max, [.list xs] => match intsOf xs with
    | some (n :: ns) => some (.int (maxI (n :: ns)))
    | _ => none
  | .min, [.list xs] => match intsOf xs with
    | some (n :: ns) => some (.int (minI (n :: ns)))
    | _ => none
  | .max2, [.int i, .int j] => some (.int (if j > i then j else i))
  | .min2, [.int i, .int j] => some (.int (if j < i then j else i))
  | .repr, [x] => reprO x
  | .isi t, [x] => some (.bool (tyOf x t))
  | .listR1, [.int n] => (rngO 0 n).map .list
  | .listR2, [.int a, .int b] => (rngO a b).map .list
  | .tupR1, [.int n] => (rngO 0 n).map .tuple
  | .lenDict, [.list xs] => match pairKs xs with
    | some ks => if keysOk ks && (ks.all isInt || ks.all fun k => isTup k && decide ((toKey k).depth ≤ 8)) then some (.int (dedK (toKeys ks)).length) else none
    | none => none
  | .lenSet, [.list xs] => match intsOf xs with
    | some ns => if decide (ns.length < 64) then some (.int (dedK ns).length) else none
    | none => none
  | .lenSet, [.tuple xs] => match tupsOf xs with
    | some ks => if decide (ks.length < 64) then some (.int (dedK ks).length) else none
    | none => none
  | .sortSet, [.tuple xs] => match intsOf xs with
    | some ns => if decide (ns.length < 60) then some (.list (((dedK ns).mergeSort fun a b => decide (a ≤ b)).map .int)) else none
    | none => none
  | .maxT, [.list (x :: xs)] => if maxTOk (x :: xs) then some (PySem.W.maxD x xs) else none
  | _, _ => none

def enumL (xs : List D) : List D := xs.zipIdx.map fun p => .tuple [.int (p.2 : Nat), p.1]
def itO : ItK → List D → Option (List D)
  | .seq, [x] => seqO x
  | .rng1, [.int n] => rngO 0 n
  | .rng2, [.int a, .int b] => rngO a b
  | .enum, [x] => (seqO x).map enumL
  | .zip2, [x, y] => match seqO x, seqO y with
    | some xs, some ys => some (List.zipWith (fun a b => .tuple [a, b]) xs ys)
    | _, _ => none
  | _, _ => none

def metO : Me → D → List D → Option D
  | .index, .list xs, [y] => if SeqAt.shaped y && SeqAt.shaped (.list xs) then (xs.findIdx? fun z => PyData.eqv z y).map fun j => .int (j : Nat) else none
  | .get, .dict kvs, [k, x] => if dOk kvs k then some ((dGet kvs k).getD x) else none
  | .index, .tuple xs, [y] => if SeqAt.shaped y && SeqAt.shaped (.tuple xs) then (xs.findIdx? fun z => PyData.eqv z y).map fun j => .int (j : Nat) else none
  | _, _, _ => none

/-! ### slots -/
def getV (ρ : Rho) (i : Nat) : Option D := match ρ[i]? with
  | some (some (.d _ x)) => some x
  | _ => none
mutual
def slotsT : Tg → List Nat
  | .n i => [i]
  | .t ts => slotsTs ts
def slotsTs : List Tg → List Nat
  | [] => []
  | t :: r => slotsT t ++ slotsTs r
end
mutual
def bindT : Tg → D → Rho → Option Rho
  | .n i, d, ρ => some (ρ.set i (some (.d false d)))
  | .t ts, .tuple ds, ρ => bindTs ts ds ρ
  | .t ts, .list ds, ρ => bindTs ts ds ρ
  | .t _, _, _ => none
def bindTs : List Tg → List D → Rho → Option Rho
  | [], [], ρ => some ρ
  | t :: r, d :: ds, ρ => match bindT t d ρ with
    | some ρ' => bindTs r ds ρ'
    | none => none
  | _, _, _ => none
end
def wipeR (ρ : Rho) : List Nat → Rho
  | [] => ρ
  | i :: is => (wipeR ρ is).set i none

/-! ### which slots a value may share its objects with: within, and itself -/
mutual
def esi : Ex → List Nat
  | .tup es => escs es
  | .lst es => escs es
  | .bin .add a b => esi a ++ esi b
  | .ite _ a b => esi a ++ esi b
  | .ix a _ => esi a
  | .sl a _ _ => esi a
  | .rev a => esi a
  | .comp elt _ _ ss _ => escs ss ++ (esi elt ++ ael elt)
  | .call _ args => esca args
  | .blt .tuple es => esis es
  | .blt .list es => esis es
  | .blt .sorted es => esis es
  | .blt .maxT es => esis es
  | .meth _ o es => esi o ++ escs es
  | .disp _ _ es => escs es
  | _ => []
def ael : Ex → List Nat
  | .v i => [i]
  | .ite _ a b => ael a ++ ael b
  | .ix a _ => esi a
  | .call _ args => esca args
  | .meth _ o es => esi o ++ escs es
  | _ => []
def esis : Exs → List Nat
  | .nil => []
  | .cons e r => esi e ++ esis r
def escs : Exs → List Nat
  | .nil => []
  | .cons e r => esi e ++ ael e ++ escs r
def esca : Ars → List Nat
  | .nil => []
  | .src _ r => esca r
  | .ex e r => esi e ++ ael e ++ esca r
end
def esc (e : Ex) : List Nat := esi e ++ ael e
/-- its value is a list or dict that was just made, or no list or dict -/
def fresh : Ex → Bool
  | .v _ => false
  | .k _ => true
  | .ite _ _ _ => false
  | .ix _ _ => false
  | .call _ _ => false
  | .meth _ _ _ => false
  | .blt _ _ => true
  | _ => true
mutual
/-- no list and no dict within -/
def noMut : D → Bool
  | .list _ => false
  | .dict _ => false
  | .tuple ds => noMuts ds
  | _ => true
def noMuts : List D → Bool
  | [] => true
  | d :: ds => noMut d && noMuts ds
end
/-- a list whose items have none -/
def flatL : D → Bool
  | .list ds => noMuts ds
  | _ => false
/-- the slots that a value shares objects with, by what it is -/
def escV (e : Ex) (d : D) : List Nat := if noMut d || (fresh e && flatL d) then [] else esc e
def frz1 : Option Sl → Option Sl
  | some (.d _ x) => some (.d false x)
  | s => s
def freeze : List Nat → Rho → Rho
  | [], ρ => ρ
  | i :: is, ρ => (freeze is ρ).set i (frz1 ((freeze is ρ)[i]?.join))

/-! ### meaning -/
def compL (f : D → M (Option D)) : List D → M (List D)
  | [] => ret []
  | x :: xs => bnd (f x) fun o => bnd (compL f xs) fun ys => ret (match o with
    | none => ys
    | some y => y :: ys)
def toB : D → M Bool
  | .bool b => ret b
  | _ => fail
def partO : D → M (Option Int)
  | .int i => ret (some i)
  | _ => fail

mutual
def ev (F : List Fn) : Ex → Rho → M D
  | .v i, ρ => ofO (getV ρ i)
  | .k c, _ => ret c
  | .tup es, ρ => bnd (evs F es ρ) fun ds => ret (.tuple ds)
  | .lst es, ρ => bnd (evs F es ρ) fun ds => ret (.list ds)
  | .bin o a b, ρ => bnd (ev F a ρ) fun x => bnd (ev F b ρ) fun y => ofO (binD o x y)
  | .neg a, ρ => bnd (ev F a ρ) fun x => match x with
    | .int i => ret (.int (-i))
    | _ => fail
  | .not a, ρ => bnd (ev F a ρ) fun x => bnd (toB x) fun b => ret (.bool (!b))
  | .and es, ρ => bnd (evA F es ρ) fun b => ret (.bool b)
  | .or es, ρ => bnd (evO F es ρ) fun b => ret (.bool b)
  | .cmp a cs, ρ => bnd (ev F a ρ) fun x => bnd (evC F x cs ρ) fun b => ret (.bool b)
  | .ite t a b, ρ => bnd (ev F t ρ) fun x => bnd (toB x) fun c => if c then ev F a ρ else ev F b ρ
  | .ix a i, ρ => bnd (ev F a ρ) fun x => bnd (ev F i ρ) fun y => ofO (ixO x y)
  | .sl a lo hi, ρ => bnd (ev F a ρ) fun x => bnd (evP F lo ρ) fun l => bnd (evP F hi ρ) fun h => ofO (slO x l h)
  | .rev a, ρ => bnd (ev F a ρ) fun x => ofO (revO x)
  | .abs, _ => fail
  | .comp elt tg ik ss ifs, ρ => bnd (evs F ss ρ) fun ds => bnd (ofO (itO ik ds)) fun xs => bnd (compL (fun d => bnd (ofO (bindT tg d (wipeR (freeze (escs ss) ρ) (slotsT tg)))) fun ρ' =>
      bnd (evI F ifs ρ') fun b => if b then bnd (ev F elt ρ') fun y => ret (some y) else ret none) xs) fun ys => ret (.list ys)
  | .call f args, ρ => bnd (evr F args ρ) fun as => match F[f]? with
    | some h => h as
    | none => fail
  | .blt b es, ρ => bnd (evs F es ρ) fun ds => ofO (bltO b ds)
  | .meth m o es, ρ => bnd (ev F o ρ) fun x => bnd (evs F es ρ) fun ds => ofO (metO m x ds)
  | .dnew _, _ => ret (.dict [])
  | .disp t fl es, ρ => bnd (evs F es ρ) fun ds => ofO (dispO t fl ds)
  | .sabs a, ρ => bnd (ev F a ρ) fun x => ofO (sabsO x)
def evs (F : List Fn) : Exs → Rho → M (List D)
  | .nil, _ => ret []
  | .cons e r, ρ => bnd (ev F e ρ) fun x => bnd (evs F r ρ) fun xs => ret (x :: xs)
def evA (F : List Fn) : Exs → Rho → M Bool
  | .nil, _ => fail
  | .cons e .nil, ρ => bnd (ev F e ρ) toB
  | .cons e r, ρ => bnd (ev F e ρ) fun x => bnd (toB x) fun b => if b then evA F r ρ else ret false
def evO (F : List Fn) : Exs → Rho → M Bool
  | .nil, _ => fail
  | .cons e .nil, ρ => bnd (ev F e ρ) toB
  | .cons e r, ρ => bnd (ev F e ρ) fun x => bnd (toB x) fun b => if b then ret true else evO F r ρ
def evI (F : List Fn) : Exs → Rho → M Bool
  | .nil, _ => ret true
  | .cons e r, ρ => bnd (ev F e ρ) fun x => bnd (toB x) fun b => if b then evI F r ρ else ret false
def evC (F : List Fn) (x : D) : Cps → Rho → M Bool
  | .nil, _ => fail
  | .cons o b .nil, ρ => bnd (ev F b ρ) fun y => ofO (cmpO o x y)
  | .cons o b r, ρ => bnd (ev F b ρ) fun y => bnd (ofO (cmpO o x y)) fun c => if c then evC F y r ρ else ret false
def evP (F : List Fn) : Ex → Rho → M (Option Int)
  | .abs, _ => ret none
  | e, ρ => bnd (ev F e ρ) partO
def evr (F : List Fn) : Ars → Rho → M (List (Option D))
  | .nil, _ => ret []
  | .src i r, ρ => match ρ[i]? with
    | some (some .src) => bnd (evr F r ρ) fun xs => ret (none :: xs)
    | _ => fail
  | .ex e r, ρ => bnd (ev F e ρ) fun x => bnd (evr F r ρ) fun xs => ret (some x :: xs)
end
end DT
namespace DT
/-! ### statements -/
inductive Fl where
  | nx
  | ct
  | rt (d : D)
def forL (f : Rho → D → M (Fl × Rho)) : List D → Rho → M (Fl × Rho)
  | [], ρ => ret (.nx, ρ)
  | x :: xs, ρ => bnd (f ρ x) fun r => match r.1 with
    | .rt d => ret (.rt d, r.2)
    | _ => forL f xs r.2
def whlN (t : Rho → M Bool) (f : Rho → M (Fl × Rho)) : Nat → Rho → M (Fl × Rho)
  | 0, _ => fail
  | n + 1, ρ => bnd (t ρ) fun b => if b then bnd (f ρ) fun r => match r.1 with
      | .rt d => ret (.rt d, r.2)
      | _ => whlN t f n r.2
    else ret (.nx, ρ)
/-- turns that a while may take -/
def FU : Nat := 2 ^ 64
def setIs : List Nat → List (Bool × D) → Rho → Rho
  | i :: is, (b, d) :: ds, ρ => setIs is ds (ρ.set i (some (.d b d)))
  | _, _, ρ => ρ
def fres : Exs → List Bool
  | .nil => []
  | .cons e r => fresh e :: fres r
mutual
def ex (F : List Fn) : Sx → Rho → M (Fl × Rho)
  | .set i e, ρ => bnd (ev F e ρ) fun d => ret (.nx, (freeze (esc e) ρ).set i (some (.d (fresh e) d)))
  | .par is es, ρ => bnd (evs F es ρ) fun ds => ret (.nx, setIs is ((fres es).zip ds) (freeze (escs es) ρ))
  | .unp tg e, ρ => bnd (ev F e ρ) fun d => bnd (ofO (bindT tg d (freeze (esc e) ρ))) fun ρ' => ret (.nx, ρ')
  | .six i k e, ρ => bnd (ev F e ρ) fun d => bnd (ev F k ρ) fun y => match (freeze (escV e d) ρ)[i]? with
    | some (some (.d true (.dict kvs))) => if sixOk kvs y then ret (.nx, (freeze (escV e d) ρ).set i (some (.d true (.dict (dPut kvs y d))))) else fail
    | _ => fail
  | .app i e, ρ => bnd (ev F e ρ) fun d => match (freeze (esc e) ρ)[i]? with
    | some (some (.d true (.list xs))) => if decide (xs.length < LINE) then ret (.nx, (freeze (esc e) ρ).set i (some (.d true (.list (xs ++ [d]))))) else fail
    | _ => fail
  | .ext i e, ρ => bnd (ev F e ρ) fun d => match d, (freeze (esc e) ρ)[i]? with
    | .list ys, some (some (.d true (.list xs))) => if decide (xs.length + ys.length ≤ LINE) then ret (.nx, (freeze (esc e) ρ).set i (some (.d true (.list (xs ++ ys))))) else fail
    | _, _ => fail
  | .iff t a b, ρ => bnd (ev F t ρ) fun x => bnd (toB x) fun c => if c then exs F a ρ else exs F b ρ
  | .for tg ik ss body, ρ => bnd (evs F ss ρ) fun ds => bnd (ofO (itO ik ds)) fun xs =>
      forL (fun ρ x => bnd (ofO (bindT tg x ρ)) fun ρ' => exs F body ρ') xs (freeze (escs ss) ρ)
  | .whl t body, ρ => whlN (fun ρ => bnd (ev F t ρ) toB) (fun ρ => exs F body ρ) FU ρ
  | .ret e, ρ => bnd (ev F e ρ) fun d => ret (.rt d, ρ)
  | .cont, ρ => ret (.ct, ρ)
  | .pass, ρ => ret (.nx, ρ)
  | .never, _ => fail
def exs (F : List Fn) : Sxs → Rho → M (Fl × Rho)
  | .nil, ρ => ret (.nx, ρ)
  | .cons s r, ρ => bnd (ex F s ρ) fun q => match q.1 with
    | .nx => exs F r q.2
    | f => ret (f, q.2)
end
def sl0 : Option D → Option Sl
  | none => some .src
  | some d => some (.d false d)
/-- a def of n slots -/
def fnOf (F : List Fn) (n : Nat) (body : Sxs) : Fn := fun as => bnd (exs F body (as.map sl0 ++ List.replicate (n - as.length) none)) fun q => match q.1 with
  | .rt d => ret d
  | .nx => ret .none
  | .ct => fail
end DT

/-! Data trees in the layer's heap. -/
namespace DT
open PySem L2

abbrev Ms := Addr → Prop
def isS (sa : Addr × Addr) : Ms := fun a => a = sa.1 ∨ a = sa.2
/-- what was tracked and is not in N stands -/
def Keep (N : Ms) (H H' : Hp) : Prop := ∀ a o, H a = some o → ¬ N a → H' a = some o
theorem Keep.refl {N : Ms} {H : Hp} : Keep N H H := fun _ _ h _ => h
theorem Keep.trans {N : Ms} {H H1 H2 : Hp} (a : Keep N H H1) (b : Keep N H1 H2) : Keep N H H2 := fun c o h n => b c o (a c o h n) n
theorem Keep.wide {N N' : Ms} {H H' : Hp} (h : Keep N H H') (w : ∀ a, N a → N' a) : Keep N' H H' := fun a o e n => h a o e fun z => n (w a z)
theorem Keep.new {N : Ms} {H : Hp} {p : Addr} {o : HO} (h : H p = none) : Keep N H (upd H p o) := fun a u e _ => by
  rw [upd_ne (ne_of_none e h)]
  exact e
theorem Keep.mut {N : Ms} {H : Hp} {p : Addr} {o : HO} (h : N p) : Keep N H (upd H p o) := fun a u e n => by
  have z : a ≠ p := fun z => n (by rw [z]; exact h)
  rw [upd_ne z]
  exact e
theorem Keep.free {N : Ms} {H H' : Hp} {p : Addr} (k : Keep N H H') (h : H' p = none) (n : ¬ N p) : H p = none := by
  cases e : H p with
  | none => rfl
  | some o =>
    rw [k p o e n] at h
    cases h

/-! ### dicts -/
mutual
/-- a key of whole numbers, and tuples of such -/
def numK : NestedKey → Bool
  | .num _ => true
  | .tup ks => numKs ks
  | .none => false
  | .text _ => false
def numKs : List NestedKey → Bool
  | [] => true
  | k :: ks => numK k && numKs ks
end
mutual
theorem hash_num (w w' : World) : ∀ k : NestedKey, numK k = true → k.hash w = k.hash w'
  | .num i, _ => rfl
  | .tup ks, h => by
    rw [NestedKey.hash, NestedKey.hash, hashes_num w w' ks (by simpa only [numK] using h)]
  | .none, h => by cases h
  | .text _, h => by cases h
theorem hashes_num (w w' : World) : ∀ ks : List NestedKey, numKs ks = true → NestedKey.hashes w ks = NestedKey.hashes w' ks
  | [], _ => rfl
  | k :: ks, h => by
    have h' : numK k = true ∧ numKs ks = true := by simpa only [numKs, Bool.and_eq_true] using h
    rw [NestedKey.hashes, NestedKey.hashes, hash_num w w' k h'.1, hashes_num w w' ks h'.2]
end
/-- a key that may stand in a dict of tuples -/
def tupK (k : NestedKey) : Bool := match k with
  | .tup ks => numKs ks && decide (k.depth ≤ 8)
  | _ => false
theorem tupK_num {k : NestedKey} (h : tupK k = true) : numK k = true ∧ k.depth ≤ 8 := by
  cases k with
  | tup ks =>
    obtain ⟨h1, h2⟩ := Bool.and_eq_true_iff.mp h
    exact ⟨by rw [numK]; exact h1, of_decide_eq_true h2⟩
  | _ => cases h
def KRel (x : NestedKey × Addr × V) (y : NestedKey × Addr × Value) : Prop := x.1 = y.1 ∧ x.2.1 = y.2.1 ∧ RelV x.2.2 y.2.2
/-- a dict whose keys are tuples, told by its one object -/
def DRaw (a : Addr) (l : List (NestedKey × Addr × V)) (h : Heap) : Prop :=
  l.length ≤ sizeLine ∧ (a == sysModules) = false ∧ ∃ (o : Obj) (es : Array DictEntry) (ep : Nat) (xs : List (NestedKey × Addr × Value)), h.get? a = some o ∧ o.ExactDict ∧ o.data = .dict es ep ∧
    (∀ (P : Program) (w : World), es.toList = xs.map (entryOfKey (nestedKind P w))) ∧ Paired KRel l xs ∧ (xs.map (·.1)).Nodup ∧ ∀ x ∈ l, tupK x.1 = true
def kN : Key → NestedKey
  | .inl i => .num i
  | .inr x => .text x
/-- a dict of these keys and values stands at a -/
def DAt (H : Hp) (a : Addr) (nk : List NestedKey) (ks vs : List V) : Prop :=
  (∃ l : List (Key × V), H a = some (.dK l) ∧ l.map (fun p => kN p.1) = nk ∧ l.map (fun p => kV p.1) = ks ∧ l.map (·.2) = vs) ∨
  ∃ l : List (NestedKey × Addr × V), H a = some (.ext (DRaw a l)) ∧ l.map (·.1) = nk ∧ l.map (fun x => V.ref x.2.1) = ks ∧ l.map (·.2.2) = vs
theorem DAt.obj {H : Hp} {a : Addr} {nk : List NestedKey} {ks vs : List V} (h : DAt H a nk ks vs) : ∃ o, H a = some o := by
  rcases h with ⟨l, e, _⟩ | ⟨l, e, _⟩
  · exact ⟨_, e⟩
  · exact ⟨_, e⟩
theorem DAt.to {H H' : Hp} {a : Addr} {nk : List NestedKey} {ks vs : List V} (h : DAt H a nk ks vs) (k : ∀ o, H a = some o → H' a = some o) : DAt H' a nk ks vs := by
  rcases h with ⟨l, e, q⟩ | ⟨l, e, q⟩
  · exact .inl ⟨l, k _ e, q⟩
  · exact .inr ⟨l, k _ e, q⟩

/-- whether tuples are tracked with their very objects (a law with a tuple's index), or not (dicts with tuples as keys) -/
def FZ : Bool := true
def tupO (o : Obj) (vs : List V) : HO := if FZ = true then .frz o (.tup vs) else .tup vs
def TupAt (H : Hp) (a : Addr) (vs : List V) : Prop := ∃ o : Obj, H a = some (tupO o vs) ∧ o.dict = none
theorem TupAt.obj {H : Hp} {a : Addr} {vs : List V} (h : TupAt H a vs) : ∃ o, H a = some o := h.elim fun o q => ⟨_, q.1⟩
theorem TupAt.to {H H' : Hp} {a : Addr} {vs : List V} (h : TupAt H a vs) (k : ∀ o, H a = some o → H' a = some o) : TupAt H' a vs := h.elim fun o q => ⟨o, k _ q.1, q.2⟩
theorem TupAt.rd {H : Hp} {a : Addr} {vs : List V} (h : TupAt H a vs) : Rd H a (.tup vs) := by
  obtain ⟨o, e, _⟩ := h
  unfold tupO at e
  split at e
  · exact .inr ⟨o, e⟩
  · exact .inl e
theorem TupAt.sq {K : PySem.W.Frag} {H : Hp} {a : Addr} {vs : List V} (h : TupAt H a vs) : SqT K H a vs := .inl h.rd
theorem TupAt.new {H : Hp} {a : Addr} {vs : List V} {o : Obj} (h : o.dict = none) : TupAt (upd H a (tupO o vs)) a vs := ⟨o, upd_same, h⟩
theorem TupAt.plain {X : Cx} {pins : List (Addr × Obj)} {σ : L2.St} {H : Hp} {s : Shared} {a : Addr} {vs : List V} (hf : FZ = true) (h : TupAt H a vs) (I : L2.Inv X pins σ H s) : ∃ o, s.heap.get? a = some o ∧ o.dict = none := by
  obtain ⟨o, e, d⟩ := h
  unfold tupO at e
  rw [if_pos hf] at e
  exact ⟨o, (I.hok a _ e).1, d⟩
def tupN (its : List Value) : Obj := { cls := .type "tuple", data := .seq its.toArray }
theorem objOk_tup {P : Program} {w : World} {H : Hp} {h : Heap} {a : Addr} {vs : List V} {its : List Value} (z : vs.length ≤ sizeLine) (r : Vals vs its) (e : h.get? a = some (tupN its)) : ObjOk P w H h a (tupO (tupN its) vs) := by
  have q : ObjOk P w H h a (.tup vs) := ⟨z, its, r, _, e, rfl, _, rfl⟩
  unfold tupO
  split
  · exact ⟨e, q⟩
  · exact q

mutual
/-- the value v shows the data d; none of its objects is in N -/
def Rep (N : Ms) (H : Hp) : D → V → Prop
  | .none, v => v = .non
  | .bool b, v => v = .bl b
  | .int i, v => v = .int i
  | .str x, v => v = .str x
  | .list ds, v => ds.length ≤ LINE ∧ ∃ a vs, v = .ref a ∧ ¬ N a ∧ H a = some (.lst vs) ∧ RepL N H ds vs
  | .tuple ds, v => ds.length ≤ LINE ∧ ∃ a vs, v = .ref a ∧ ¬ N a ∧ TupAt H a vs ∧ RepL N H ds vs
  | .dict kvs, v => kvs.length ≤ LINE ∧ ∃ a ks vs, v = .ref a ∧ ¬ N a ∧ DAt H a (toKeys (kvs.map (·.1))) ks vs ∧ RepK N H kvs ks vs
def RepL (N : Ms) (H : Hp) : List D → List V → Prop
  | [], vs => vs = []
  | d :: ds, vs => ∃ v r, vs = v :: r ∧ Rep N H d v ∧ RepL N H ds r
def RepK (N : Ms) (H : Hp) : List (D × D) → List V → List V → Prop
  | [], ks, vs => ks = [] ∧ vs = []
  | (k, d) :: ds, ks, vs => ∃ u t v r, ks = u :: t ∧ vs = v :: r ∧ Rep N H k u ∧ Rep N H d v ∧ RepK N H ds t r
end

def isMut : D → Bool
  | .list _ => true
  | .dict _ => true
  | _ => false

mutual
theorem Rep.tr {N N' : Ms} {H H' : Hp} (k : ∀ a o, H a = some o → ¬ N a → H' a = some o ∧ ¬ N' a) : ∀ {d : D} {v : V}, Rep N H d v → Rep N' H' d v
  | .none, _, h => by
    rw [Rep] at h ⊢
    exact h
  | .bool _, _, h => by
    rw [Rep] at h ⊢
    exact h
  | .int _, _, h => by
    rw [Rep] at h ⊢
    exact h
  | .str _, _, h => by
    rw [Rep] at h ⊢
    exact h
  | .list ds, _, h => by
    rw [Rep] at h ⊢
    obtain ⟨z, a, vs, e, n, q, r⟩ := h
    obtain ⟨q', n'⟩ := k a _ q n
    exact ⟨z, a, vs, e, n', q', RepL.tr k r⟩
  | .tuple ds, _, h => by
    rw [Rep] at h ⊢
    obtain ⟨z, a, vs, e, n, ⟨o, q, hd⟩, r⟩ := h
    obtain ⟨q', n'⟩ := k a _ q n
    exact ⟨z, a, vs, e, n', ⟨o, q', hd⟩, RepL.tr k r⟩
  | .dict kvs, _, h => by
    rw [Rep] at h ⊢
    obtain ⟨z, a, ks, vs, e, n, q, r⟩ := h
    obtain ⟨o, ho⟩ := DAt.obj q
    exact ⟨z, a, ks, vs, e, (k a o ho n).2, DAt.to q fun u hu => (k a u hu n).1, RepK.tr k r⟩
theorem RepL.tr {N N' : Ms} {H H' : Hp} (k : ∀ a o, H a = some o → ¬ N a → H' a = some o ∧ ¬ N' a) : ∀ {ds : List D} {vs : List V}, RepL N H ds vs → RepL N' H' ds vs
  | [], _, h => by
    rw [RepL] at h ⊢
    exact h
  | _ :: _, _, h => by
    rw [RepL] at h ⊢
    obtain ⟨v, r, e, h1, h2⟩ := h
    exact ⟨v, r, e, Rep.tr k h1, RepL.tr k h2⟩
theorem RepK.tr {N N' : Ms} {H H' : Hp} (k : ∀ a o, H a = some o → ¬ N a → H' a = some o ∧ ¬ N' a) : ∀ {ds : List (D × D)} {ks vs : List V}, RepK N H ds ks vs → RepK N' H' ds ks vs
  | [], _, _, h => by
    rw [RepK] at h ⊢
    exact h
  | (_, _) :: _, _, _, h => by
    rw [RepK] at h ⊢
    obtain ⟨u, t, v, r, e1, e2, h1, h2, h3⟩ := h
    exact ⟨u, t, v, r, e1, e2, Rep.tr k h1, Rep.tr k h2, RepK.tr k h3⟩
end
section
variable {N N' : Ms} {H H' : Hp} {d : D} {v : V} {ds : List D} {vs : List V} {p : Addr}
theorem Rep.keep (h : Rep N H d v) (k : Keep N H H') : Rep N H' d v := h.tr fun a o e n => ⟨k a o e n, n⟩
theorem RepL.keep (h : RepL N H ds vs) (k : Keep N H H') : RepL N H' ds vs := h.tr fun a o e n => ⟨k a o e n, n⟩
theorem Rep.anti (h : Rep N H d v) (k : ∀ a, N' a → N a) : Rep N' H d v := h.tr fun a o e n => ⟨e, fun z => n (k a z)⟩
theorem RepL.anti (h : RepL N H ds vs) (k : ∀ a, N' a → N a) : RepL N' H ds vs := h.tr fun a o e n => ⟨e, fun z => n (k a z)⟩
def addM (N : Ms) (p : Addr) : Ms := fun b => N b ∨ b = p
theorem Rep.plus (h : Rep N H d v) (hp : H p = none) : Rep (addM N p) H d v := h.tr fun a o e n => ⟨e, fun z => z.elim n (ne_of_none e hp)⟩
theorem RepL.plus (h : RepL N H ds vs) (hp : H p = none) : RepL (addM N p) H ds vs := h.tr fun a o e n => ⟨e, fun z => z.elim n (ne_of_none e hp)⟩
theorem RepL.length : ∀ {ds : List D} {vs : List V}, RepL N H ds vs → vs.length = ds.length
  | [], _, h => by
    rw [RepL] at h
    subst h
    rfl
  | _ :: _, _, h => by
    rw [RepL] at h
    obtain ⟨v, r, rfl, _, h2⟩ := h
    rw [List.length_cons, List.length_cons, RepL.length h2]
theorem RepL.get : ∀ {ds : List D} {vs : List V} {i : Nat} {d : D}, RepL N H ds vs → ds[i]? = some d → ∃ v, vs[i]? = some v ∧ Rep N H d v
  | [], _, _, _, _, e => by simp at e
  | x :: r, _, 0, d, h, e => by
    rw [RepL] at h
    obtain ⟨v, t, rfl, h1, _⟩ := h
    have e' : x = d := by simpa using e
    subst e'
    exact ⟨v, rfl, h1⟩
  | x :: r, _, i + 1, d, h, e => by
    rw [RepL] at h
    obtain ⟨v, t, rfl, _, h2⟩ := h
    obtain ⟨w, e1, e2⟩ := RepL.get (i := i) h2 (by simpa using e)
    exact ⟨w, by simpa using e1, e2⟩
theorem RepL.cons (h : Rep N H d v) (t : RepL N H ds vs) : RepL N H (d :: ds) (v :: vs) := by
  rw [RepL]
  exact ⟨v, vs, rfl, h, t⟩
theorem RepL.nil : RepL N H [] [] := by rw [RepL]
theorem RepL.append {es : List D} {ws : List V} (h2 : RepL N H es ws) : ∀ {ds : List D} {vs : List V}, RepL N H ds vs → RepL N H (ds ++ es) (vs ++ ws)
  | [], _, h => by
    rw [RepL] at h
    subst h
    exact h2
  | _ :: _, _, h => by
    rw [RepL] at h
    obtain ⟨v, r, rfl, h1, h3⟩ := h
    exact .cons h1 (RepL.append h2 h3)
theorem RepL.take : ∀ {ds : List D} {vs : List V} (n : Nat), RepL N H ds vs → RepL N H (ds.take n) (vs.take n)
  | _, _, 0, _ => by
    rw [List.take_zero, List.take_zero]
    exact .nil
  | [], _, n + 1, h => by
    rw [RepL] at h
    subst h
    exact .nil
  | _ :: _, _, n + 1, h => by
    rw [RepL] at h
    obtain ⟨v, r, rfl, h1, h3⟩ := h
    exact .cons h1 (RepL.take n h3)
theorem RepL.drop : ∀ {ds : List D} {vs : List V} (n : Nat), RepL N H ds vs → RepL N H (ds.drop n) (vs.drop n)
  | _, _, 0, h => h
  | [], _, n + 1, h => by
    rw [RepL] at h
    subst h
    exact .nil
  | _ :: _, _, n + 1, h => by
    rw [RepL] at h
    obtain ⟨v, r, rfl, h1, h3⟩ := h
    exact RepL.drop n h3
theorem RepL.rev : ∀ {ds : List D} {vs : List V}, RepL N H ds vs → RepL N H ds.reverse vs.reverse
  | [], _, h => by
    rw [RepL] at h
    subst h
    exact .nil
  | _ :: _, _, h => by
    rw [RepL] at h
    obtain ⟨v, r, rfl, h1, h3⟩ := h
    rw [List.reverse_cons, List.reverse_cons]
    exact RepL.append (.cons h1 .nil) (RepL.rev h3)
theorem RepL.ints : ∀ {ds : List D} {vs : List V} {ns : List Int}, RepL N H ds vs → intsOf ds = some ns → vs = ns.map V.int ∧ ds = ns.map PyData.int
  | [], _, _, h, e => by
    rw [RepL] at h
    have e' : [] = _ := Option.some.inj (show some [] = some _ from e)
    subst e' h
    exact ⟨rfl, rfl⟩
  | x :: r, _, ns, h, e => by
    rw [RepL] at h
    obtain ⟨v, t, rfl, h1, h3⟩ := h
    cases x with
    | int i =>
      rw [Rep] at h1
      subst h1
      unfold intsOf at e
      cases q : intsOf r with
      | none => rw [q] at e; cases e
      | some ms =>
        rw [q] at e
        have e' : i :: ms = ns := Option.some.inj e
        subst e'
        obtain ⟨rfl, rfl⟩ := RepL.ints h3 q
        exact ⟨rfl, rfl⟩
    | _ => cases e
theorem RepL.bools : ∀ {ds : List D} {vs : List V} {bs : List Bool}, RepL N H ds vs → boolsOf ds = some bs → vs = bs.map V.bl
  | [], _, _, h, e => by
    rw [RepL] at h
    have e' : [] = _ := Option.some.inj (show some [] = some _ from e)
    subst e' h
    rfl
  | x :: r, _, ns, h, e => by
    rw [RepL] at h
    obtain ⟨v, t, rfl, h1, h3⟩ := h
    cases x with
    | bool i =>
      rw [Rep] at h1
      subst h1
      unfold boolsOf at e
      cases q : boolsOf r with
      | none => rw [q] at e; cases e
      | some ms =>
        rw [q] at e
        have e' : i :: ms = ns := Option.some.inj e
        subst e'
        have z := RepL.bools h3 q
        subst z
        rfl
    | _ => cases e
theorem RepL.of_get : ∀ {ds : List D} {vs : List V}, ds.length = vs.length → (∀ (i : Nat) d v, ds[i]? = some d → vs[i]? = some v → Rep N H d v) → RepL N H ds vs
  | [], [], _, _ => .nil
  | [], _ :: _, e, _ => by cases e
  | _ :: _, [], e, _ => by cases e
  | d :: ds, v :: vs, e, h => .cons (h 0 d v rfl rfl) (RepL.of_get (by simpa using e) fun i d' v' h1 h2 => h (i + 1) d' v' (by simpa using h1) (by simpa using h2))
end

/-- Rep, where the list or dict itself may be in N -/
def Top (N : Ms) (H : Hp) : D → V → Prop
  | .list ds, v => ds.length ≤ LINE ∧ ∃ a vs, v = .ref a ∧ H a = some (.lst vs) ∧ RepL N H ds vs
  | .dict kvs, v => kvs.length ≤ LINE ∧ ∃ a ks vs, v = .ref a ∧ DAt H a (toKeys (kvs.map (·.1))) ks vs ∧ RepK N H kvs ks vs
  | d, v => Rep N H d v
theorem Rep.top {N : Ms} {H : Hp} {d : D} {v : V} (h : Rep N H d v) : Top N H d v := by
  cases d with
  | list ds =>
    rw [Rep] at h
    obtain ⟨z, a, vs, e, _, q⟩ := h
    exact ⟨z, a, vs, e, q⟩
  | dict ds =>
    rw [Rep] at h
    obtain ⟨z, a, ks, vs, e, _, q⟩ := h
    exact ⟨z, a, ks, vs, e, q⟩
  | _ => exact h
theorem Top.rep {N N' : Ms} {H : Hp} {d : D} {v : V} (h : Top N H d v) (w : ∀ a, N' a → N a) (k : isMut d = true → ∀ a, v = .ref a → ¬ N' a) : Rep N' H d v := by
  cases d with
  | list ds =>
    obtain ⟨z, a, vs, e, q, r⟩ := h
    rw [Rep]
    exact ⟨z, a, vs, e, k rfl a e, q, r.anti w⟩
  | dict ds =>
    obtain ⟨z, a, ks, vs, e, q, r⟩ := h
    rw [Rep]
    exact ⟨z, a, ks, vs, e, k rfl a e, q, RepK.tr (fun a o e n => ⟨e, fun z => n (w a z)⟩) r⟩
  | none => exact Rep.anti h w
  | bool _ => exact Rep.anti h w
  | int _ => exact Rep.anti h w
  | str _ => exact Rep.anti h w
  | tuple _ => exact Rep.anti h w
theorem Top.tr {N N' : Ms} {H H' : Hp} {d : D} {v : V} (h : Top N H d v) (k : ∀ a o, H a = some o → ¬ N a → H' a = some o ∧ ¬ N' a) (m : isMut d = true → ∀ a o, v = .ref a → H a = some o → H' a = some o) : Top N' H' d v := by
  cases d with
  | list ds =>
    obtain ⟨z, a, vs, e, q, r⟩ := h
    exact ⟨z, a, vs, e, m rfl a _ e q, r.tr k⟩
  | dict ds =>
    obtain ⟨z, a, ks, vs, e, q, r⟩ := h
    exact ⟨z, a, ks, vs, e, DAt.to q fun o ho => m rfl a o e ho, r.tr k⟩
  | none => exact Rep.tr k h
  | bool _ => exact Rep.tr k h
  | int _ => exact Rep.tr k h
  | str _ => exact Rep.tr k h
  | tuple _ => exact Rep.tr k h
theorem Top.anti {N N' : Ms} {H : Hp} {d : D} {v : V} (h : Top N H d v) (k : ∀ a, N' a → N a) : Top N' H d v := h.tr (fun a o e n => ⟨e, fun z => n (k a z)⟩) fun _ _ _ _ e => e

/-! ### the source -/
def SrcOk (H : Hp) (sa : Addr × Addr) (g : PState) : Prop :=
  H sa.1 = some (.dK [(.inr "cells", .ref sa.2), (.inr "left", .int g.left), (.inr "mixed", .int g.mixed), (.inr "turn", .int g.turn)]) ∧ H sa.2 = some (.lst (g.cells.map V.int)) ∧ sa.1 ≠ sa.2
theorem SrcOk.there {H : Hp} {sa : Addr × Addr} {g : PState} (h : SrcOk H sa g) {a : Addr} (ha : isS sa a) : H a ≠ none := by
  rcases ha with e | e
  · rw [e, h.1]; exact fun z => by cases z
  · rw [e, h.2.1]; exact fun z => by cases z

/-! ### the state of a def's body -/
def SlOk (M0 : Ms) (sa : Addr × Addr) (N : Ms) (H : Hp) : Sl → V → Prop
  | .src, v => v = .ref sa.1
  | .d false x, v => Rep N H x v
  | .d true x, v => Top N H x v ∧ (isMut x = true → ∃ a, v = .ref a ∧ N a ∧ ¬ M0 a)
/-- slot i owns the object at a -/
def Own (ρ : Rho) (σ : St) (i : Nat) (a : Addr) : Prop := ∃ x, ρ[i]? = some (some (.d true x)) ∧ isMut x = true ∧ σ[i]? = some (some (.ref a))
structure StOk (M0 : Ms) (sa : Addr × Addr) (N : Ms) (H : Hp) (σ : St) (ρ : Rho) (g : PState) : Prop where
  len : ρ.length = σ.length
  slot : ∀ (i : Nat) (s : Sl), ρ[i]? = some (some s) → ∃ v, σ[i]? = some (some v) ∧ SlOk M0 sa N H s v
  inj : ∀ (i j : Nat) (a : Addr), Own ρ σ i a → Own ρ σ j a → i = j
  sub : ∀ a, M0 a → N a
  srcIn : ∀ a, isS sa a → M0 a
  mt : ∀ a, N a → H a ≠ none
  src : SrcOk H sa g
/-- N without what the slots own -/
def less (N : Ms) (ρ : Rho) (σ : St) (is : List Nat) : Ms := fun a => N a ∧ ¬ ∃ i, i ∈ is ∧ Own ρ σ i a
theorem less_sub {N : Ms} {ρ : Rho} {σ : St} {is : List Nat} {a : Addr} (h : less N ρ σ is a) : N a := h.1
theorem less_mono {N : Ms} {ρ : Rho} {σ : St} {is js : List Nat} (w : ∀ i, i ∈ is → i ∈ js) {a : Addr} (h : less N ρ σ js a) : less N ρ σ is a := ⟨h.1, fun ⟨i, hi, o⟩ => h.2 ⟨i, w i hi, o⟩⟩
theorem less_nil {N : Ms} {ρ : Rho} {σ : St} {a : Addr} (h : N a) : less N ρ σ [] a := ⟨h, fun ⟨i, hi, _⟩ => by cases hi⟩
section
variable {M0 N : Ms} {sa : Addr × Addr} {H H' : Hp} {σ : St} {ρ : Rho} {g g' : PState}
theorem StOk.own (S : StOk M0 sa N H σ ρ g) {i : Nat} {a : Addr} (o : Own ρ σ i a) : N a ∧ ¬ M0 a := by
  obtain ⟨x, h1, h2, h3⟩ := o
  obtain ⟨v, h4, h5⟩ := S.slot i _ h1
  rw [h3] at h4
  have e : V.ref a = v := Option.some.inj (Option.some.inj h4)
  subst e
  obtain ⟨b, e, q⟩ := h5.2 h2
  cases e
  exact q
theorem StOk.lessSub (S : StOk M0 sa N H σ ρ g) {is : List Nat} {a : Addr} (h : M0 a) : less N ρ σ is a := ⟨S.sub a h, fun ⟨i, _, o⟩ => (S.own o).2 h⟩
theorem StOk.ext (S : StOk M0 sa N H σ ρ g) (k : Keep (isS sa) H H') (q : SrcOk H' sa g') : StOk M0 sa N H' σ ρ g' := by
  have kN : ∀ a o, H a = some o → ¬ N a → H' a = some o ∧ ¬ N a := fun a o e n => ⟨k a o e fun z => n (S.sub a (S.srcIn a z)), n⟩
  refine ⟨S.len, fun i s e => ?_, S.inj, S.sub, S.srcIn, fun a h => ?_, q⟩
  · obtain ⟨v, e1, e2⟩ := S.slot i s e
    refine ⟨v, e1, ?_⟩
    cases s with
    | src => exact e2
    | d b x =>
      cases b with
      | false => exact Rep.tr kN e2
      | true =>
        refine ⟨e2.1.tr kN fun m a o ev ho => ?_, e2.2⟩
        obtain ⟨b, e3, h1, h2⟩ := e2.2 m
        rw [ev] at e3
        cases e3
        exact k a o ho fun z => h2 (S.srcIn a z)
  · by_cases hs : isS sa a
    · exact q.there hs
    · cases e : H a with
      | none => exact absurd e (S.mt a h)
      | some o =>
        rw [k a o e hs]
        exact fun z => by cases z
end
end DT

/-! What an expression is to give; operations on values. -/
namespace DT
open PySem L2 PyProof.Rows

/-! ### results -/
/-- the value of the expression x, at the heap H' -/
structure Vo (sa : Addr × Addr) (N : Ms) (ρ : Rho) (σ : L2.St) (x : Ex) (H' : Hp) (d : D) (v : V) : Prop where
  top : Top (less N ρ σ (esi x)) H' d v
  al : isMut d = true → ∀ a, v = .ref a → N a → ∃ i, i ∈ ael x ∧ Own ρ σ i a
  nos : isMut d = true → ∀ a, v = .ref a → ¬ isS sa a
structure Res (sa : Addr × Addr) (N : Ms) (ρ : Rho) (σ : L2.St) (x : Ex) (H : Hp) (g : PState) (d : D) (v : V) (H' : Hp) : Prop where
  keep : Keep (isS sa) H H'
  src : SrcOk H' sa g
  vo : Vo sa N ρ σ x H' d v
  fr : fresh x = true → isMut d = true → ∃ a, v = .ref a ∧ H a = none ∧ Top (addM (less N ρ σ (esi x)) a) H' d v

section
variable {M0 N : Ms} {sa : Addr × Addr} {H H1 H' : Hp} {σ : L2.St} {ρ : Rho} {g g' : PState} {x y : Ex} {d : D} {v : V} {p : Addr}
theorem Vo.rep (o : Vo sa N ρ σ x H' d v) : Rep (less N ρ σ (esc x)) H' d v :=
  o.top.rep (fun _ h => less_mono (fun _ hi => List.mem_append_left _ hi) h) fun m a e n => by
    obtain ⟨i, hi, w⟩ := o.al m a e n.1
    exact n.2 ⟨i, List.mem_append_right _ hi, w⟩
theorem Vo.keep (o : Vo sa N ρ σ x H d v) (S : ∀ a, isS sa a → N a) (s0 : ∀ i a, Own ρ σ i a → ¬ isS sa a) (k : Keep (isS sa) H H') : Vo sa N ρ σ x H' d v := by
  refine ⟨o.top.tr (fun a u e n => ⟨k a u e fun z => n ⟨S a z, fun ⟨i, _, w⟩ => s0 i a w z⟩, n⟩) fun m a u e hu => k a u hu (o.nos m a e), o.al, o.nos⟩
theorem StOk.nos (S : StOk M0 sa N H σ ρ g) : ∀ i a, Own ρ σ i a → ¬ isS sa a := fun _ a o z => (S.own o).2 (S.srcIn a z)
theorem StOk.sS (S : StOk M0 sa N H σ ρ g) : ∀ a, isS sa a → N a := fun a z => S.sub a (S.srcIn a z)
theorem StOk.vo (S : StOk M0 sa N H σ ρ g) (o : Vo sa N ρ σ x H1 d v) (k : Keep (isS sa) H1 H') : Vo sa N ρ σ x H' d v := o.keep S.sS S.nos k
theorem StOk.noN (S : StOk M0 sa N H σ ρ g) (hp : H p = none) : ¬ N p := fun z => S.mt p z hp
theorem Res.back (r : Res sa N ρ σ x H1 g d v H') (k : Keep (isS sa) H H1) (q : SrcOk H1 sa g') : Res sa N ρ σ x H g d v H' :=
  ⟨k.trans r.keep, r.src, r.vo, fun f m => by
    obtain ⟨a, e, n, t⟩ := r.fr f m
    exact ⟨a, e, k.free n fun z => q.there z n, t⟩⟩
theorem Vo.of_rep (h : Rep (less N ρ σ (esi x)) H' d v) (S : StOk M0 sa N H σ ρ g) (n : isMut d = true → ∀ a, v = .ref a → ¬ N a) : Vo sa N ρ σ x H' d v :=
  ⟨h.top, fun m a e z => (n m a e z).elim, fun m a e z => n m a e (S.sS a z)⟩
theorem Res.atom (S : StOk M0 sa N H σ ρ g) (m : isMut d = false) (r : Rep (less N ρ σ (esi x)) H d v) : Res sa N ρ σ x H g d v H :=
  ⟨.refl, S.src, .of_rep r S fun z => (by rw [m] at z; cases z), fun _ z => (by rw [m] at z; cases z)⟩
theorem Res.bl (S : StOk M0 sa N H σ ρ g) (b : Bool) : Res sa N ρ σ x H g (.bool b) (.bl b) H := .atom S rfl (by rw [Rep])
theorem Res.int (S : StOk M0 sa N H σ ρ g) (i : Int) : Res sa N ρ σ x H g (.int i) (.int i) H := .atom S rfl (by rw [Rep])
theorem Res.str (S : StOk M0 sa N H σ ρ g) (z : Str) : Res sa N ρ σ x H g (.str z) (.str z) H := .atom S rfl (by rw [Rep])
theorem SrcOk.upd {o : HO} (q : SrcOk H sa g) (hp : H p = none) : SrcOk (upd H p o) sa g := by
  refine ⟨?_, ?_, q.2.2⟩
  · rw [upd_ne (ne_of_none q.1 hp)]
    exact q.1
  · rw [upd_ne (ne_of_none q.2.1 hp)]
    exact q.2.1
theorem Res.tup {ds : List D} {vs : List V} {o : Obj} (ho : o.dict = none) (S : StOk M0 sa N H σ ρ g) (hp : H p = none) (r : RepL (less N ρ σ (esi x)) H ds vs) (hl : ds.length ≤ LINE) : Res sa N ρ σ x H g (.tuple ds) (.ref p) (upd H p (tupO o vs)) := by
  refine ⟨.new hp, S.src.upd hp, ⟨?_, fun z => (by cases z), fun z => (by cases z)⟩, fun _ z => (by cases z)⟩
  show Rep _ _ _ _
  rw [Rep]
  exact ⟨hl, p, vs, rfl, fun z => S.noN hp z.1, .new ho, r.keep (.new hp)⟩
theorem Res.lst {ds : List D} {vs : List V} (S : StOk M0 sa N H σ ρ g) (hp : H p = none) (r : RepL (less N ρ σ (esi x)) H ds vs) (hl : ds.length ≤ LINE) : Res sa N ρ σ x H g (.list ds) (.ref p) (upd H p (.lst vs)) := by
  refine ⟨.new hp, S.src.upd hp, ⟨⟨hl, p, vs, rfl, upd_same, r.keep (.new hp)⟩, fun _ a e z => ?_, fun _ a e z => ?_⟩, fun _ _ => ⟨p, rfl, hp, ⟨hl, p, vs, rfl, upd_same, (r.plus hp).keep (.new hp)⟩⟩⟩
  · cases e
    exact (S.noN hp z).elim
  · cases e
    exact S.noN hp (S.sS _ z)
end

/-! ### what is read as data -/
mutual
theorem Rep.dp {K : PySem.W.Frag} {N : Ms} {H : Hp} : ∀ {d : D} {v : V}, d.canLay0 = true → Rep N H d v → Dp K H v d
  | .none, _, _, h => by
    rw [Rep] at h
    subst h
    exact .non
  | .bool _, _, _, h => by
    rw [Rep] at h
    subst h
    exact .bl _
  | .int _, _, _, h => by
    rw [Rep] at h
    subst h
    exact .int _
  | .str _, _, _, h => by
    rw [Rep] at h
    subst h
    exact .str _
  | .list ds, _, c, h => by
    rw [Rep] at h
    obtain ⟨_, a, vs, rfl, _, e, r⟩ := h
    exact .lst (.of e) (RepL.dp (by simpa only [PyData.canLay0] using c) r)
  | .tuple ds, _, c, h => by
    rw [Rep] at h
    obtain ⟨_, a, vs, rfl, _, e, r⟩ := h
    exact .tup e.sq (RepL.dp (by simpa only [PyData.canLay0] using c) r)
  | .dict _, _, c, _ => by simp [PyData.canLay0] at c
theorem RepL.dp {K : PySem.W.Frag} {N : Ms} {H : Hp} : ∀ {ds : List D} {vs : List V}, PyData.canLayAll0 ds = true → RepL N H ds vs → DpAll K H vs ds
  | [], _, _, h => by
    rw [RepL] at h
    subst h
    exact .nil
  | d :: ds, _, c, h => by
    rw [RepL] at h
    obtain ⟨v, r, rfl, h1, h2⟩ := h
    have c' : d.canLay0 = true ∧ PyData.canLayAll0 ds = true := by simpa only [PyData.canLayAll0, Bool.and_eq_true] using c
    exact .cons (Rep.dp c'.1 h1) (RepL.dp c'.2 h2)
end
theorem Top.dp {K : PySem.W.Frag} {N : Ms} {H : Hp} {d : D} {v : V} (c : d.canLay0 = true) (h : Top N H d v) : Dp K H v d := by
  cases d with
  | list ds =>
    obtain ⟨_, a, vs, rfl, e, r⟩ := h
    exact .lst (.of e) (r.dp (by simpa only [PyData.canLay0] using c))
  | dict ds => simp [PyData.canLay0] at c
  | none => exact Rep.dp (N := N) c h
  | bool _ => exact Rep.dp (N := N) c h
  | int _ => exact Rep.dp (N := N) c h
  | str _ => exact Rep.dp (N := N) c h
  | tuple _ => exact Rep.dp (N := N) c h
theorem Top.int {N : Ms} {H : Hp} {i : Int} {v : V} (h : Top N H (.int i) v) : v = .int i := by
  have h' : Rep N H (.int i) v := h
  rw [Rep] at h'
  exact h'
theorem Top.bl {N : Ms} {H : Hp} {i : Bool} {v : V} (h : Top N H (.bool i) v) : v = .bl i := by
  have h' : Rep N H (.bool i) v := h
  rw [Rep] at h'
  exact h'
theorem Top.non {N : Ms} {H : Hp} {v : V} (h : Top N H .none v) : v = .non := by
  have h' : Rep N H .none v := h
  rw [Rep] at h'
  exact h'
theorem Top.str {N : Ms} {H : Hp} {z : Str} {v : V} (h : Top N H (.str z) v) : v = .str z := by
  have h' : Rep N H (.str z) v := h
  rw [Rep] at h'
  exact h'
theorem Top.tup {N : Ms} {H : Hp} {ds : List D} {v : V} (h : Top N H (.tuple ds) v) : ds.length ≤ LINE ∧ ∃ a vs, v = .ref a ∧ ¬ N a ∧ TupAt H a vs ∧ RepL N H ds vs := by
  have h' : Rep N H (.tuple ds) v := h
  rw [Rep] at h'
  exact h'

/-! ### operators by values -/
def bop : BOp → Operator
  | .add => .Add
  | .sub => .Sub
  | .mul => .Mult
  | .fdiv => .FloorDiv
  | .mod => .Mod
  | .pow => .Pow
  | .shl => .LShift
def cop : COp → CmpOp
  | .lt => .Lt
  | .le => .LtE
  | .gt => .Gt
  | .ge => .GtE
  | .eq => .Eq
  | .ne => .NotEq
  | .is => .Is
  | .isnt => .IsNot
  | .mem => .In
  | .nmem => .NotIn
theorem if_some {α : Type} {b : Bool} {x y : α} (h : (if b = true then some x else none) = some y) : b = true ∧ x = y := by
  cases b with
  | false => cases h
  | true => exact ⟨rfl, Option.some.inj h⟩
section
variable {X : Cx} {pins : List (Addr × Obj)} {s : Shared} {M0 N : Ms} {sa : Addr × Addr} {H : Hp} {σ τ : L2.St} {ρ : Rho} {g : PState} {xa xb : Ex} {dx dy d : D} {x y : V} {v u : Value} {Q : VK}
theorem op_fdivX {X : Cx} : OpR X (binaryOp .FloorDiv) (rI (fun i j => j ≠ 0 ∧ j.natAbs < 2 ^ 512) fun i j => .int (i.fdiv j)) := opI fun _ j _ _ _ _ _ hc q => floordiv_int hc.1 q (.inl (PyProof.noPylong_of_log2 (Nat.lt_of_lt_of_le ((Nat.log2_lt (n := j.natAbs) (k := 512) (fun z => hc.1 (Int.natAbs_eq_zero.mp z))).mpr hc.2) (by decide))))
theorem bin_val {o : BOp} (I : Inv X pins τ H s) (rx : RelV x v) (ry : RelV y u) (S : StOk M0 sa N H σ ρ g) (hx : Vo sa N ρ σ xa H dx x) (hy : Vo sa N ρ σ xb H dy y) (e : binD o dx dy = some d)
    (q : ∀ w H', Res sa N ρ σ (.bin o xa xb) H g d w H' → Q w H') : wpAny (model X.prog X.w) X.A (binaryOp (bop o) v u) (EP X pins τ Q) X.xe s := by
  unfold binD at e
  split at e
  · obtain rfl := hx.top.int
    obtain rfl := hy.top.int
    obtain rfl := Option.some.inj e
    exact op_add pins s τ H _ _ v u Q I rx ry ⟨_, _, rfl, rfl, q _ H (.int S _)⟩
  · rename_i xs ys
    obtain ⟨c, rfl⟩ := if_some e
    have hl : (xs ++ ys).length ≤ LINE := of_decide_eq_true c
    obtain ⟨l1, a, vs, rfl, n1, h1, r1⟩ := hx.top.tup
    obtain ⟨l2, b, ws, rfl, n2, h2, r2⟩ := hy.top.tup
    have e1 := r1.length
    have e2 := r2.length
    have r1' : RepL (less N ρ σ (esi (.bin .add xa xb))) H xs vs := r1.anti fun _ h => less_mono (fun _ hi => List.mem_append_left _ hi) h
    have r2' : RepL (less N ρ σ (esi (.bin .add xa xb))) H ys ws := r2.anti fun _ h => less_mono (fun _ hi => List.mem_append_right _ hi) h
    cases rx
    cases ry
    obtain ⟨ia, va, pa, _⟩ := I.tuple (h1.sq (K := X.K))
    obtain ⟨ib, vb, pb, _⟩ := I.tuple (h2.sq (K := X.K))
    have hz : (vs ++ ws).length ≤ sizeLine := by
      rw [List.length_append, e1, e2, ← List.length_append]
      exact hl
    by_cases z : vs = []
    · subst z
      cases va
      have : xs = [] := List.length_eq_zero_iff.mp e1.symm
      subst this
      refine cat_tup0 pa pb ⟨.ref b, H, I, rfl, q _ H (.atom S rfl ?_)⟩
      rw [Rep]
      exact ⟨l2, b, ws, rfl, fun z => n2 (less_mono (fun _ hi => List.mem_append_right _ hi) z), h2, r2'⟩
    refine HT.cat_tup pa pb (fun y => z (va.nil_iff.mp y)) (fun y => ⟨.ref a, H, I, rfl, ?_⟩) (fun y => ?_) (by rw [← va.length, ← vb.length, ← List.length_append]; exact hz)
    · have : ws = [] := vb.nil_iff.mp y
      subst this
      have : ys = [] := List.length_eq_zero_iff.mp e2.symm
      subst this
      refine q _ H (.atom S rfl ?_)
      rw [Rep, List.append_nil]
      exact ⟨l1, a, vs, rfl, fun z => n1 (less_mono (fun _ hi => List.mem_append_left _ hi) z), h1, r1'⟩
    · refine ⟨.ref s.heap.objs.size, _, I.laid (t' := s.toks) (o := tupO (tupN (ia ++ ib)) (vs ++ ws)) (fun b ob q => Heap.get?_push_of_some _ q) (Nat.le_refl _) (objOk_tup hz (va.append vb) (Heap.get?_push_size _ rfl)), rfl, q _ _ (.tup rfl S (I.hok.fresh (Nat.le_refl _)) (RepL.append r2' r1') hl)⟩
  · rename_i xs ys
    obtain ⟨c, rfl⟩ := if_some e
    have hl : (xs ++ ys).length ≤ LINE := of_decide_eq_true c
    obtain ⟨l1, a, vs, rfl, h1, r1⟩ := hx.top
    obtain ⟨l2, b, ws, rfl, h2, r2⟩ := hy.top
    have e1 := r1.length
    have e2 := r2.length
    have r1' : RepL (less N ρ σ (esi (.bin .add xa xb))) H xs vs := r1.anti fun _ h => less_mono (fun _ hi => List.mem_append_left _ hi) h
    have r2' : RepL (less N ρ σ (esi (.bin .add xa xb))) H ys ws := r2.anti fun _ h => less_mono (fun _ hi => List.mem_append_right _ hi) h
    refine op_cat pins s τ H _ _ v u Q I rx ry ⟨a, b, vs, ws, rfl, rfl, h1, h2, ?_, fun p hp => q _ _ (.lst S hp (RepL.append r2' r1') hl)⟩
    rw [e1, e2, ← List.length_append]
    exact hl
  · obtain rfl := hx.top.int
    obtain rfl := hy.top.int
    obtain rfl := Option.some.inj e
    exact op_sub pins s τ H _ _ v u Q I rx ry ⟨_, _, rfl, rfl, q _ H (.int S _)⟩
  · obtain rfl := hx.top.int
    obtain rfl := hy.top.int
    obtain ⟨c, rfl⟩ := if_some e
    refine op_mul pins s τ H _ _ v u Q I rx ry ⟨_, _, rfl, rfl, ?_, q _ H (.int S _)⟩
    simpa [wid, CMul] using c
  · obtain rfl := hx.top.int
    obtain rfl := hy.top.int
    obtain ⟨c, rfl⟩ := if_some e
    refine op_fdivX pins s τ H _ _ v u Q I rx ry ⟨_, _, rfl, rfl, ?_, q _ H (.int S _)⟩
    rw [Bool.and_eq_true] at c
    exact ⟨of_decide_eq_true c.1, of_decide_eq_true c.2⟩
  · rename_i i j
    obtain rfl := hx.top.int
    obtain rfl := hy.top.int
    by_cases c : j ≠ 0
    · rw [if_pos c] at e
      obtain rfl := Option.some.inj e
      exact op_modN pins s τ H _ _ v u Q I rx ry ⟨_, _, rfl, rfl, c, q _ H (.int S _)⟩
    · rw [if_neg c] at e
      cases e
  · obtain rfl := hx.top.int
    obtain rfl := hy.top.int
    obtain ⟨c, rfl⟩ := if_some e
    refine op_pow pins s τ H _ _ v u Q I rx ry ⟨_, _, rfl, rfl, ?_, q _ H (.int S _)⟩
    simpa [CPow] using c
  · obtain rfl := hx.top.int
    obtain rfl := hy.top.int
    obtain ⟨c, rfl⟩ := if_some e
    refine op_shl pins s τ H _ _ v u Q I rx ry ⟨_, _, rfl, rfl, ?_, q _ H (.int S _)⟩
    simpa [CPow] using c
  · cases e
end
end DT

/-! Dicts whose keys are tuples of whole numbers: what stands in the machine's heap. -/
namespace DT
open PySem L2 PyProof.Rows
section
variable {X : Cx} {pins : List (Addr × Obj)} {s : Shared} {N N' : Ms} {H : Hp} {τ : L2.St} {a : Addr} {kvs : List (D × D)} {ks vs : List V}
mutual
theorem rep_key (I : Inv X pins τ H s) : ∀ (d : D) (v : V) (u : Value), keyOk d = true → Rep N H d v → RelV v u → NestedIs s.heap (toKey d) u
  | .int i, v, u, _, h, r => by
    rw [Rep] at h
    subst h
    obtain ⟨t, rfl⟩ := r
    exact .int i t
  | .tuple ds, v, u, k, h, r => by
    rw [Rep] at h
    obtain ⟨_, a, vs, rfl, _, ht, hl⟩ := h
    cases r
    obtain ⟨its, rv, ⟨o, e, c, n, dd⟩, _⟩ := I.tuple (ht.sq (K := X.K))
    have k' : keysOk ds = true := by simpa only [keyOk] using k
    exact .tup e c dd (rep_keys I ds vs its.toArray.toList k' hl (by simpa using rv))
  | .none, _, _, k, _, _ => by cases k
  | .bool _, _, _, k, _, _ => by cases k
  | .str _, _, _, k, _, _ => by cases k
  | .list _, _, _, k, _, _ => by cases k
  | .dict _, _, _, k, _, _ => by cases k
theorem rep_keys (I : Inv X pins τ H s) : ∀ (ds : List D) (vs : List V) (us : List Value), keysOk ds = true → RepL N H ds vs → Vals vs us → NestedAll s.heap (toKeys ds) us
  | [], _, _, _, h, r => by
    rw [RepL] at h
    subst h
    cases r
    exact .nil
  | d :: ds, _, _, k, h, r => by
    rw [RepL] at h
    obtain ⟨v, t, rfl, h1, h2⟩ := h
    cases r with
    | cons r1 r2 =>
      have k' : keyOk d = true ∧ keysOk ds = true := by simpa only [keysOk, Bool.and_eq_true] using k
      exact .cons (rep_key I d v _ k'.1 h1 r1) (rep_keys I ds t _ k'.2 h2 r2)
end
mutual
theorem numK_of : ∀ d : D, keyOk d = true → numK (toKey d) = true
  | .int i, _ => rfl
  | .tuple ds, k => by
    rw [toKey, numK]
    exact numKs_of ds (by simpa only [keyOk] using k)
  | .none, k => by cases k
  | .bool _, k => by cases k
  | .str _, k => by cases k
  | .list _, k => by cases k
  | .dict _, k => by cases k
theorem numKs_of : ∀ ds : List D, keysOk ds = true → numKs (toKeys ds) = true
  | [], _ => rfl
  | d :: ds, k => by
    have k' : keyOk d = true ∧ keysOk ds = true := by simpa only [keysOk, Bool.and_eq_true] using k
    rw [toKeys, numKs, numK_of d k'.1, numKs_of ds k'.2]
    rfl
end
theorem tupKD_ok {d : D} (h : tupKD d = true) : (∃ ds, d = .tuple ds) ∧ keyOk d = true ∧ (toKey d).depth ≤ 8 ∧ tupK (toKey d) = true := by
  obtain ⟨h1, h⟩ := Bool.and_eq_true_iff.mp h
  obtain ⟨h2, h3⟩ := Bool.and_eq_true_iff.mp h
  cases d with
  | tuple ds =>
    refine ⟨⟨ds, rfl⟩, h2, of_decide_eq_true h3, ?_⟩
    have z := numK_of _ h2
    rw [toKey] at z h3 ⊢
    rw [numK] at z
    exact Bool.and_eq_true_iff.mpr ⟨z, h3⟩
  | _ => cases h1
theorem entry_num {P P' : Program} {w w' : World} {x : NestedKey × Addr × Value} (h : numK x.1 = true) : entryOfKey (nestedKind P w) x = entryOfKey (nestedKind P' w') x := by
  unfold entryOfKey
  show (⟨x.1.hash w, _, _⟩ : DictEntry) = ⟨x.1.hash w', _, _⟩
  rw [hash_num w w' x.1 h]
theorem toKeys_map' (l : List D) : toKeys l = l.map toKey := by
  induction l with
  | nil => rfl
  | cons a l ih => rw [toKeys, ih, List.map_cons]
/-- keys and values of a dict, place by place -/
theorem RepK.length : ∀ {kvs : List (D × D)} {ks vs : List V}, RepK N H kvs ks vs → ks.length = kvs.length ∧ vs.length = kvs.length
  | [], _, _, h => by
    rw [RepK] at h
    obtain ⟨rfl, rfl⟩ := h
    exact ⟨rfl, rfl⟩
  | (k, d) :: r, _, _, h => by
    rw [RepK] at h
    obtain ⟨u, t, v, q, rfl, rfl, _, _, h3⟩ := h
    have z := RepK.length h3
    exact ⟨by rw [List.length_cons, List.length_cons, z.1], by rw [List.length_cons, List.length_cons, z.2]⟩
theorem RepK.get : ∀ {kvs : List (D × D)} {ks vs : List V} {i : Nat} {p : D × D}, RepK N H kvs ks vs → kvs[i]? = some p → ∃ u v, ks[i]? = some u ∧ vs[i]? = some v ∧ Rep N H p.1 u ∧ Rep N H p.2 v
  | [], _, _, _, _, _, e => by simp at e
  | (k, d) :: r, _, _, 0, p, h, e => by
    rw [RepK] at h
    obtain ⟨u, t, v, q, rfl, rfl, h1, h2, _⟩ := h
    obtain rfl := Option.some.inj (show some (k, d) = some p from e)
    exact ⟨u, v, rfl, rfl, h1, h2⟩
  | (k, d) :: r, _, _, i + 1, p, h, e => by
    rw [RepK] at h
    obtain ⟨u, t, v, q, rfl, rfl, _, _, h3⟩ := h
    obtain ⟨u', v', e1, e2, e3⟩ := RepK.get (i := i) h3 (by simpa using e)
    exact ⟨u', v', by simpa using e1, by simpa using e2, e3⟩
theorem krel_keys : ∀ {l : List (NestedKey × Addr × V)} {xs : List (NestedKey × Addr × Value)}, Paired KRel l xs → l.map (·.1) = xs.map (·.1) ∧ l.map (fun x => x.2.1) = xs.map (fun x => x.2.1) ∧ Vals (l.map (·.2.2)) (xs.map (·.2.2))
  | _, _, .nil => ⟨rfl, rfl, .nil⟩
  | _, _, .cons h t => by
    obtain ⟨h1, h2, h3⟩ := krel_keys t
    exact ⟨by rw [List.map_cons, List.map_cons, h1, h.1], by rw [List.map_cons, List.map_cons, h2, h.2.1], .cons h.2.2 h3⟩
/-- a dict of tuples in the machine's heap -/
theorem dict_raw (I : Inv X pins τ H s) (h : DAt H a (toKeys (kvs.map (·.1))) ks vs) (r : RepK N H kvs ks vs) (ht : (kvs.all fun p => tupKD p.1) = true) :
    ∃ xs : List (NestedKey × Addr × Value), s.heap.DictOfH (nestedKind X.prog X.w) a xs ∧ xs.map (·.1) = toKeys (kvs.map (·.1)) ∧ xs.map (fun x => V.ref x.2.1) = ks ∧ Vals vs (xs.map (·.2.2)) ∧ xs.length ≤ sizeLine ∧ (a == sysModules) = false := by
  rcases h with ⟨l, e, e1, e2, e3⟩ | ⟨l, e, e1, e2, e3⟩
  · have hk : kvs = [] := by
      cases kvs with
      | nil => rfl
      | cons p q =>
        exfalso
        rw [List.all_cons, Bool.and_eq_true] at ht
        obtain ⟨⟨ds, ed⟩, _⟩ := tupKD_ok ht.1
        rw [List.map_cons, toKeys, ed, toKey] at e1
        cases l with
        | nil => cases e1
        | cons y l =>
          rw [List.map_cons] at e1
          have z := (List.cons.inj e1).1
          cases hy : y.1 with
          | inl i => rw [hy] at z; cases z
          | inr i => rw [hy] at z; cases z
    subst hk
    have el : l = [] := by
      cases l with
      | nil => rfl
      | cons y l => cases e1
    subst el
    subst e2 e3
    obtain ⟨_, hs, ws, rl, o, es, ep, h1, h2, h3, h4, h5, h6⟩ := I.hok a _ e
    cases rl
    refine ⟨[], ⟨o, es, ep, h1, h2, h3, ?_, ⟨fun x hx => absurd hx List.not_mem_nil, List.nodup_nil⟩⟩, rfl, rfl, .nil, Nat.zero_le _, hs⟩
    have z : es.toList.length = 0 := by
      have := h5.length
      simpa using this
    rw [List.length_eq_zero_iff.mp z]
    rfl
  · obtain ⟨⟨hl, hs, o, es, ep, xs, h1, h2, h3, h4, rl, nd, tk⟩, _⟩ := I.hok a _ e
    obtain ⟨k1, k2, k3⟩ := krel_keys rl
    have len : l.length = xs.length := rl.length
    have e2' : xs.map (fun x => V.ref x.2.1) = ks := by
      rw [← e2]
      have := congrArg (List.map V.ref) k2
      rw [List.map_map, List.map_map] at this
      exact this.symm
    refine ⟨xs, ⟨o, es, ep, h1, h2, h3, h4 X.prog X.w, fun x hx => ?_, nd⟩, by rw [← k1, e1], e2', by rw [← e3]; exact k3, by rw [← len]; exact hl, hs⟩
    obtain ⟨i, hi⟩ := List.getElem?_of_mem hx
    have ek : (xs.map (·.1))[i]? = some x.1 := by rw [List.getElem?_map, hi]; rfl
    rw [← k1, e1, toKeys_map', List.getElem?_map] at ek
    obtain ⟨kd, hkd, ekd⟩ := Option.map_eq_some_iff.mp ek
    rw [List.getElem?_map] at hkd
    obtain ⟨p, hp, rfl⟩ := Option.map_eq_some_iff.mp hkd
    obtain ⟨u, v, u1, _, u3, _⟩ := r.get hp
    have u2 : ks[i]? = some (.ref x.2.1) := by
      rw [← e2', List.getElem?_map, hi]
      rfl
    obtain rfl := Option.some.inj (u1.symm.trans u2)
    obtain ⟨_, c1, c2, _⟩ := tupKD_ok (List.all_eq_true.mp ht p (List.mem_of_getElem? hp))
    refine ⟨?_, ?_⟩
    · rw [← ekd]
      exact rep_key I p.1 _ _ c1 u3 rfl
    · rw [← ekd]
      exact c2
/-- what is found under a key -/
theorem dGet_at {k : D} : ∀ {kvs : List (D × D)} {xs : List (NestedKey × Addr × Value)} {ks vs : List V}, RepK N H kvs ks vs → xs.map (·.1) = toKeys (kvs.map (·.1)) → Vals vs (xs.map (·.2.2)) →
    (dGet kvs k = none ∧ atKey xs (toKey k) = none) ∨ ∃ d v p, dGet kvs k = some d ∧ atKey xs (toKey k) = some p ∧ RelV v p.2 ∧ Rep N H d v
  | [], xs, _, _, h, e, _ => by
    cases xs with
    | nil => exact .inl ⟨rfl, rfl⟩
    | cons x xs => cases e
  | (k0, d0) :: r, xs, _, _, h, e, hv => by
    rw [RepK] at h
    obtain ⟨u, t, v, q, rfl, rfl, h1, h2, h3⟩ := h
    cases xs with
    | nil => cases e
    | cons x xs =>
      rw [List.map_cons, List.map_cons, toKeys] at e
      obtain ⟨e1, e2⟩ := List.cons.inj e
      rw [List.map_cons] at hv
      cases hv with
      | cons v1 v2 =>
        have e1' : x.1 = toKey k0 := e1
        by_cases c : toKey k0 = toKey k
        · refine .inr ⟨d0, v, x.2, ?_, ?_, v1, h2⟩
          · unfold dGet
            rw [List.find?_cons, decide_eq_true c]
            rfl
          · unfold atKey
            rw [List.find?_cons, decide_eq_true (e1'.trans c)]
            rfl
        · have := dGet_at (k := k) h3 e2 v2
          have g1 : dGet ((k0, d0) :: r) k = dGet r k := by
            unfold dGet
            rw [List.find?_cons, decide_eq_false c]
          have g2 : atKey (x :: xs) (toKey k) = atKey xs (toKey k) := by
            unfold atKey
            rw [List.find?_cons, decide_eq_false (fun z => c (e1'.symm.trans z))]
          rw [g1, g2]
          exact this
end
end DT

/-! Dicts: what is found under a key. -/
namespace DT
open PySem L2 PyProof.Rows
def keyI : D → Key
  | .int i => .inl i
  | .str x => .inr x
  | _ => .inl 0
section
variable {X : Cx} {pins : List (Addr × Obj)} {s : Shared} {N N' : Ms} {H : Hp} {τ : L2.St} {a : Addr} {kvs : List (D × D)} {ks vs : List V}
theorem kv_vals : ∀ {l : List (Key × V)} {ws : List (Key × Value)}, KV l ws → Vals (l.map (·.2)) (ws.map (·.2))
  | _, _, .nil => .nil
  | _, _, .cons h t => .cons h.2 (kv_vals t)
theorem kn_keys : ∀ {l : List (Key × V)} {kvs : List (D × D)}, l.map (fun p => kN p.1) = toKeys (kvs.map (·.1)) → (kvs.all fun p => isInt p.1) = true → l.map (·.1) = kvs.map fun p => keyI p.1
  | [], [], _, _ => rfl
  | [], _ :: _, e, _ => by cases e
  | _ :: _, [], e, _ => by cases e
  | y :: l, (k, d) :: r, e, h => by
    rw [List.all_cons, Bool.and_eq_true] at h
    rw [List.map_cons, List.map_cons, toKeys] at e
    obtain ⟨e1, e2⟩ := List.cons.inj e
    rw [List.map_cons, List.map_cons, kn_keys e2 h.2]
    congr 1
    cases k with
    | int i =>
      cases hy : y.1 with
      | inl j =>
        rw [hy] at e1
        have z : NestedKey.num j = NestedKey.num i := e1
        injection z with z
        rw [z]
        rfl
      | inr j =>
        rw [hy] at e1
        cases e1
    | _ => cases h.1
/-- a dict of whole numbers in the machine's heap -/
theorem dict_rawI (I : Inv X pins τ H s) (h : DAt H a (toKeys (kvs.map (·.1))) ks vs) (ht : (kvs.all fun p => isInt p.1) = true) :
    ∃ ws : List (Key × Value), s.heap.DictOf (mixKind X.prog X.w) a ws ∧ ws.map (·.1) = (kvs.map fun p => keyI p.1) ∧ Vals vs (ws.map (·.2)) ∧ ws.length ≤ sizeLine ∧ (a == sysModules) = false := by
  rcases h with ⟨l, e, e1, e2, e3⟩ | ⟨l, e, e1, e2, e3⟩
  · obtain ⟨z, hd, ws, rel, dd⟩ := I.hok a _ e
    refine ⟨ws, dd, ?_, ?_, ?_, hd⟩
    · rw [← rel.keys]
      exact kn_keys e1 ht
    · rw [← e3]
      exact kv_vals rel
    · rw [← rel.length]
      exact z
  · have hk : kvs = [] := by
      cases kvs with
      | nil => rfl
      | cons p q =>
        exfalso
        obtain ⟨⟨_, _, _, _, _, _, _, _, _, _, _, _, tk⟩, _⟩ := I.hok a _ e
        cases l with
        | nil => cases e1
        | cons y l =>
          rw [List.map_cons, List.map_cons, toKeys] at e1
          have z := (List.cons.inj e1).1
          have t := tk y List.mem_cons_self
          rw [List.all_cons, Bool.and_eq_true] at ht
          rw [z] at t
          cases hp : p.1 with
          | int i => rw [hp] at t; cases t
          | _ => rw [hp] at ht; cases ht.1
    subst hk
    have el : l = [] := by
      cases l with
      | nil => rfl
      | cons y l => cases e1
    subst el
    subst e3
    obtain ⟨⟨_, hs, o, es, ep, xs, h1, h2, h3, h4, rl, _⟩, _⟩ := I.hok a _ e
    cases rl
    refine ⟨[], ?_, rfl, .nil, Nat.zero_le _, hs⟩
    have z : es = #[] := by
      have := h4 X.prog X.w
      exact Array.toList_inj.mp (by rw [this]; rfl)
    subst z
    exact ⟨o, #[], ep, h1, h2, h3, fun _ he => by simp at he, Pairs.nil, List.nodup_nil⟩
theorem dGet_atI {k : D} (hk : isInt k = true) : ∀ {kvs : List (D × D)} {ws : List (Key × Value)} {ks vs : List V}, (kvs.all fun p => isInt p.1) = true → RepK N H kvs ks vs → ws.map (·.1) = (kvs.map fun p => keyI p.1) → Vals vs (ws.map (·.2)) →
    (dGet kvs k = none ∧ valueAt ws (keyI k) = none) ∨ ∃ d v w, dGet kvs k = some d ∧ valueAt ws (keyI k) = some w ∧ RelV v w ∧ Rep N H d v
  | [], ws, _, _, _, h, e, _ => by
    cases ws with
    | nil => exact .inl ⟨rfl, rfl⟩
    | cons x xs => cases e
  | (k0, d0) :: r, ws, _, _, hi, h, e, hv => by
    rw [List.all_cons, Bool.and_eq_true] at hi
    rw [RepK] at h
    obtain ⟨u, t, v, q, rfl, rfl, h1, h2, h3⟩ := h
    cases ws with
    | nil => cases e
    | cons x xs =>
      rw [List.map_cons, List.map_cons] at e
      obtain ⟨e1, e2⟩ := List.cons.inj e
      rw [List.map_cons] at hv
      cases hv with
      | cons v1 v2 =>
        have e1' : x.1 = keyI k0 := e1
        have iff : toKey k0 = toKey k ↔ keyI k0 = keyI k := by
          cases k0 with
          | int i =>
            cases k with
            | int j =>
              constructor
              · intro z
                have z' : NestedKey.num i = NestedKey.num j := z
                injection z' with z'
                rw [z']
              · intro z
                have z' : (Sum.inl i : Key) = Sum.inl j := z
                injection z' with z'
                rw [z']
            | _ => cases hk
          | _ => cases hi.1
        by_cases c : toKey k0 = toKey k
        · refine .inr ⟨d0, v, x.2, ?_, ?_, v1, h2⟩
          · unfold dGet
            rw [List.find?_cons, decide_eq_true c]
            rfl
          · unfold valueAt
            rw [List.find?_cons, decide_eq_true (e1'.trans (iff.mp c))]
            rfl
        · have := dGet_atI hk hi.2 h3 e2 v2
          have g1 : dGet ((k0, d0) :: r) k = dGet r k := by
            unfold dGet
            rw [List.find?_cons, decide_eq_false c]
          have g2 : valueAt (x :: xs) (keyI k) = valueAt xs (keyI k) := by
            unfold valueAt
            rw [List.find?_cons, decide_eq_false (fun z => c (iff.mpr (e1'.symm.trans z)))]
          rw [g1, g2]
          exact this
theorem int_key {k : D} {y : V} {u : Value} (hk : isInt k = true) (r : Rep N H k y) (ry : RelV y u) : keyIs (keyI k) u = true := by
  cases k with
  | int i =>
    rw [Rep] at r
    subst r
    obtain ⟨t, rfl⟩ := ry
    exact keyIs_int i t
  | _ => cases hk
theorem tup_ref {k : D} {y : V} {u : Value} (hk : tupKD k = true) (r : Rep N H k y) (ry : RelV y u) : ∃ b, y = .ref b ∧ u = .ref b := by
  obtain ⟨⟨ds, rfl⟩, _⟩ := tupKD_ok hk
  rw [Rep] at r
  obtain ⟨_, b, _, rfl, _⟩ := r
  exact ⟨b, rfl, ry⟩
theorem tup_is (I : Inv X pins τ H s) {k : D} {b : Addr} (hk : tupKD k = true) (r : Rep N H k (.ref b)) : (nestedKind X.prog X.w).is s.heap (toKey k) b := by
  obtain ⟨_, h2, h3, _⟩ := tupKD_ok hk
  exact ⟨rep_key I k _ _ h2 r rfl, h3⟩
theorem dict_type (I : Inv X pins τ H s) {nk : List NestedKey} (h : DAt H a nk ks vs) : s.TypeIs (.ref a) "dict" := by
  rcases h with ⟨l, e, _⟩ | ⟨l, e, _⟩
  · obtain ⟨_, _, _, _, o, es, ep, h1, h2, _⟩ := I.hok a _ e
    exact ⟨o, h1, h2.1⟩
  · obtain ⟨⟨_, _, o, es, ep, xs, h1, h2, _⟩, _⟩ := I.hok a _ e
    exact ⟨o, h1, h2.1⟩
theorem dOk_two {k : D} (h : dOk kvs k = true) : (tupKD k = true ∧ (kvs.all fun p => tupKD p.1) = true) ∨ (isInt k = true ∧ (kvs.all fun p => isInt p.1) = true) := by
  rcases Bool.or_eq_true_iff.mp h with h | h
  · exact .inl (Bool.and_eq_true_iff.mp h)
  · exact .inr (Bool.and_eq_true_iff.mp h)
/-- d[k] -/
theorem dict_get {k d : D} {y : V} {u : Value} {Q : Value → Shared → Prop} {E : Value → Shared → Prop} (hu : X.A.units + 65 < cLine) (I : Inv X pins τ H s) (h : DAt H a (toKeys (kvs.map (·.1))) ks vs) (r : RepK N H kvs ks vs) (ok : dOk kvs k = true) (e : dGet kvs k = some d) (rk : Rep N' H k y) (ry : RelV y u)
    (q : ∀ v w s', Inv X pins τ H s' → RelV v w → Rep N H d v → Q w s') : wpAny (model X.prog X.w) X.A (getItem (.ref a) u) Q E s := by
  rcases dOk_two ok with ⟨k1, k2⟩ | ⟨k1, k2⟩
  · obtain ⟨b, rfl, rfl⟩ := tup_ref k1 rk ry
    obtain ⟨xs, dd, x1, x2, x3, x4, x5⟩ := dict_raw I h r k2
    rcases dGet_at (k := k) r x1 x3 with ⟨z, _⟩ | ⟨d', v, p, z1, z2, z3, z4⟩
    · rw [z] at e
      cases e
    · obtain rfl := Option.some.inj (z1.symm.trans e)
      exact wpAny_getItem_heap (knd := nestedKind X.prog X.w) (by show X.A.units + 1 + 8 < cLine; omega) (tup_is I k1 rk) dd z2 (q v p.2 _ (I.tok _) z3 z4)
  · obtain ⟨ws, dd, x1, x2, x3, x4⟩ := dict_rawI I h k2
    rcases dGet_atI k1 k2 r x1 x2 with ⟨z, _⟩ | ⟨d', v, w, z1, z2, z3, z4⟩
    · rw [z] at e
      cases e
    · obtain rfl := Option.some.inj (z1.symm.trans e)
      exact wpAny_getItem_of (knd := mixKind X.prog X.w) (int_key k1 rk ry) dd.mapOf z2 (q v w _ (I.tok _) z3 z4)
/-- k in d -/
theorem dict_in {k : D} {y : V} {u : Value} {Q : Value → Shared → Prop} {E : Value → Shared → Prop} (hu : X.A.units + 65 < cLine) (I : Inv X pins τ H s) (h : DAt H a (toKeys (kvs.map (·.1))) ks vs) (r : RepK N H kvs ks vs) (ok : dOk kvs k = true) (rk : Rep N' H k y) (ry : RelV y u)
    (q : ∀ s', Inv X pins τ H s' → Q (.bool (dGet kvs k).isSome) s') : wpAny (model X.prog X.w) X.A (compareOp .In u (.ref a)) Q E s := by
  rcases dOk_two ok with ⟨k1, k2⟩ | ⟨k1, k2⟩
  · obtain ⟨b, rfl, rfl⟩ := tup_ref k1 rk ry
    obtain ⟨xs, dd, x1, x2, x3, x4, x5⟩ := dict_raw I h r k2
    have same : (atKey xs (toKey k)).isSome = (dGet kvs k).isSome := by
      rcases dGet_at (k := k) r x1 x3 with ⟨z, z'⟩ | ⟨d', v, p, z1, z2, z3, z4⟩
      · rw [z, z']
        rfl
      · rw [z1, z2]
        rfl
    refine wpAny_in_heap (knd := nestedKind X.prog X.w) (by show X.A.units + 1 + 8 < cLine; omega) (tup_is I k1 rk) x5 dd ?_
    rw [same]
    exact q _ (I.tok _)
  · obtain ⟨ws, dd, x1, x2, x3, x4⟩ := dict_rawI I h k2
    have same : (valueAt ws (keyI k)).isSome = (dGet kvs k).isSome := by
      rcases dGet_atI k1 k2 r x1 x2 with ⟨z, z'⟩ | ⟨d', v, p, z1, z2, z3, z4⟩
      · rw [z, z']
        rfl
      · rw [z1, z2]
        rfl
    refine wpAny_in_of (knd := mixKind X.prog X.w) (int_key k1 rk ry) x4 dd.mapOf ?_
    rw [same]
    exact q _ (I.tok _)
/-- k not in d -/
theorem dict_notIn {k : D} {y : V} {u : Value} {Q : Value → Shared → Prop} {E : Value → Shared → Prop} (hu : X.A.units + 65 < cLine) (I : Inv X pins τ H s) (h : DAt H a (toKeys (kvs.map (·.1))) ks vs) (r : RepK N H kvs ks vs) (ok : dOk kvs k = true) (rk : Rep N' H k y) (ry : RelV y u)
    (q : ∀ s', Inv X pins τ H s' → Q (.bool (!(dGet kvs k).isSome)) s') : wpAny (model X.prog X.w) X.A (compareOp .NotIn u (.ref a)) Q E s := by
  rcases dOk_two ok with ⟨k1, k2⟩ | ⟨k1, k2⟩
  · obtain ⟨b, rfl, rfl⟩ := tup_ref k1 rk ry
    obtain ⟨xs, dd, x1, x2, x3, x4, x5⟩ := dict_raw I h r k2
    have same : (atKey xs (toKey k)).isSome = (dGet kvs k).isSome := by
      rcases dGet_at (k := k) r x1 x3 with ⟨z, z'⟩ | ⟨d', v, p, z1, z2, z3, z4⟩
      · rw [z, z']
        rfl
      · rw [z1, z2]
        rfl
    refine wpAny_notIn_heap (knd := nestedKind X.prog X.w) (by show X.A.units + 1 + 8 < cLine; omega) (tup_is I k1 rk) x5 dd ?_
    rw [same]
    exact q _ (I.tok _)
  · obtain ⟨ws, dd, x1, x2, x3, x4⟩ := dict_rawI I h k2
    have same : (valueAt ws (keyI k)).isSome = (dGet kvs k).isSome := by
      rcases dGet_atI k1 k2 r x1 x2 with ⟨z, z'⟩ | ⟨d', v, p, z1, z2, z3, z4⟩
      · rw [z, z']
        rfl
      · rw [z1, z2]
        rfl
    refine wpAny_notIn_of (knd := mixKind X.prog X.w) (int_key k1 rk ry) x4 dd.mapOf ?_
    rw [same]
    exact q _ (I.tok _)
end
end DT

/-! Dicts whose keys are tuples: a store. -/
namespace DT
open PySem L2 PyProof.Rows
def lPut (l : List (NestedKey × Addr × V)) (k : NestedKey) (b : Addr) (v : V) : List (NestedKey × Addr × V) :=
  if (l.any fun x => decide (x.1 = k)) = true then l.map (fun x => if x.1 = k then (x.1, x.2.1, v) else x) else l ++ [(k, b, v)]
section
variable {X : Cx} {pins : List (Addr × Obj)} {s : Shared} {N N' : Ms} {H : Hp} {τ : L2.St} {a : Addr} {kvs : List (D × D)} {ks vs : List V}
theorem lPut_le (l : List (NestedKey × Addr × V)) (k : NestedKey) (b : Addr) (v : V) : (lPut l k b v).length ≤ l.length + 1 := by
  unfold lPut
  split
  · rw [List.length_map]
    omega
  · rw [List.length_append]
    simp
theorem krel_any {k : NestedKey} : ∀ {l : List (NestedKey × Addr × V)} {xs : List (NestedKey × Addr × Value)}, Paired KRel l xs → (l.any fun x => decide (x.1 = k)) = (atKey xs k).isSome
  | _, _, .nil => rfl
  | x :: l, y :: xs, .cons h t => by
    rw [List.any_cons, krel_any t]
    unfold atKey
    rw [List.find?_cons]
    have e : y.1 = x.1 := h.1.symm
    by_cases c : x.1 = k
    · rw [decide_eq_true c, decide_eq_true (e.trans c)]
      rfl
    · rw [decide_eq_false c, decide_eq_false (fun z => c (e.symm.trans z))]
      rfl
theorem krel_map {k : NestedKey} {v : V} {r : Value} (rv : RelV v r) : ∀ {l : List (NestedKey × Addr × V)} {xs : List (NestedKey × Addr × Value)}, Paired KRel l xs → Paired KRel (l.map fun x => if x.1 = k then (x.1, x.2.1, v) else x) (xs.map (putAt k r))
  | _, _, .nil => .nil
  | x :: l, y :: xs, .cons h t => by
    rw [List.map_cons, List.map_cons]
    refine .cons ?_ (krel_map rv t)
    unfold putAt
    by_cases c : x.1 = k
    · rw [if_pos c, if_pos (h.1.symm.trans c)]
      exact ⟨h.1, h.2.1, rv⟩
    · rw [if_neg c, if_neg (fun z => c (h.1.trans z))]
      exact h
theorem krel_app {l : List (NestedKey × Addr × V)} {xs : List (NestedKey × Addr × Value)} {x : NestedKey × Addr × V} {y : NestedKey × Addr × Value} (h : KRel x y) (t : Paired KRel l xs) : Paired KRel (l ++ [x]) (xs ++ [y]) := by
  induction t with
  | nil => exact .cons h .nil
  | cons h' _ ih => exact .cons h' ih
theorem krel_put {k : NestedKey} {b : Addr} {v : V} {r : Value} (rv : RelV v r) {l : List (NestedKey × Addr × V)} {xs : List (NestedKey × Addr × Value)} (h : Paired KRel l xs) : Paired KRel (lPut l k b v) (storedH xs k b r) := by
  unfold lPut storedH
  rw [krel_any h]
  split
  · exact krel_map rv h
  · exact krel_app ⟨rfl, rfl, rv⟩ h
theorem repK_any {k : D} : ∀ {kvs : List (D × D)} {l : List (NestedKey × Addr × V)}, l.map (·.1) = toKeys (kvs.map (·.1)) → (kvs.any fun p => decide (toKey p.1 = toKey k)) = (l.any fun x => decide (x.1 = toKey k))
  | [], [], _ => rfl
  | [], _ :: _, e => by cases e
  | _ :: _, [], e => by cases e
  | p :: kvs, x :: l, e => by
    rw [List.map_cons, List.map_cons, toKeys] at e
    obtain ⟨e1, e2⟩ := List.cons.inj e
    have e1' : x.1 = toKey p.1 := e1
    rw [List.any_cons, List.any_cons, repK_any e2, e1']
theorem repK_map {k d : D} {v : V} (rd : Rep N H d v) : ∀ {kvs : List (D × D)} {l : List (NestedKey × Addr × V)}, l.map (·.1) = toKeys (kvs.map (·.1)) → RepK N H kvs (l.map fun x => V.ref x.2.1) (l.map (·.2.2)) →
    RepK N H (kvs.map fun p => if toKey p.1 = toKey k then (p.1, d) else p) ((l.map fun x => if x.1 = toKey k then (x.1, x.2.1, v) else x).map fun x => V.ref x.2.1) ((l.map fun x => if x.1 = toKey k then (x.1, x.2.1, v) else x).map (·.2.2)) ∧
    (l.map fun x => if x.1 = toKey k then (x.1, x.2.1, v) else x).map (·.1) = toKeys ((kvs.map fun p => if toKey p.1 = toKey k then (p.1, d) else p).map (·.1))
  | [], [], _, h => ⟨h, rfl⟩
  | [], _ :: _, e, _ => by cases e
  | _ :: _, [], e, _ => by cases e
  | p :: kvs, x :: l, e, h => by
    rw [List.map_cons, List.map_cons, toKeys] at e
    obtain ⟨e1, e2⟩ := List.cons.inj e
    have e1' : x.1 = toKey p.1 := e1
    obtain ⟨pk, pd⟩ := p
    rw [List.map_cons, List.map_cons, RepK] at h
    obtain ⟨u, t, w, r, c1, c2, h1, h2, h3⟩ := h
    obtain ⟨rfl, rfl⟩ := List.cons.inj c1
    obtain ⟨rfl, rfl⟩ := List.cons.inj c2
    obtain ⟨i1, i2⟩ := repK_map (k := k) rd e2 h3
    simp only [List.map_cons]
    by_cases c : toKey pk = toKey k
    · rw [if_pos c, if_pos (e1'.trans c)]
      refine ⟨?_, ?_⟩
      · rw [RepK]
        exact ⟨_, _, _, _, rfl, rfl, h1, rd, i1⟩
      · rw [toKeys, i2, e1']
    · rw [if_neg c, if_neg (fun z => c (e1'.symm.trans z))]
      refine ⟨?_, ?_⟩
      · rw [RepK]
        exact ⟨_, _, _, _, rfl, rfl, h1, h2, i1⟩
      · rw [toKeys, i2, e1']
theorem repK_app {k d : D} {u v : V} (rk : Rep N H k u) (rd : Rep N H d v) : ∀ {kvs : List (D × D)} {ks vs : List V}, RepK N H kvs ks vs → RepK N H (kvs ++ [(k, d)]) (ks ++ [u]) (vs ++ [v])
  | [], _, _, h => by
    rw [RepK] at h
    obtain ⟨rfl, rfl⟩ := h
    show RepK N H [(k, d)] [u] [v]
    rw [RepK]
    exact ⟨u, [], v, [], rfl, rfl, rk, rd, by rw [RepK]; exact ⟨rfl, rfl⟩⟩
  | (pk, pd) :: r, _, _, h => by
    rw [RepK] at h
    obtain ⟨u', t, v', q, rfl, rfl, h1, h2, h3⟩ := h
    show RepK N H ((pk, pd) :: (r ++ [(k, d)])) _ _
    rw [RepK]
    exact ⟨u', t ++ [u], v', q ++ [v], rfl, rfl, h1, h2, repK_app rk rd h3⟩
/-- the data of the dict behind the store -/
theorem repK_put {k d : D} {b : Addr} {v : V} (rk : Rep N H k (.ref b)) (rd : Rep N H d v) {kvs : List (D × D)} {l : List (NestedKey × Addr × V)} (e : l.map (·.1) = toKeys (kvs.map (·.1))) (h : RepK N H kvs (l.map fun x => V.ref x.2.1) (l.map (·.2.2))) :
    RepK N H (dPut kvs k d) ((lPut l (toKey k) b v).map fun x => V.ref x.2.1) ((lPut l (toKey k) b v).map (·.2.2)) ∧ (lPut l (toKey k) b v).map (·.1) = toKeys ((dPut kvs k d).map (·.1)) := by
  unfold dPut lPut
  rw [repK_any e]
  split
  · exact repK_map rd e h
  · rw [List.map_append, List.map_append, List.map_append, List.map_append, toKeys_map', List.map_append, e, toKeys_map']
    exact ⟨repK_app rk rd h, rfl⟩
/-- d[k] = v -/
theorem dict_put {k : D} {y v : V} {u r : Value} {Q : Unit → Shared → Prop} {E : Value → Shared → Prop} (hu : X.A.units + 65 < cLine) (I : Inv X pins τ H s) (h : DAt H a (toKeys (kvs.map (·.1))) ks vs) (rK : RepK N H kvs ks vs) (k1 : tupKD k = true) (k2 : (kvs.all fun p => tupKD p.1) = true) (hl : kvs.length < LINE) (rk : Rep N' H k y) (ry : RelV y u) (rv : RelV v r)
    (q : ∀ (l : List (NestedKey × Addr × V)) (b : Addr) s', y = .ref b → l.map (·.1) = toKeys (kvs.map (·.1)) → l.map (fun x => V.ref x.2.1) = ks → l.map (·.2.2) = vs → Inv X pins τ (upd H a (.ext (DRaw a (lPut l (toKey k) b v)))) s' → Q () s') :
    wpAny (model X.prog X.w) X.A (setItem (.ref a) u r) Q E s := by
  obtain ⟨b, rfl, rfl⟩ := tup_ref k1 rk ry
  obtain ⟨_, _, _, tk⟩ := tupKD_ok k1
  obtain ⟨xs, dd, x1, x2, x3, x4, x5⟩ := dict_raw I h rK k2
  have lk := rK.length
  have hkv : ∃ l : List (NestedKey × Addr × V), Paired KRel l xs ∧ l.map (·.1) = toKeys (kvs.map (·.1)) ∧ l.map (fun x => V.ref x.2.1) = ks ∧ l.map (·.2.2) = vs := by
    have go : ∀ {xs : List (NestedKey × Addr × Value)} {vs : List V}, Vals vs (xs.map (·.2.2)) → ∃ l : List (NestedKey × Addr × V), Paired KRel l xs ∧ l.map (·.1) = xs.map (·.1) ∧ l.map (fun x => V.ref x.2.1) = xs.map (fun x => V.ref x.2.1) ∧ l.map (·.2.2) = vs := by
      intro xs
      induction xs with
      | nil =>
        intro vs h
        cases h
        exact ⟨[], .nil, rfl, rfl, rfl⟩
      | cons x xs ih =>
        intro vs h
        rw [List.map_cons] at h
        cases h with
        | cons h1 h2 =>
          obtain ⟨l, p, e1, e2, e3⟩ := ih h2
          exact ⟨(x.1, x.2.1, _) :: l, .cons ⟨rfl, rfl, h1⟩ p, by rw [List.map_cons, List.map_cons, e1], by rw [List.map_cons, List.map_cons, e2], by rw [List.map_cons, e3]⟩
    obtain ⟨l, p, e1, e2, e3⟩ := go x3
    exact ⟨l, p, e1.trans x1, e2.trans x2, e3⟩
  obtain ⟨l, p, l1, l2, l3⟩ := hkv
  have ll : l.length = xs.length := p.length
  have len : xs.length = kvs.length := by
    have := congrArg List.length x1
    rw [toKeys_map', List.length_map, List.length_map, List.length_map] at this
    exact this
  have hL := sizeLine_eq
  refine wpAny_setItem_heap (knd := nestedKind X.prog X.w) (hsz := x4) (by show X.A.units + 1 + 8 < cLine; omega) (tup_is I k1 rk) dd fun h' dd' hs => ?_
  obtain ⟨o, es, ep, g1, g2, g3, g4, g5, g6⟩ := dd'
  have tkl : ∀ x ∈ l, tupK x.1 = true := fun x hx => by
    have : x.1 ∈ l.map (·.1) := List.mem_map_of_mem hx
    rw [l1, toKeys_map', List.map_map] at this
    obtain ⟨pp, hp, e⟩ := List.mem_map.mp this
    rw [← e]
    exact (tupKD_ok (List.all_eq_true.mp k2 pp hp)).2.2.2
  have tkp : ∀ x ∈ lPut l (toKey k) b v, tupK x.1 = true := fun x hx => by
    unfold lPut at hx
    split at hx
    · obtain ⟨x0, h0, rfl⟩ := List.mem_map.mp hx
      split
      · exact tkl x0 h0
      · exact tkl x0 h0
    · rcases List.mem_append.mp hx with z | z
      · exact tkl x z
      · rw [List.mem_singleton.mp z]
        exact tk
  have pr := krel_put (k := toKey k) (b := b) rv p
  have ok : DRaw a (lPut l (toKey k) b v) h' := by
    refine ⟨?_, x5, o, es, ep, _, g1, g2, g3, fun P' w' => ?_, pr, g6, tkp⟩
    · have := lPut_le l (toKey k) b v
      unfold LINE at hl
      omega
    · rw [g4]
      refine List.map_congr_left fun x hx => entry_num ?_
      obtain ⟨kk, _, _⟩ := krel_keys pr
      have : x.1 ∈ (lPut l (toKey k) b v).map (·.1) := by
        rw [kk]
        exact List.mem_map_of_mem hx
      obtain ⟨x0, h0, e⟩ := List.mem_map.mp this
      rw [← e]
      exact (tupK_num (tkp x0 h0)).1
  refine q l b _ rfl l1 l2 l3 (d_write I ?_ hs ⟨o, g1⟩ ⟨ok, ⟨o, g1⟩, fun h1 h2 z hk => ?_⟩)
  · rcases h with ⟨_, e, _⟩ | ⟨_, e, _⟩
    · rw [e]
      exact True.intro
    · rw [e]
      exact True.intro
  · obtain ⟨z1, z2, o', es', ep', xs', z3, z4⟩ := z
    exact ⟨z1, z2, o', es', ep', xs', hk _ z3, z4⟩
end
end DT

/-! A dict's keys, as they stand in the machine's heap. -/
namespace DT
open PySem L2 PyProof.Rows
theorem vals_of_get : ∀ {vs : List V} {us : List Value}, vs.length = us.length → (∀ (i : Nat) v u, vs[i]? = some v → us[i]? = some u → RelV v u) → Vals vs us
  | [], [], _, _ => .nil
  | [], _ :: _, e, _ => by cases e
  | _ :: _, [], e, _ => by cases e
  | v :: vs, u :: us, e, h => .cons (h 0 v u rfl rfl) (vals_of_get (by simpa using e) fun i v' u' h1 h2 => h (i + 1) v' u' (by simpa using h1) (by simpa using h2))
theorem paired_get {α β : Type} {R : α → β → Prop} : ∀ {l : List α} {r : List β}, Paired R l r → ∀ {i : Nat} {a : α}, l[i]? = some a → ∃ b, r[i]? = some b ∧ R a b
  | _, _, .nil, i, a, h => by simp at h
  | _, _, .cons h t, 0, a, e => by
    obtain rfl := Option.some.inj e
    exact ⟨_, rfl, h⟩
  | _, _, .cons h t, i + 1, a, e => by
    obtain ⟨b, e1, e2⟩ := paired_get t (i := i) (by simpa using e)
    exact ⟨b, by simpa using e1, e2⟩
section
variable {X : Cx} {pins : List (Addr × Obj)} {s : Shared} {N N' : Ms} {H : Hp} {τ : L2.St} {a : Addr} {kvs : List (D × D)} {ks vs : List V}
/-- a dict's entries -/
theorem dict_es (I : Inv X pins τ H s) {nk : List NestedKey} (h : DAt H a nk ks vs) : ∃ (es : Array DictEntry) (ep : Nat), s.heap.DictRaw a es ep ∧ (a == sysModules) = false ∧ es.size ≤ sizeLine ∧ es.size = ks.length ∧ es.size = vs.length ∧
    (∀ (i : Nat) (hi : i < es.size) v, ks[i]? = some v → RelV v es[i].key) ∧ ∀ (i : Nat) (hi : i < es.size) v, vs[i]? = some v → RelV v es[i].val := by
  rcases h with ⟨l, e, e1, e2, e3⟩ | ⟨l, e, e1, e2, e3⟩
  · obtain ⟨z, hd, ws, rel, dd⟩ := I.hok a _ e
    obtain ⟨es, ep, hr, hs, hk⟩ := dd.raw
    have hl : l.length = ws.length := rel.length
    have z' : l.length ≤ sizeLine := z
    have get : ∀ i (hi : i < es.size), ∃ p q, l[i]? = some p ∧ ws[i]? = some q ∧ p.1 = q.1 ∧ RelV p.2 q.2 ∧ keyIs q.1 es[i].key = true ∧ es[i].val = q.2 := fun i hi => by
      have hi2 : i < ws.length := by omega
      have hi1 : i < l.length := by omega
      obtain ⟨q, e5, r1⟩ := paired_get rel (List.getElem?_eq_getElem hi1)
      have := hk i hi q.1 q.2 e5
      exact ⟨l[i], q, List.getElem?_eq_getElem hi1, e5, r1.1, r1.2, this⟩
    refine ⟨es, ep, hr, hd, by omega, ?_, ?_, fun i hi v hv => ?_, fun i hi v hv => ?_⟩
    · rw [← e2, List.length_map]; omega
    · rw [← e3, List.length_map]; omega
    · obtain ⟨p, q, g1, g2, g3, g4, g5, g6⟩ := get i hi
      rw [← e2, List.getElem?_map, g1] at hv
      obtain rfl := Option.some.inj hv
      rw [← g3] at g5
      exact relV_key g5
    · obtain ⟨p, q, g1, g2, g3, g4, g5, g6⟩ := get i hi
      rw [← e3, List.getElem?_map, g1] at hv
      obtain rfl := Option.some.inj hv
      rw [g6]
      exact g4
  · obtain ⟨⟨hl, hs, o, es, ep, xs, h1, h2, h3, h4, rl, nd, tk⟩, _⟩ := I.hok a _ e
    have hl2 : l.length = xs.length := rl.length
    have h4' := h4 X.prog X.w
    have hes := size_of_entries h4'
    have get : ∀ i (hi : i < es.size), ∃ p q, l[i]? = some p ∧ KRel p q ∧ es[i].key = .ref q.2.1 ∧ es[i].val = q.2.2 := fun i hi => by
      have hi2 : i < xs.length := by omega
      have hi1 : i < l.length := by omega
      obtain ⟨q, e5, r1⟩ := paired_get rl (List.getElem?_eq_getElem hi1)
      have z := entry_at h4' i
      rw [Array.getElem?_eq_getElem hi, e5, Option.map_some] at z
      have z' := Option.some.inj z
      exact ⟨l[i], q, List.getElem?_eq_getElem hi1, r1, by rw [z']; rfl, by rw [z']; rfl⟩
    refine ⟨es, ep, ⟨o, h1, h2, h3⟩, hs, by omega, ?_, ?_, fun i hi v hv => ?_, fun i hi v hv => ?_⟩
    · rw [← e2, List.length_map]; omega
    · rw [← e3, List.length_map]; omega
    · obtain ⟨p, q, g1, g3, g5, g6⟩ := get i hi
      rw [← e2, List.getElem?_map, g1] at hv
      obtain rfl := Option.some.inj hv
      rw [g5]
      show Value.ref q.2.1 = Value.ref p.2.1
      rw [g3.2.1]
    · obtain ⟨p, q, g1, g3, g5, g6⟩ := get i hi
      rw [← e3, List.getElem?_map, g1] at hv
      obtain rfl := Option.some.inj hv
      rw [g6]
      exact g3.2.2
theorem RepK.keys : ∀ {kvs : List (D × D)} {ks vs : List V}, RepK N H kvs ks vs → RepL N H (kvs.map (·.1)) ks ∧ RepL N H (kvs.map (·.2)) vs
  | [], _, _, h => by
    rw [RepK] at h
    obtain ⟨rfl, rfl⟩ := h
    exact ⟨.nil, .nil⟩
  | (k, d) :: r, _, _, h => by
    rw [RepK] at h
    obtain ⟨u, t, v, q, rfl, rfl, h1, h2, h3⟩ := h
    obtain ⟨z1, z2⟩ := RepK.keys h3
    exact ⟨.cons h1 z1, .cons h2 z2⟩
theorem keys_vals {P : Nat → Value → Prop} {es : Array DictEntry} {acc : Array Value} (hP : ∀ i v, P i v → ∃ hi : i < es.size, v = es[i].key) (hl : es.size = ks.length) (hk : ∀ (i : Nat) (hi : i < es.size) v, ks[i]? = some v → RelV v es[i].key) (hi : ItemsOf P acc es.size) : Vals ks acc.toList := by
  refine vals_of_get (by have h0 := hi.1; have h1 : acc.toList.length = acc.size := Array.length_toList; omega) fun i v u h1 h2 => ?_
  rw [Array.getElem?_toList] at h2
  obtain ⟨hlt, e⟩ := hP i u (hi.2 i u h2)
  rw [e]
  exact hk i hlt v h1
end
end DT

namespace DT
open PySem L2 PyProof.Rows
section
variable {X : Cx} {pins : List (Addr × Obj)} {s : Shared} {N N' : Ms} {sa : Addr × Addr} {H : Hp} {σ : L2.St} {dx dy d : D} {x y : V} {v u : Value} {Q : VK}
theorem Top.notnon {z : V} (h : Top N H d z) (n : d ≠ .none) : z ≠ .non := by
  cases d with
  | none => exact absurd rfl n
  | bool b =>
    rw [h.bl]
    exact fun q => by cases q
  | int b =>
    rw [h.int]
    exact fun q => by cases q
  | str b =>
    rw [h.str]
    exact fun q => by cases q
  | list b =>
    obtain ⟨_, a, vs, rfl, _⟩ := h
    exact fun q => by cases q
  | tuple b =>
    obtain ⟨_, a, vs, rfl, _⟩ := h.tup
    exact fun q => by cases q
  | dict b =>
    obtain ⟨_, a, ks, vs, rfl, _⟩ := h
    exact fun q => by cases q
theorem isO_none {c : Bool} (e : isO dx .none = some c) (hx : Top N H dx x) : decide (x = V.non) = c := by
  cases dx with
  | none =>
    obtain rfl := Option.some.inj (show some true = some c from e)
    rw [hx.non]
    rfl
  | bool b =>
    obtain rfl := Option.some.inj (show some false = some c from e)
    exact decide_eq_false (hx.notnon fun z => by cases z)
  | int b =>
    obtain rfl := Option.some.inj (show some false = some c from e)
    exact decide_eq_false (hx.notnon fun z => by cases z)
  | str b =>
    obtain rfl := Option.some.inj (show some false = some c from e)
    exact decide_eq_false (hx.notnon fun z => by cases z)
  | list b =>
    obtain rfl := Option.some.inj (show some false = some c from e)
    exact decide_eq_false (hx.notnon fun z => by cases z)
  | tuple b =>
    obtain rfl := Option.some.inj (show some false = some c from e)
    exact decide_eq_false (hx.notnon fun z => by cases z)
  | dict b =>
    obtain rfl := Option.some.inj (show some false = some c from e)
    exact decide_eq_false (hx.notnon fun z => by cases z)
theorem is_val {c : Bool} (I : Inv X pins σ H s) (rx : RelV x v) (ry : RelV y u) (hx : Top N H dx x) (hy : Top N' H dy y) (e : isO dx dy = some c) :
    (Q (.bl c) H → wpAny (model X.prog X.w) X.A (compareOp .Is v u) (EP X pins σ Q) X.xe s) ∧ (Q (.bl !c) H → wpAny (model X.prog X.w) X.A (compareOp .IsNot v u) (EP X pins σ Q) X.xe s) := by
  cases dy with
  | none =>
    obtain rfl := hy.non
    have k := isO_none e hx
    refine ⟨fun q => op_isN pins s σ H x _ v u Q I rx ry ⟨rfl, ?_⟩, fun q => op_notN pins s σ H x _ v u Q I rx ry ⟨rfl, ?_⟩⟩
    · rw [k]
      exact q
    · rw [k]
      exact q
  | bool b =>
    cases dx with
    | bool a =>
      have e' : decide (a = b) = c := Option.some.inj e
      obtain rfl := hx.bl
      obtain rfl := hy.bl
      refine ⟨fun q => op_isBl pins s σ H _ _ v u Q I rx ry ⟨a, b, rfl, rfl, ?_⟩, fun q => op_notBl pins s σ H _ _ v u Q I rx ry ⟨a, b, rfl, rfl, ?_⟩⟩
      · rw [e']
        exact q
      · rw [e']
        exact q
    | _ => cases e
  | _ => cases dx <;> cases e
theorem eq_val {c : Bool} (hu : X.A.units + 65 < cLine) (I : Inv X pins σ H s) (rx : RelV x v) (ry : RelV y u) (hx : Top N H dx x) (hy : Top N' H dy y) (e : eqO dx dy = some c) :
    (Q (.bl c) H → wpAny (model X.prog X.w) X.A (compareOp .Eq v u) (EP X pins σ Q) X.xe s) ∧ (Q (.bl !c) H → wpAny (model X.prog X.w) X.A (compareOp .NotEq v u) (EP X pins σ Q) X.xe s) := by
  unfold eqO at e
  split at e
  · obtain rfl := Option.some.inj e
    obtain rfl := hx.str
    obtain rfl := hy.str
    refine ⟨fun q => op_eq pins s σ H _ _ v u Q I rx ry ⟨rfl, ?_⟩, fun q => op_ne pins s σ H _ _ v u Q I rx ry ⟨rfl, ?_⟩⟩
    · simpa using q
    · simpa using q
  obtain ⟨c1, rfl⟩ := if_some e
  obtain ⟨s1, s2⟩ := Bool.and_eq_true_iff.mp c1
  have d1 := hx.dp (K := X.K) (SeqAt.canLay_of_shaped s1)
  have d2 := hy.dp (K := X.K) (SeqAt.canLay_of_shaped s2)
  exact ⟨fun q => op_eqD (by omega) pins s σ H x y v u Q I rx ry ⟨dx, dy, d1, d2, s1, s2, q⟩, fun q => op_neD (by omega) pins s σ H x y v u Q I rx ry ⟨dx, dy, d1, d2, s1, s2, q⟩⟩
theorem mem_val {c : Bool} (hu : X.A.units + 65 < cLine) (I : Inv X pins σ H s) (rx : RelV x v) (ry : RelV y u) (hx : Top N H dx x) (hy : Top N' H dy y) (e : memO dx dy = some c) :
    (Q (.bl c) H → wpAny (model X.prog X.w) X.A (compareOp .In v u) (EP X pins σ Q) X.xe s) ∧ (Q (.bl !c) H → wpAny (model X.prog X.w) X.A (compareOp .NotIn v u) (EP X pins σ Q) X.xe s) := by
  unfold memO at e
  split at e
  · obtain ⟨c1, rfl⟩ := if_some e
    obtain ⟨s1, s2⟩ := Bool.and_eq_true_iff.mp c1
    have d1 := hx.dp (K := X.K) (SeqAt.canLay_of_shaped s1)
    have d2 := hy.dp (K := X.K) (SeqAt.canLay_of_shaped s2)
    exact ⟨fun q => op_inD hu pins s σ H x y v u Q I rx ry ⟨dx, _, d1, d2, s1, s2, q⟩, fun q => op_notInD hu pins s σ H x y v u Q I rx ry ⟨dx, _, d1, d2, s1, s2, q⟩⟩
  · obtain ⟨c1, rfl⟩ := if_some e
    obtain ⟨s1, s2⟩ := Bool.and_eq_true_iff.mp c1
    have d1 := hx.dp (K := X.K) (SeqAt.canLay_of_shaped s1)
    have d2 := hy.dp (K := X.K) (SeqAt.canLay_of_shaped s2)
    obtain ⟨as, r1⟩ := Dp.reads I _ x v d1 rx
    obtain ⟨bs, r2⟩ := Dp.reads I _ y u d2 ry
    have c2 := SeqAt.canLay_of_shaped s2
    have c2' := (show PyData.canLayAll0 _ = true by simpa only [PyData.canLay0] using c2)
    exact ⟨fun q => SeqAt.in_tuple_reads r2 r1 c2' (SeqAt.canLay_of_shaped s1) (room_in_shaped s1 hu) ⟨.bl _, H, I, rfl, q⟩, fun q => SeqAt.notIn_tuple_reads r2 r1 c2' (SeqAt.canLay_of_shaped s1) (room_in_shaped s1 hu) ⟨.bl _, H, I, rfl, q⟩⟩
  · obtain ⟨c1, rfl⟩ := if_some e
    obtain ⟨_, a, ks, vs, rfl, hA, rK⟩ := hy
    cases ry
    have rk : Rep N H dx x := by
      rcases dOk_two c1 with ⟨k1, _⟩ | ⟨k1, _⟩
      · obtain ⟨⟨ds, rfl⟩, _⟩ := tupKD_ok k1
        exact hx
      · cases dx with
        | int i => exact hx
        | _ => cases k1
    exact ⟨fun q => dict_in hu I hA rK c1 rk rx fun s' I' => ⟨.bl _, H, I', rfl, q⟩, fun q => dict_notIn hu I hA rK c1 rk rx fun s' I' => ⟨.bl _, H, I', rfl, q⟩⟩
  · cases e
theorem lt_val {c : Bool} (hu : X.A.units + 65 < cLine) (I : Inv X pins σ H s) (rx : RelV x v) (ry : RelV y u) (hx : Top N H dx x) (hy : Top N' H dy y) (e : ltO dx dy = some c) (q : Q (.bl c) H) : wpAny (model X.prog X.w) X.A (compareOp .Lt v u) (EP X pins σ Q) X.xe s := by
  unfold ltO at e
  split at e
  · obtain rfl := hx.int
    obtain rfl := hy.int
    obtain rfl := Option.some.inj e
    exact op_lt pins s σ H _ _ v u Q I rx ry ⟨_, _, rfl, rfl, q⟩
  · rename_i xs ys
    obtain ⟨_, a, vs, rfl, _, h1, r1⟩ := hx.tup
    obtain ⟨_, b, ws, rfl, _, h2, r2⟩ := hy.tup
    cases e1 : intsOf xs with
    | none =>
      rw [e1] at e
      cases e
    | some ns =>
      cases e2 : intsOf ys with
      | none =>
        rw [e1, e2] at e
        cases e
      | some ms =>
        rw [e1, e2] at e
        obtain rfl := Option.some.inj e
        obtain ⟨rfl, _⟩ := r1.ints e1
        obtain ⟨rfl, _⟩ := r2.ints e2
        exact op_ltT (by omega) pins s σ H _ _ v u Q I rx ry ⟨a, b, ns, ms, rfl, rfl, h1.sq, h2.sq, q⟩
  · cases e
theorem cmp_val {o : COp} {c : Bool} (hu : X.A.units + 65 < cLine) (I : Inv X pins σ H s) (rx : RelV x v) (ry : RelV y u) (hx : Top N H dx x) (hy : Top N' H dy y) (e : cmpO o dx dy = some c) (q : Q (.bl c) H) : wpAny (model X.prog X.w) X.A (compareOp (cop o) v u) (EP X pins σ Q) X.xe s := by
  unfold cmpO at e
  split at e
  · exact (eq_val hu I rx ry hx hy e).1 q
  · obtain ⟨b, e1, rfl⟩ := Option.map_eq_some_iff.mp e
    exact (eq_val hu I rx ry hx hy e1).2 q
  · exact lt_val hu I rx ry hx hy e q
  · obtain rfl := hx.int
    obtain rfl := hy.int
    obtain rfl := Option.some.inj e
    exact op_gt pins s σ H _ _ v u Q I rx ry ⟨_, _, rfl, rfl, q⟩
  · obtain rfl := hx.int
    obtain rfl := hy.int
    obtain rfl := Option.some.inj e
    exact op_le pins s σ H _ _ v u Q I rx ry ⟨_, _, rfl, rfl, q⟩
  · obtain rfl := hx.int
    obtain rfl := hy.int
    obtain rfl := Option.some.inj e
    exact op_ge pins s σ H _ _ v u Q I rx ry ⟨_, _, rfl, rfl, q⟩
  · exact (is_val I rx ry hx hy e).1 q
  · obtain ⟨b, e1, rfl⟩ := Option.map_eq_some_iff.mp e
    exact (is_val I rx ry hx hy e1).2 q
  · exact (mem_val hu I rx ry hx hy e).1 q
  · obtain ⟨b, e1, rfl⟩ := Option.map_eq_some_iff.mp e
    exact (mem_val hu I rx ry hx hy e1).2 q
  · cases e
end
end DT

namespace DT
open PySem L2 PyProof.Rows
section
variable {X : Cx} {pins : List (Addr × Obj)} {s : Shared} {M0 N N' : Ms} {sa : Addr × Addr} {H H1 H' : Hp} {σ τ : L2.St} {ρ : Rho} {g : PState} {xe xa xb : Ex} {dx dy d : D} {x y : V} {v u : Value} {Q : VK} {is : List Nat}
/-! ### items -/
theorem owned_of (n : ¬ less N ρ σ is a) (h : N a) : ∃ i, i ∈ is ∧ Own ρ σ i a := Classical.byContradiction fun z => n ⟨h, z⟩
theorem Rep.addr {a : Addr} (h : Rep N H d v') (m : isMut d = true) (e : v' = V.ref a) : ¬ N a := by
  subst e
  cases d with
  | list ds =>
    rw [Rep] at h
    obtain ⟨_, b, _, e, n, _⟩ := h
    cases e
    exact n
  | dict ds =>
    rw [Rep] at h
    obtain ⟨_, b, _, _, e, n, _⟩ := h
    cases e
    exact n
  | _ => cases m
theorem Vo.item (S : StOk M0 sa N H1 σ ρ g) (h : Rep (less N ρ σ is) H' d x) (h1 : ∀ i, i ∈ is → i ∈ esi xe) (h2 : ∀ i, i ∈ is → i ∈ ael xe) : Vo sa N ρ σ xe H' d x :=
  ⟨(h.anti fun _ z => less_mono h1 z).top, fun m a e n => by
      obtain ⟨i, hi, o⟩ := owned_of (h.addr m e) n
      exact ⟨i, h2 i hi, o⟩, fun m a e z => h.addr m e (S.lessSub (S.srcIn a z))⟩
theorem Res.same (S : StOk M0 sa N H σ ρ g) (h : Vo sa N ρ σ xe H d x) (f : fresh xe = false) : Res sa N ρ σ xe H g d x H :=
  ⟨.refl, S.src, h, fun z => (by rw [f] at z; cases z)⟩
theorem ixN_len {n : Nat} {i : Int} : ixN n i = ixN n i := rfl
theorem RepL.at {ds : List D} {vs : List V} {i : Int} (r : RepL N H ds vs) (e : atI ds i = some d) : ∃ w, atI vs i = some w ∧ Rep N H d w := by
  unfold atI at e ⊢
  rw [r.length]
  cases h : ixN ds.length i with
  | none =>
    rw [h] at e
    cases e
  | some j =>
    rw [h] at e
    obtain ⟨w, h1, h2⟩ := r.get (show ds[j]? = some d from e)
    exact ⟨w, h1, h2⟩
theorem ifN_some' {α : Type} {b : Bool} {x : Option α} {y : α} (h : (if b = true then x else none) = some y) : b = true ∧ x = some y := by
  cases b with
  | false => cases h
  | true => exact ⟨rfl, h⟩
theorem ix_val {value slice : Expr} (hu : X.A.units + 65 < cLine) (I : Inv X pins τ H s) (rx : RelV x v) (ry : RelV y u) (S : StOk M0 sa N H σ ρ g) (hx : Vo sa N ρ σ xa H dx x) (hy : Vo sa N ρ σ xb H dy y) (e : ixO dx dy = some d)
    (hs : subscripted slice false v u = operate [v, u] (getItem v u)) (q : ∀ w H', Res sa N ρ σ (.ix xa xb) H g d w H' → Q w H') : wpAny (model X.prog X.w) X.A (subscriptTail value slice v u) (EP X pins τ Q) X.xe s := by
  unfold ixO at e
  split at e
  · obtain rfl := hy.top.int
    obtain ⟨_, a, vs, rfl, h1, r1⟩ := hx.top
    obtain ⟨w, h2, h3⟩ := r1.at e
    exact ix_list value slice pins s τ H _ _ v u Q I rx ry ⟨a, vs, _, w, rfl, rfl, .of h1, h2, q w H (.same S (.item S h3 (fun _ z => z) fun _ z => z) rfl)⟩ hs
  · obtain rfl := hy.top.int
    obtain ⟨_, a, vs, rfl, _, h1, r1⟩ := hx.top.tup
    obtain ⟨w, h2, h3⟩ := r1.at e
    exact ix_tup value slice pins s τ H _ _ v u Q I rx ry ⟨a, vs, _, w, rfl, rfl, h1.sq, h2, q w H (.same S (.item S h3 (fun _ z => z) fun _ z => z) rfl)⟩ hs
  · obtain ⟨c, e'⟩ := ifN_some' e
    obtain ⟨_, a, ks, vs, rfl, hA, rK⟩ := hx.top
    cases rx
    exact PyProof.Rows.tail_any (dict_type I hA) PySem.F.slot_dict_getitem.lookup (dict_get hu I hA rK c e' hy.rep ry fun w v' s' I' rv rd => ⟨w, H, I', rv, q w H (.same S (.item S rd (fun _ z => z) fun _ z => z) rfl)⟩) hs
  · cases e

/-! ### slices -/
theorem RepL.cut {ds : List D} {vs : List V} (lo hi : Option Int) (r : RepL N H ds vs) : RepL N H (cutL ds lo hi) (cutV vs lo hi) := by
  unfold cutL cutV
  rw [r.length]
  exact (r.drop _).take _
theorem cutL_len {α : Type} (xs : List α) (lo hi : Option Int) : (cutL xs lo hi).length ≤ xs.length := by
  unfold cutL
  rw [List.length_take, List.length_drop]
  omega
theorem cutL_all {α : Type} {xs : List α} {lo hi : Option Int} (h : HT.sIx xs.length 0 lo = 0 ∧ HT.sIx xs.length xs.length hi = xs.length) : cutL xs lo hi = xs := by
  unfold cutL
  rw [h.1, h.2, List.drop_zero, Nat.sub_zero]
  exact List.take_of_length_le (Nat.le_refl _)
/-- a slice's reading, by values -/
theorem sl_val {vl vu : Value} {lo hi : Option Int} {sl : Addr} {xl xh : Ex} (I : Inv X pins τ H s) (rx : RelV x v) (S : StOk M0 sa N H σ ρ g) (hx : Vo sa N ρ σ xa H dx x) (hs : s.heap.IsSliceOf sl vl vu .none) (pl : IsPart vl lo) (pu : IsPart vu hi)
    (e : slO dx lo hi = some d) (q : ∀ w H', Res sa N ρ σ (.sl xa xl xh) H g d w H' → Q w H') :
    ∃ T id, typeLookup (.type T) "__getitem__" = pure (some (.builtin id)) ∧ s.TypeIs v T ∧ wpAny (model X.prog X.w) X.A (getItem v (.ref sl)) (EP X pins τ Q) X.xe s := by
  unfold slO at e
  split at e
  · obtain rfl := Option.some.inj e
    obtain ⟨l, a, vs, rfl, h1, r1⟩ := hx.top
    exact sl_list pins s τ H _ v vl vu lo hi sl Q I rx hs pl pu ⟨a, vs, rfl, .of h1, fun p hp => q _ _ (.lst S hp (r1.cut lo hi) (Nat.le_trans (cutL_len _ _ _) l))⟩
  · obtain rfl := Option.some.inj e
    obtain ⟨l, a, vs, rfl, n, h1, r1⟩ := hx.top.tup
    cases rx
    obtain ⟨its, rv, ht, hz⟩ := I.tuple (h1.sq (K := X.K))
    have hlen : its.toArray.size = vs.length := by rw [List.size_toArray]; exact rv.length.symm
    refine ⟨"tuple", _, PyProof.Rows.slot_tuple_getitem.lookup, ht.typeIs, ?_⟩
    by_cases z : HT.sIx vs.length 0 lo = 0 ∧ HT.sIx vs.length vs.length hi = vs.length
    · have z' := z
      rw [r1.length] at z'
      rw [cutL_all z'] at q
      refine L2.getItem_tuple_whole ht hs pl pu (by rw [hlen]; exact z) ⟨.ref a, H, I, rfl, q _ H (.atom S rfl ?_)⟩
      rw [Rep]
      exact ⟨l, a, vs, rfl, n, h1, r1⟩
    · refine HT.getItem_tuple_cut ht hs pl pu (by rw [hlen]; exact z) ?_ (by rw [hlen]; exact hz)
      rw [hlen]
      exact ⟨.ref s.heap.objs.size, _, I.laid (t' := s.toks) (o := tupO (tupN _) (cutV vs lo hi)) (fun b ob q => Heap.get?_push_of_some _ q) (Nat.le_refl _) (objOk_tup (Nat.le_trans (cutV_length vs lo hi) hz) ((rv.drop (HT.sIx vs.length 0 lo)).take (HT.sIx vs.length vs.length hi - HT.sIx vs.length 0 lo)) (Heap.get?_push_size _ rfl)), rfl,
        q _ _ (.tup rfl S (I.hok.fresh (Nat.le_refl _)) (r1.cut lo hi) (Nat.le_trans (cutL_len _ _ _) l))⟩
  · cases e

/-! ### built-in functions -/
def VoL (sa : Addr × Addr) (N : Ms) (ρ : Rho) (σ : L2.St) (H : Hp) : Exs → List D → List V → Prop
  | .nil, ds, vs => ds = [] ∧ vs = []
  | .cons e r, ds, vs => ∃ d t v w, ds = d :: t ∧ vs = v :: w ∧ Vo sa N ρ σ e H d v ∧ VoL sa N ρ σ H r t w
theorem VoL.length : ∀ {es : Exs} {ds : List D} {vs : List V}, VoL sa N ρ σ H es ds vs → vs.length = ds.length
  | .nil, _, _, h => by
    obtain ⟨rfl, rfl⟩ := h
    rfl
  | .cons _ _, _, _, h => by
    obtain ⟨d, t, v, w, rfl, rfl, _, h⟩ := h
    rw [List.length_cons, List.length_cons, VoL.length h]
theorem VoL.one {es : Exs} {d : D} {vs : List V} (h : VoL sa N ρ σ H es [d] vs) : ∃ e v, es = .cons e .nil ∧ vs = [v] ∧ Vo sa N ρ σ e H d v := by
  cases es with
  | nil => cases h.1
  | cons e r =>
    obtain ⟨d', t, v, w, e1, rfl, o, h2⟩ := h
    cases e1
    cases r with
    | nil =>
      obtain ⟨_, rfl⟩ := h2
      exact ⟨e, v, rfl, rfl, o⟩
    | cons e' r' =>
      obtain ⟨_, _, _, _, z, _⟩ := h2
      cases z
theorem VoL.two {es : Exs} {d d' : D} {vs : List V} (h : VoL sa N ρ σ H es [d, d'] vs) : ∃ e e' v v', es = .cons e (.cons e' .nil) ∧ vs = [v, v'] ∧ Vo sa N ρ σ e H d v ∧ Vo sa N ρ σ e' H d' v' := by
  cases es with
  | nil => cases h.1
  | cons e r =>
    obtain ⟨d', t, v, w, e1, rfl, o, h2⟩ := h
    cases e1
    obtain ⟨e', v', rfl, rfl, o'⟩ := h2.one
    exact ⟨e, e', v, v', rfl, rfl, o, o'⟩
theorem VoL.reps : ∀ {es : Exs} {ds : List D} {vs : List V}, VoL sa N ρ σ H es ds vs → RepL (less N ρ σ (escs es)) H ds vs
  | .nil, _, _, h => by
    obtain ⟨rfl, rfl⟩ := h
    exact .nil
  | .cons e r, _, _, h => by
    obtain ⟨d, t, v, w, rfl, rfl, o, h⟩ := h
    exact .cons (o.rep.anti fun _ z => less_mono (fun i hi => List.mem_append_left _ hi) z) ((VoL.reps h).anti fun _ z => less_mono (fun i hi => List.mem_append_right _ hi) z)
theorem VoL.keep (S : StOk M0 sa N H1 σ ρ g) (k : Keep (isS sa) H H') : ∀ {es : Exs} {ds : List D} {vs : List V}, VoL sa N ρ σ H es ds vs → VoL sa N ρ σ H' es ds vs
  | .nil, _, _, h => h
  | .cons _ _, _, _, h => by
    obtain ⟨d, t, v, w, e1, e2, o, h⟩ := h
    exact ⟨d, t, v, w, e1, e2, S.vo o k, VoL.keep S k h⟩
/-- a list or a tuple that is read -/
theorem seq_val {xs : List D} (h : Top N H d v') (e : seqO d = some xs) : xs.length ≤ LINE ∧ ∃ a vs, v' = .ref a ∧ RepL N H xs vs ∧ (H a = some (.lst vs) ∨ (TupAt H a vs ∧ ¬ N a ∧ d = .tuple xs)) := by
  cases d with
  | list ds =>
    obtain rfl := Option.some.inj e
    obtain ⟨l, a, vs, rfl, h1, r⟩ := h
    exact ⟨l, a, vs, rfl, r, .inl h1⟩
  | tuple ds =>
    obtain rfl := Option.some.inj e
    obtain ⟨l, a, vs, rfl, n, h1, r⟩ := h.tup
    exact ⟨l, a, vs, rfl, r, .inr ⟨h1, n, rfl⟩⟩
  | _ => cases e
theorem seq_read {K : PySem.W.Frag} {a : Addr} {vs : List V} {p : Prop} (h : H a = some (.lst vs) ∨ (TupAt H a vs ∧ p)) : SqL K H a vs ∨ SqT K H a vs := h.elim (fun z => .inl (.of z)) fun z => .inr z.1.sq
theorem maxI_le : ∀ {ns : List Int} {n y : Int}, y ∈ n :: ns → y ≤ maxI (n :: ns)
  | [], n, y, h => by
    have e : y = n := by simpa using h
    subst e
    exact Int.le_refl _
  | m :: ms, n, y, h => by
    show y ≤ max n (maxI (m :: ms))
    rcases List.mem_cons.mp h with e | h
    · subst e
      exact Int.le_max_left _ _
    · exact Int.le_trans (maxI_le h) (Int.le_max_right _ _)
theorem maxI_mem : ∀ {ns : List Int} {n : Int}, maxI (n :: ns) ∈ n :: ns
  | [], n => List.mem_cons_self
  | m :: ms, n => by
    show max n (maxI (m :: ms)) ∈ _
    by_cases h : n ≤ maxI (m :: ms)
    · rw [Int.max_eq_right h]
      exact List.mem_cons_of_mem _ maxI_mem
    · rw [Int.max_eq_left (by omega)]
      exact List.mem_cons_self
theorem minI_le : ∀ {ns : List Int} {n y : Int}, y ∈ n :: ns → minI (n :: ns) ≤ y
  | [], n, y, h => by
    have e : y = n := by simpa using h
    subst e
    exact Int.le_refl _
  | m :: ms, n, y, h => by
    show min n (minI (m :: ms)) ≤ y
    rcases List.mem_cons.mp h with e | h
    · subst e
      exact Int.min_le_left _ _
    · exact Int.le_trans (Int.min_le_right _ _) (minI_le h)
theorem minI_mem : ∀ {ns : List Int} {n : Int}, minI (n :: ns) ∈ n :: ns
  | [], n => List.mem_cons_self
  | m :: ms, n => by
    show min n (minI (m :: ms)) ∈ _
    by_cases h : minI (m :: ms) ≤ n
    · rw [Int.min_eq_right h]
      exact List.mem_cons_of_mem _ minI_mem
    · rw [Int.min_eq_left (by omega)]
      exact List.mem_cons_self
end
end DT

namespace DT
open PySem L2 PyProof.Rows

/-! ### what a value reads as, in the machine's heap -/
mutual
theorem Reads.below {h : Heap} : ∀ {v : Value} {d : D} {as : List Addr}, Reads h v d as → ∀ a, a ∈ as → a < h.objs.size
  | _, _, _, .none, a, m => by cases m
  | _, _, _, .bool _, a, m => by cases m
  | _, _, _, .int _ _, a, m => by cases m
  | _, _, _, .str _ _, a, m => by cases m
  | _, _, _, .list e _ _ r, a, m => by
    rcases List.mem_cons.mp m with z | m
    · rw [z]
      exact Heap.lt_size e
    · exact ReadsAll.below r a m
  | _, _, _, .tuple e _ _ r, a, m => ReadsAll.below r a m
  | _, _, _, .dict e _ _ r r', a, m => by
    rcases List.mem_append.mp m with m | m
    · rcases List.mem_cons.mp m with z | m
      · rw [z]
        exact Heap.lt_size e
      · exact ReadsAll.below r a m
    · exact ReadsAll.below r' a m
theorem ReadsAll.below {h : Heap} : ∀ {vs : List Value} {ds : List D} {as : List Addr}, ReadsAll h vs ds as → ∀ a, a ∈ as → a < h.objs.size
  | _, _, _, .nil, a, m => by cases m
  | _, _, _, .cons r t, a, m => by
    rcases List.mem_append.mp m with m | m
    · exact Reads.below r a m
    · exact ReadsAll.below t a m
end
section
variable {X : Cx} {pins : List (Addr × Obj)} {s : Shared} {M0 N N' : Ms} {sa : Addr × Addr} {H H1 H' : Hp} {σ τ : L2.St} {ρ : Rho} {g : PState} {xe xa xb : Ex} {es : Exs} {dx dy d : D} {ds : List D} {vs : List V} {us : List Value} {x y : V} {v u : Value} {Q : VK} {is : List Nat}
/-! ### sorted -/
theorem pairs_each (rv : Vals vs us) : ∀ {ds : List D}, ds.length = vs.length → PySem.W.EachIs (fun (u : Value) (p : D × V) => RelV p.2 u) us (ds.zip vs) := by
  induction rv with
  | nil => intro ds _; cases ds <;> exact .nil
  | cons r _ ih =>
    intro ds e
    cases ds with
    | nil => cases e
    | cons d t => exact .cons r (ih (by simpa using e))
theorem pairs_reads (I : Inv X pins τ H s) (rv : Vals vs us) : ∀ {ds : List D}, PyData.canLayAll0 ds = true → RepL N H ds vs → PySem.W.EachIs (fun (u : Value) (p : D × V) => ∃ as, Reads s.heap u p.1 as) us (ds.zip vs) := by
  induction rv with
  | nil => intro ds _ _; cases ds <;> exact .nil
  | cons r _ ih =>
    intro ds c e
    cases ds with
    | nil =>
      rw [RepL] at e
      cases e
    | cons d t =>
      rw [RepL] at e
      obtain ⟨_, _, e1, h1, h2⟩ := e
      cases e1
      have c' : d.canLay0 = true ∧ PyData.canLayAll0 t = true := by simpa only [PyData.canLayAll0, Bool.and_eq_true] using c
      exact .cons (Dp.reads I d _ _ (h1.dp c'.1) r) (ih c'.2 h2)
theorem vals_each : ∀ {us : List Value} {ps : List (D × V)}, PySem.W.EachIs (fun (u : Value) (p : D × V) => RelV p.2 u) us ps → Vals (ps.map (·.2)) us
  | _, _, .nil => .nil
  | _, _, .cons r t => .cons r (vals_each t)
theorem repL_pairs : ∀ {ps : List (D × V)}, (∀ p, p ∈ ps → Rep N H p.1 p.2) → RepL N H (ps.map (·.1)) (ps.map (·.2))
  | [], _ => .nil
  | p :: r, h => .cons (h p List.mem_cons_self) (repL_pairs fun q hq => h q (List.mem_cons_of_mem _ hq))
theorem zip_rep : ∀ {ds : List D} {vs : List V}, RepL N H ds vs → ∀ p, p ∈ ds.zip vs → Rep N H p.1 p.2
  | [], _, _, p, m => by simp at m
  | d :: ds, _, h, p, m => by
    rw [RepL] at h
    obtain ⟨v, r, rfl, h1, h2⟩ := h
    rw [List.zip_cons_cons] at m
    rcases List.mem_cons.mp m with e | m
    · rw [e]
      exact h1
    · exact zip_rep h2 p m
theorem zip_fst : ∀ {ds : List D} {vs : List V}, ds.length = vs.length → (ds.zip vs).map (·.1) = ds
  | [], _, _ => by simp
  | d :: ds, [], e => by cases e
  | d :: ds, v :: vs, e => by
    rw [List.zip_cons_cons, List.map_cons, zip_fst (by simpa using e)]
theorem sort_fst (ps : List (D × V)) : (ps.mergeSort (PySem.W.dataLe false Prod.fst)).map (·.1) = (ps.map (·.1)).mergeSort (PySem.W.dataLe false id) :=
  List.map_mergeSort (fun _ _ _ _ => rfl)
theorem sortOk_all {xs : List D} (h : sortOk xs = true) : PySem.W.AllAlike xs ∧ PySem.W.Sortable xs ∧ PyData.canLayAll0 xs = true ∧ ∀ d, d ∈ xs → d.depth ≤ 64 := by
  unfold sortOk at h
  rw [Bool.and_eq_true, Bool.and_eq_true, Bool.and_eq_true] at h
  obtain ⟨⟨h1, h2⟩, h3, h4⟩ := h
  refine ⟨fun d hd e he => List.all_eq_true.mp (List.all_eq_true.mp h1 d hd) e he, ?_, h3, fun d hd => of_decide_eq_true (List.all_eq_true.mp h4 d hd)⟩
  rcases Bool.or_eq_true_iff.mp h2 with h2 | h2
  · refine .inl fun d hd => ?_
    have z := List.all_eq_true.mp h2 d hd
    split at z
    · exact ⟨_, _, rfl⟩
    · cases z
  · refine .inr fun d hd => ?_
    have z := List.all_eq_true.mp h2 d hd
    split at z
    · cases z
    · cases z
    · rename_i n1 n2
      exact ⟨n1, n2⟩
theorem seq_obj (I : Inv X pins τ H s) {a : Addr} {p : Prop} (h : H a = some (.lst vs) ∨ (TupAt H a vs ∧ p)) : vs.length ≤ sizeLine ∧ ∃ T o its n, (T = "list" ∨ T = "tuple") ∧ s.heap.get? a = some o ∧ o.cls = .type T ∧ o.data = .seq (List.toArray its) n ∧ Vals vs its := by
  rcases h with h | ⟨h, _⟩
  · obtain ⟨z, its, n, r, e⟩ := I.hok a _ h
    exact ⟨z, "list", _, its, n, .inl rfl, e, rfl, rfl, r⟩
  · obtain ⟨z, its, r, o, e, c, n, dd⟩ := h.rd.ok I.hok
    exact ⟨z, "tuple", o, its, n, .inr rfl, e, c, dd, r⟩
theorem sorted_val {lev : Nat} {xs ys : List D} (hr : Room lev X.A) (I : Inv X pins τ H s) (rx : RelV x v) (S : StOk M0 sa N H σ ρ g) (hx : Vo sa N ρ σ xe H dx x) (e : seqO dx = some xs) (e2 : sortO xs = some ys)
    (q : ∀ w H', Res sa N ρ σ (.blt .sorted (.cons xe .nil)) H g (.list ys) w H' → Q w H') : wpAny (model X.prog X.w) X.A (PySem.call (.builtin "sorted") [v]) (EP X pins τ Q) X.xe s := by
  obtain ⟨l, a, vs, rfl, r, hh⟩ := seq_val hx.top e
  cases rx
  obtain ⟨z, T, o, its, n, hT, ho, hc, hd, rv⟩ := seq_obj I hh
  obtain ⟨hok, rfl⟩ := if_some e2
  obtain ⟨hal, hso, hcl, hdp⟩ := sortOk_all hok
  have hun := hr.un
  have lenr := r.length
  have lenv := rv.length
  refine Calls.call_function_entry kind_sorted plain_sorted entry_sorted (args_sorted1 _) ?_
  unfold Builtin.«sorted»
  refine wpAny_bind (m := checkCount "sorted" 1 1 _) (wpAny_pure ?_)
  refine wpAny_bind (wpAny_collect_seq a hT ho hc hd (fun h1 k1 => ?_) (by rw [List.size_toArray]; omega))
  have I1 : Inv X pins τ H { s with heap := h1 } := I.kept (t' := s.toks) k1
  refine wpAny_bind (wpAny_newList ?_ (by simp; omega))
  have I2 : Inv X pins τ H { s with heap := h1.push { cls := .type "list", data := .seq its.toArray } } := I1.kept (t' := s.toks) fun b u e => Heap.get?_push_of_some _ e
  have ho2 : (h1.push { cls := .type "list", data := .seq its.toArray }).get? h1.objs.size = some (seqObj "list" its.toArray 0) := Heap.get?_push_size _ rfl
  have er := pairs_reads I1 rv hcl r
  have zf := zip_fst (vs := vs) (ds := xs) lenr.symm
  have er2 : PySem.W.EachIs (fun (u : Value) (p : D × V) => ∃ as, Reads (h1.push { cls := .type "list", data := .seq its.toArray }) u p.1 as ∧ h1.objs.size ∉ as) its (xs.zip vs) := er.mono fun u p ⟨as, h⟩ =>
    ⟨as, PyProof.Rows.Reads.keeps (fun b u e => Heap.get?_push_of_some _ e) h, fun m => absurd (Reads.below h _ m) (Nat.lt_irrefl _)⟩
  refine wpAny_bind (wpAny_holding (PySem.W.list_sort_data (enc := Prod.fst) (R := fun (u : Value) (p : D × V) => RelV p.2 u) (bs := xs.zip vs) (s := { s with heap := h1.push { cls := .type "list", data := .seq its.toArray } }) (n := 0) (a := h1.objs.size) ?_ (pairs_each rv lenr.symm) er2 ?_ ?_ ?_ ?_ fun out ol oe => ?_))
  · exact ho2
  · rw [zf]
    exact hal
  · rw [zf]
    exact hso
  · rw [List.length_zip]
    omega
  · intro b hb
    have hm : b.1 ∈ xs := by
      rw [← zf]
      exact List.mem_map_of_mem hb
    have := hdp b.1 hm
    show X.A.units + 1 + 1 + b.1.depth < cLine
    omega
  · refine wpAny_pure ⟨_, rfl, ?_⟩
    have rv2 := vals_each oe
    have rl2 : RepL (less N ρ σ (esi xe)) H ((((xs.zip vs).mergeSort (PySem.W.dataLe false Prod.fst))).map (·.1)) ((((xs.zip vs).mergeSort (PySem.W.dataLe false Prod.fst))).map (·.2)) :=
      repL_pairs fun p hp => zip_rep r p (List.mem_mergeSort.mp hp)
    rw [sort_fst, zf] at rl2
    obtain ⟨en, hat⟩ := sortedHeap_at (vs := its) (out := out.toArray) ho2
    have hnone : H h1.objs.size = none := I1.hok.fresh (Nat.le_refl _)
    have hlen2 : ((((xs.zip vs).mergeSort (PySem.W.dataLe false Prod.fst))).map (·.2)).length ≤ sizeLine := by
      rw [List.length_map, List.length_mergeSort, List.length_zip]
      omega
    refine ⟨.ref h1.objs.size, upd H h1.objs.size (.lst ((((xs.zip vs).mergeSort (PySem.W.dataLe false Prod.fst))).map (·.2))), ?_, rfl, q _ _ (.lst S hnone (rl2.anti fun _ z => less_mono (fun i hi => List.mem_append_left _ hi) z) ?_)⟩
    · refine I1.laid (t' := s.toks) (fun b u e => ?_) (Nat.le_refl _) ⟨hlen2, out, en, rv2, hat⟩
      rw [sortedHeap_old (Nat.ne_of_lt (Heap.lt_size e)) (by
        show b < (h1.push { cls := .type "list", data := .seq its.toArray }).objs.size
        rw [Heap.size_push]
        exact Nat.lt_succ_of_lt (Heap.lt_size e))]
      exact Heap.get?_push_of_some _ e
    · rw [List.length_mergeSort]
      exact l
/-- list(d), d a dict -/
theorem listD_val {kvs : List (D × D)} (hc : X.calm = true) (I : Inv X pins τ H s) (rx : RelV x v) (S : StOk M0 sa N H σ ρ g) (hx : Vo sa N ρ σ xe H (.dict kvs) x)
    (q : ∀ w H', Res sa N ρ σ (.blt .list (.cons xe .nil)) H g (.list (kvs.map (·.1))) w H' → Q w H') : wpAny (model X.prog X.w) X.A (PySem.call (.type "list") [v]) (EP X pins τ Q) X.xe s := by
  obtain ⟨l, a, ks, vs, rfl, hA, rK⟩ := hx.top
  cases rx
  obtain ⟨es, ep, hraw, hsys, hz, hk, hv', hks, _⟩ := dict_es I hA
  refine PySem.W.kdl_call (KdlSrc.rawDict (es := es) (ep := ep) hsys) (I.ok.hd hc) hraw hz fun h' tk acc c hkp hget hit => ?_
  have rv : Vals ks acc.toList := keys_vals (fun i v z => z) hk hks hit
  have hlen : ks.length ≤ sizeLine := by omega
  have hat : h'.get? s.heap.objs.size = some (seqObj "list" acc.toList.toArray c) := by
    rw [Array.toArray_toList]
    exact hget
  refine ⟨.ref s.heap.objs.size, upd H s.heap.objs.size (.lst ks), I.laid (t' := tk) hkp (Nat.le_refl _) ⟨hlen, acc.toList, c, rv, hat⟩, rfl, q _ _ (.lst S (I.hok.fresh (Nat.le_refl _)) (rK.keys.1.anti fun _ z => less_mono (fun i hi => List.mem_append_left _ hi) z) ?_)⟩
  rw [List.length_map]
  exact l
theorem sortedD_val {lev : Nat} {kvs : List (D × D)} {ys : List D} (hc : X.calm = true) (hr : Room lev X.A) (I : Inv X pins τ H s) (rx : RelV x v) (S : StOk M0 sa N H σ ρ g) (hx : Vo sa N ρ σ xe H (.dict kvs) x) (e2 : sortO (kvs.map (·.1)) = some ys)
    (q : ∀ w H', Res sa N ρ σ (.blt .sorted (.cons xe .nil)) H g (.list ys) w H' → Q w H') : wpAny (model X.prog X.w) X.A (PySem.call (.builtin "sorted") [v]) (EP X pins τ Q) X.xe s := by
  obtain ⟨l, a, ks, vs, rfl, hA, rK⟩ := hx.top
  cases rx
  obtain ⟨es, ep, hraw, hsys, hz, hk, hv', hks, _⟩ := dict_es I hA
  obtain ⟨hok, rfl⟩ := if_some e2
  obtain ⟨hal, hso, hcl, hdp⟩ := sortOk_all hok
  have r := rK.keys.1
  have lenr := r.length
  have hun := hr.un
  refine Calls.call_function_entry kind_sorted plain_sorted entry_sorted (args_sorted1 _) ?_
  unfold Builtin.«sorted»
  refine wpAny_bind (m := checkCount "sorted" 1 1 _) (wpAny_pure ?_)
  refine wpAny_bind (PySem.W.kdu_collect (KdlSrc.rawDict (es := es) (ep := ep) hsys) (I.ok.hd hc) hraw hz fun h1 tk acc k1 hit => ?_)
  have rv : Vals ks acc.toList := keys_vals (fun i v z => z) hk hks hit
  have lenv := rv.length
  have I1 : Inv X pins τ H { s with heap := h1, toks := tk } := I.kept (t' := tk) k1
  refine wpAny_bind (wpAny_newList ?_ (by rw [← lenv]; omega))
  generalize acc.toList = its at *
  have I2 : Inv X pins τ H { s with heap := h1.push { cls := .type "list", data := .seq its.toArray }, toks := tk } := I1.kept (t' := tk) fun b u e => Heap.get?_push_of_some _ e
  have ho2 : (h1.push { cls := .type "list", data := .seq its.toArray }).get? h1.objs.size = some (seqObj "list" its.toArray 0) := Heap.get?_push_size _ rfl
  have er := pairs_reads I1 rv hcl r
  have zf := zip_fst (vs := ks) (ds := kvs.map (·.1)) lenr.symm
  have hxl : (kvs.map (·.1)).length ≤ LINE := by
    rw [List.length_map]
    exact l
  generalize kvs.map (·.1) = xs at *
  have er2 : PySem.W.EachIs (fun (u : Value) (p : D × V) => ∃ as, Reads (h1.push { cls := .type "list", data := .seq its.toArray }) u p.1 as ∧ h1.objs.size ∉ as) its (xs.zip ks) := er.mono fun u p ⟨as, h⟩ =>
    ⟨as, PyProof.Rows.Reads.keeps (fun b u e => Heap.get?_push_of_some _ e) h, fun m => absurd (Reads.below h _ m) (Nat.lt_irrefl _)⟩
  refine wpAny_bind (wpAny_holding (PySem.W.list_sort_data (enc := Prod.fst) (R := fun (u : Value) (p : D × V) => RelV p.2 u) (bs := xs.zip ks) (s := { s with heap := h1.push { cls := .type "list", data := .seq its.toArray }, toks := tk }) (n := 0) (a := h1.objs.size) ?_ (pairs_each rv lenr.symm) er2 ?_ ?_ ?_ ?_ fun out ol oe => ?_))
  · exact ho2
  · rw [zf]
    exact hal
  · rw [zf]
    exact hso
  · rw [List.length_zip]
    omega
  · intro b hb
    have hm : b.1 ∈ xs := by
      rw [← zf]
      exact List.mem_map_of_mem hb
    have := hdp b.1 hm
    show X.A.units + 1 + 1 + b.1.depth < cLine
    omega
  · refine wpAny_pure ⟨_, rfl, ?_⟩
    have rv2 := vals_each oe
    have rl2 : RepL (less N ρ σ (esi xe)) H ((((xs.zip ks).mergeSort (PySem.W.dataLe false Prod.fst))).map (·.1)) ((((xs.zip ks).mergeSort (PySem.W.dataLe false Prod.fst))).map (·.2)) :=
      repL_pairs fun p hp => zip_rep r p (List.mem_mergeSort.mp hp)
    rw [sort_fst, zf] at rl2
    obtain ⟨en, hat⟩ := sortedHeap_at (vs := its) (out := out.toArray) ho2
    have hnone : H h1.objs.size = none := I1.hok.fresh (Nat.le_refl _)
    have hlen2 : ((((xs.zip ks).mergeSort (PySem.W.dataLe false Prod.fst))).map (·.2)).length ≤ sizeLine := by
      rw [List.length_map, List.length_mergeSort, List.length_zip]
      omega
    refine ⟨.ref h1.objs.size, upd H h1.objs.size (.lst ((((xs.zip ks).mergeSort (PySem.W.dataLe false Prod.fst))).map (·.2))), ?_, rfl, q _ _ (.lst S hnone (rl2.anti fun _ z => less_mono (fun i hi => List.mem_append_left _ hi) z) ?_)⟩
    · refine I1.laid (t' := tk) (fun b u e => ?_) (Nat.le_refl _) ⟨hlen2, out, en, rv2, hat⟩
      rw [sortedHeap_old (Nat.ne_of_lt (Heap.lt_size e)) (by
        show b < (h1.push { cls := .type "list", data := .seq its.toArray }).objs.size
        rw [Heap.size_push]
        exact Nat.lt_succ_of_lt (Heap.lt_size e))]
      exact Heap.get?_push_of_some _ e
    · rw [List.length_mergeSort]
      exact hxl
end
end DT

/-! The greatest of a list of tuples. -/
namespace DT
open PySem L2 PyProof.Rows
section
variable {X : Cx} {pins : List (Addr × Obj)} {s : Shared} {M0 N N' : Ms} {sa : Addr × Addr} {H H1 H' : Hp} {σ τ : L2.St} {ρ : Rho} {g : PState} {xe xa xb : Ex} {es : Exs} {dx dy d : D} {ds : List D} {vs : List V} {us : List Value} {x y : V} {v u : Value} {Q : VK} {is : List Nat}
theorem maxD_mem : ∀ (xs : List D) (x : D), PySem.W.maxD x xs ∈ x :: xs
  | [], x => List.mem_cons_self
  | y :: ys, x => by
    show PySem.W.maxD (if PySem.W.dataLt x y then y else x) ys ∈ _
    have h := maxD_mem ys (if PySem.W.dataLt x y then y else x)
    rcases List.mem_cons.mp h with e | e
    · rw [e]
      split
      · exact List.mem_cons_of_mem _ List.mem_cons_self
      · exact List.mem_cons_self
    · exact List.mem_cons_of_mem _ (List.mem_cons_of_mem _ e)
theorem reads_all (I : Inv X pins τ H s) (rv : Vals vs us) : ∀ {ds : List D}, PyData.canLayAll0 ds = true → RepL N H ds vs → ∃ as, ReadsAll s.heap us ds as := by
  induction rv with
  | nil =>
    intro ds _ e
    cases ds with
    | nil => exact ⟨_, .nil⟩
    | cons d t =>
      rw [RepL] at e
      obtain ⟨_, _, e1, _⟩ := e
      cases e1
  | cons r _ ih =>
    intro ds c e
    cases ds with
    | nil =>
      rw [RepL] at e
      cases e
    | cons d t =>
      rw [RepL] at e
      obtain ⟨_, _, e1, h1, h2⟩ := e
      cases e1
      have c' : d.canLay0 = true ∧ PyData.canLayAll0 t = true := by simpa only [PyData.canLayAll0, Bool.and_eq_true] using c
      obtain ⟨as, q⟩ := Dp.reads I d _ _ (h1.dp c'.1) r
      obtain ⟨bs, q'⟩ := ih c'.2 h2
      exact ⟨_, .cons q q'⟩
theorem canLay_mem : ∀ {ds : List D}, PyData.canLayAll0 ds = true → ∀ {d : D}, d ∈ ds → d.canLay0 = true
  | [], _, _, h => by cases h
  | e :: r, c, d, h => by
    have c' : e.canLay0 = true ∧ PyData.canLayAll0 r = true := by simpa only [PyData.canLayAll0, Bool.and_eq_true] using c
    rcases List.mem_cons.mp h with z | z
    · rw [z]
      exact c'.1
    · exact canLay_mem c'.2 z
theorem depthAll_le {n : Nat} : ∀ {ds : List D}, (∀ d, d ∈ ds → d.depth ≤ n) → PyData.depthAll ds ≤ n
  | [], _ => Nat.zero_le _
  | d :: ds, h => by
    simp only [PyData.depthAll]
    exact Nat.max_le.mpr ⟨h d List.mem_cons_self, depthAll_le fun e he => h e (List.mem_cons_of_mem _ he)⟩
theorem maxT_val {lev : Nat} {z : D} {xs : List D} (hc : X.calm = true) (hr : Room lev X.A) (I : Inv X pins τ H s) (rx : RelV x v) (S : StOk M0 sa N H σ ρ g) (hx : Vo sa N ρ σ xe H (.list (z :: xs)) x) (e2 : maxTOk (z :: xs) = true)
    (q : ∀ w H', Res sa N ρ σ (.blt .maxT (.cons xe .nil)) H g (PySem.W.maxD z xs) w H' → Q w H') : wpAny (model X.prog X.w) X.A (PySem.call (.builtin "max") [v]) (EP X pins τ Q) X.xe s := by
  obtain ⟨l, a, vs, rfl, h, r⟩ := hx.top
  cases rx
  obtain ⟨its, rv, pl, hz⟩ := I.list (SqL.of (K := X.K) h)
  obtain ⟨hal, h2⟩ := Bool.and_eq_true_iff.mp e2
  obtain ⟨htd, hcl⟩ := Bool.and_eq_true_iff.mp h2
  have hal' : ∀ d ∈ z :: xs, ∀ e ∈ z :: xs, PySem.W.alike d e = true := fun d hd e he => List.all_eq_true.mp (List.all_eq_true.mp hal d hd) e he
  have ht : ∀ d ∈ z :: xs, isTup d = true ∧ d.depth ≤ 64 := fun d hd => by
    obtain ⟨p, q⟩ := Bool.and_eq_true_iff.mp (List.all_eq_true.mp htd d hd)
    exact ⟨p, of_decide_eq_true q⟩
  have hun := hr.un
  obtain ⟨as, ra⟩ := reads_all I rv hcl r
  have hd := depthAll_le fun d hd => (ht d hd).2
  have aa : PySem.W.AlikeAll (z :: xs) := ⟨hal', fun d hd e => by
    have t := (ht d hd).1
    rw [e] at t
    cases t⟩
  refine PySem.W.max_list_data (as := as) (I.ok.hd hc) pl.isList (by rw [List.toList_toArray]; exact ra) aa (by omega) fun i w h' tk bs hw hrd hk => ?_
  have I1 : Inv X pins τ H { s with heap := h', toks := tk } := I.kept hk
  have hw' : its[i]? = some w := by simpa using hw
  have hi : i < its.length := (List.getElem?_eq_some_iff.mp hw').1
  have lenv := rv.length
  have lenr := r.length
  obtain ⟨y, hy⟩ : ∃ y, vs[i]? = some y := ⟨vs[i], List.getElem?_eq_getElem (by omega)⟩
  obtain ⟨u, hu, ru⟩ := rv.get hy
  obtain rfl := Option.some.inj (hw'.symm.trans hu)
  obtain ⟨di, hdi⟩ : ∃ d, (z :: xs)[i]? = some d := ⟨(z :: xs)[i]'(by omega), List.getElem?_eq_getElem (by omega)⟩
  obtain ⟨y', hy', rep⟩ := r.get hdi
  obtain rfl := Option.some.inj (hy.symm.trans hy')
  have mi : di ∈ z :: xs := List.mem_of_getElem? hdi
  have cl : di.canLay0 = true := canLay_mem hcl mi
  obtain ⟨cs, q2⟩ := Dp.reads I1 di _ _ (rep.dp cl) ru
  have mm := maxD_mem xs z
  have eq : di = PySem.W.maxD z xs := PySem.W.alike_unique _ _ _ _ _ (hal' _ mi _ mm) q2 hrd
  refine ⟨y, H, I1, ru, q y H (.atom S ?_ ?_)⟩
  · have := (ht _ mm).1
    revert this
    cases PySem.W.maxD z xs <;> intro h <;> first | rfl | cases h
  · rw [← eq]
    exact rep.anti fun _ z => less_mono (fun i hi => List.mem_append_left _ hi) z
end
end DT

namespace DT
open PySem L2 PyProof.Rows
section
variable {X : Cx} {pins : List (Addr × Obj)} {s : Shared} {M0 N N' : Ms} {sa : Addr × Addr} {H H1 H' : Hp} {σ τ : L2.St} {ρ : Rho} {g : PState} {xe xa xb : Ex} {es : Exs} {dx dy d : D} {ds : List D} {vs : List V} {us : List Value} {x y : V} {v u : Value} {Q : VK} {is : List Nat}
theorem lineEq : (LINE : Nat) = sizeLine := sizeLine_eq.symm
/-- the empty dict -/
theorem empty_reads (I : Inv X pins τ H s) {a : Addr} {nk : List NestedKey} {ks : List V} (hn : nk = []) (h : DAt H a nk ks vs) : (∃ as, Reads s.heap (.ref a) (.dict []) as ∧ sysModules ∉ as) := by
  have fin : (a == sysModules) = false → ∀ (o : Obj) (es : Array DictEntry) (ep : Nat), s.heap.get? a = some o → o.ExactDict → o.data = .dict es ep → es.toList = [] → ∃ as, Reads s.heap (.ref a) (.dict []) as ∧ sysModules ∉ as := by
    intro hs o es ep h1 h2 h3 h4
    have r : Reads s.heap (.ref a) (.dict []) (a :: [] ++ []) := .dict (kvs := []) h1 h2.1 h3 (by rw [h4]; exact .nil) (by rw [h4]; exact .nil)
    refine ⟨_, r, fun m => ?_⟩
    have e : sysModules = a := by simpa using m
    rw [e] at hs
    simp at hs
  subst hn
  rcases h with ⟨l, e, q1, _⟩ | ⟨l, e, q1, _⟩
  · have el : l = [] := by simpa using q1
    subst el
    obtain ⟨_, hs, ws, r, o, es, ep, h1, h2, h3, h4, h5, _⟩ := I.hok a _ e
    cases r
    refine fin hs o es ep h1 h2 h3 ?_
    have z : es.toList.length = 0 := by
      have := h5.length
      simpa using this
    exact List.length_eq_zero_iff.mp z
  · have el : l = [] := by simpa using q1
    subst el
    obtain ⟨⟨_, hs, o, es, ep, xs, h1, h2, h3, h4, r, _⟩, _⟩ := I.hok a _ e
    cases r
    exact fin hs o es ep h1 h2 h3 (by rw [h4 X.prog X.w]; rfl)
theorem repr_val {lev : Nat} (hg : X.A.guards = some []) (hr : Room lev X.A) (I : Inv X pins τ H s) (rx : RelV x v) (S : StOk M0 sa N H σ ρ g) (hx : Vo sa N ρ σ xe H dx x) (e : reprO dx = some d)
    (q : ∀ w H', Res sa N ρ σ (.blt .repr (.cons xe .nil)) H g d w H' → Q w H') : wpAny (model X.prog X.w) X.A (PySem.call (.builtin "repr") [v]) (EP X pins τ Q) X.xe s := by
  obtain ⟨c, rfl⟩ := if_some e
  rw [Bool.and_eq_true, Bool.and_eq_true, Bool.and_eq_true] at c
  obtain ⟨c1, c2, c3, c4⟩ := c
  have hl : dx.shown.length ≤ sizeLine := by
    rw [← lineEq]
    exact of_decide_eq_true c3
  have hd : dx.depth ≤ 64 := of_decide_eq_true c4
  have hun := hr.un
  have fin : ∀ (h' : Heap) (t : Tok) (tk : Nat), (∀ b o, s.heap.get? b = some o → h'.get? b = some o) → EP X pins τ Q (.str dx.shown t) { s with heap := h', toks := tk } := fun h' t tk k => ⟨.str dx.shown, H, I.kept k, ⟨_, rfl⟩, q _ H (.str S _)⟩
  have road : ∀ a, x = .ref a → (∃ as, Reads s.heap (.ref a) dx as ∧ (dx.hasDict = true → sysModules ∉ as)) → wpAny (model X.prog X.w) X.A (PySem.call (.builtin "repr") [v]) (EP X pins τ Q) X.xe s := by
    rintro a rfl ⟨as, r, hs⟩
    cases rx
    exact repr_of_reads' r c2 hs hg (by omega) (fun _ _ z => z) (fun h' t tk k => fin h' t tk k) hl
  have lay : dx.canLay0 = true → ∀ a, x = .ref a → ∃ as, Reads s.heap (.ref a) dx as ∧ (dx.hasDict = true → sysModules ∉ as) := by
    rintro cl a rfl
    cases rx
    obtain ⟨as, r⟩ := Dp.reads I dx _ _ (hx.top.dp cl) (show RelV (.ref a) (.ref a) from rfl)
    exact ⟨as, r, PyData.noDict_hsm (PyData.hasDict_of_canLay _ cl)⟩
  cases dx with
  | none =>
    obtain rfl := hx.top.non
    cases rx
    refine PySem.P.repr_of_none ?_
    simp only [PyData.shown] at fin
    exact fin s.heap _ _ fun _ _ z => z
  | bool b =>
    obtain rfl := hx.top.bl
    cases rx
    refine PySem.P.repr_of_bool ?_
    simp only [PyData.shown] at fin
    exact fin s.heap _ _ fun _ _ z => z
  | int i =>
    obtain rfl := hx.top.int
    obtain ⟨t, rfl⟩ := rx
    refine PySem.P.repr_of_int (by simpa [PyData.showable] using c2) ?_
    simp only [PyData.shown] at fin
    exact fin s.heap _ _ fun _ _ z => z
  | str z =>
    obtain rfl := hx.top.str
    obtain ⟨t, rfl⟩ := rx
    refine PySem.P.repr_of_str ?_ (by simpa only [PyData.shown] using hl)
    simp only [PyData.shown] at fin
    exact fin s.heap _ _ fun _ _ z => z
  | list ds =>
    obtain ⟨_, a, vs, rfl, _⟩ := id hx.top
    exact road a rfl (lay c1 a rfl)
  | tuple ds =>
    obtain ⟨_, a, vs, rfl, _⟩ := hx.top.tup
    exact road a rfl (lay c1 a rfl)
  | dict kvs =>
    obtain ⟨_, a, ks, vs, rfl, h, _⟩ := id hx.top
    cases kvs with
    | nil =>
      obtain ⟨as, r, n⟩ := empty_reads I rfl h
      exact road a rfl ⟨as, r, fun _ => n⟩
    | cons p r => exact road a rfl (lay c1 a rfl)
end
end DT
namespace DT
open PySem L2 PyProof.Rows
/-- what a built-in is called as -/
def blF : Bl → Option Value
  | .len => some (.builtin "len")
  | .tuple => some (.type "tuple")
  | .list => some (.type "list")
  | .int => some (.type "int")
  | .abs => some (.builtin "abs")
  | .sorted => some (.builtin "sorted")
  | .all => some (.builtin "all")
  | .any => some (.builtin "any")
  | .sum => some (.builtin "sum")
  | .max => some (.builtin "max")
  | .max2 => some (.builtin "max")
  | .maxT => some (.builtin "max")
  | .min => some (.builtin "min")
  | .min2 => some (.builtin "min")
  | .repr => some (.builtin "repr")
  | _ => none
section
variable {X : Cx} {pins : List (Addr × Obj)} {s : Shared} {M0 N N' : Ms} {sa : Addr × Addr} {H H1 H' : Hp} {σ τ : L2.St} {ρ : Rho} {g : PState} {xe xa xb : Ex} {es : Exs} {dx dy d : D} {ds : List D} {vs : List V} {us : List Value} {x y : V} {v u f : Value} {Q : VK} {is : List Nat}
theorem vals_one (r : Vals [x] us) : ∃ u, us = [u] ∧ RelV x u := vals1 r
theorem esi_one {b : Bl} (hb : b = .tuple ∨ b = .list ∨ b = .sorted) {i : Nat} (h : i ∈ esi xe) : i ∈ esi (.blt b (.cons xe .nil)) := by
  rcases hb with rfl | rfl | rfl <;> exact List.mem_append_left _ h
theorem blt_val {lev : Nat} {b : Bl} (hc : X.calm = true) (hg : X.A.guards = some []) (hr : Room lev X.A) (hf : blF b = some f) (I : Inv X pins τ H s) (rv : Vals vs us) (S : StOk M0 sa N H σ ρ g) (hv : VoL sa N ρ σ H es ds vs) (e : bltO b ds = some d)
    (q : ∀ w H', Res sa N ρ σ (.blt b es) H g d w H' → Q w H') : wpAny (model X.prog X.w) X.A (PySem.call f us) (EP X pins τ Q) X.xe s := by
  unfold bltO at e
  split at e
  · obtain rfl := Option.some.inj hf
    obtain rfl := Option.some.inj e
    obtain ⟨xe, x, rfl, rfl, o⟩ := hv.one
    obtain ⟨_, a, ws, rfl, h, r⟩ := o.top
    refine call_len_seq pins s τ H _ us Q I rv ⟨a, ws, rfl, .inl (.of h), ?_⟩
    rw [r.length]
    exact q _ H (.int S _)
  · obtain rfl := Option.some.inj hf
    obtain rfl := Option.some.inj e
    obtain ⟨xe, x, rfl, rfl, o⟩ := hv.one
    obtain ⟨_, a, ws, rfl, _, h, r⟩ := o.top.tup
    refine call_len_seq pins s τ H _ us Q I rv ⟨a, ws, rfl, .inr h.sq, ?_⟩
    rw [r.length]
    exact q _ H (.int S _)
  · obtain rfl := Option.some.inj hf
    obtain ⟨xs, e1, rfl⟩ := Option.map_eq_some_iff.mp e
    obtain ⟨xe, x, rfl, rfl, o⟩ := hv.one
    obtain ⟨l, a, ws, rfl, r, h⟩ := seq_val o.top e1
    have r' := r.anti (N' := less N ρ σ (esi (.blt .tuple (.cons xe .nil)))) fun _ z => less_mono (fun i hi => esi_one (.inl rfl) hi) z
    rcases h with h | ⟨h, n, rfl⟩
    · obtain ⟨u, rfl, rx⟩ := vals_one rv
      cases rx
      obtain ⟨its, vi, pl, hz⟩ := I.list (.of h)
      have hlen := vi.length
      refine call_tuple_list pl.isList (fun h' kp => ?_) (by simp only [List.size_toArray] <;> omega)
      have J : Inv X pins τ H { s with heap := h' } := I.kept (t' := s.toks) kp
      exact ⟨.ref h'.objs.size, _, J.laid (t' := s.toks) (o := tupO (tupN its) ws) (fun b o e => Heap.get?_push_of_some _ e) (Nat.le_refl _) (objOk_tup hz vi (Heap.get?_push_size _ rfl)), rfl, q _ _ (.tup rfl S (J.hok.fresh (Nat.le_refl _)) r' l)⟩
    · refine call_tuple_of pins s τ H _ us Q I rv ⟨a, ws, rfl, .inr ⟨h.sq, q _ H (.atom S rfl ?_)⟩⟩
      rw [Rep]
      exact ⟨l, a, ws, rfl, fun z => n (less_mono (fun i hi => esi_one (.inl rfl) hi) z), h, r'⟩
  · obtain rfl := Option.some.inj hf
    obtain rfl := Option.some.inj e
    obtain ⟨xe, x, rfl, rfl, o⟩ := hv.one
    obtain ⟨u, rfl, rx⟩ := vals_one rv
    exact listD_val hc I rx S o q
  · obtain rfl := Option.some.inj hf
    obtain ⟨xs, e1, rfl⟩ := Option.map_eq_some_iff.mp e
    obtain ⟨xe, x, rfl, rfl, o⟩ := hv.one
    obtain ⟨l, a, ws, rfl, r, h⟩ := seq_val o.top e1
    have r' := r.anti (N' := less N ρ σ (esi (.blt .list (.cons xe .nil)))) fun _ z => less_mono (fun i hi => esi_one (.inr (.inl rfl)) hi) z
    exact call_list_of pins s τ H _ us Q I rv ⟨a, ws, rfl, seq_read h, fun p hp => q _ _ (.lst S hp r' l)⟩
  · obtain rfl := Option.some.inj hf
    obtain rfl := Option.some.inj e
    obtain ⟨xe, x, rfl, rfl, o⟩ := hv.one
    obtain rfl := o.top.int
    exact call_int1 pins s τ H _ us Q I rv (.inl ⟨_, rfl, q _ H (.int S _)⟩)
  · obtain rfl := Option.some.inj hf
    obtain rfl := Option.some.inj e
    obtain ⟨xe, x, rfl, rfl, o⟩ := hv.one
    obtain rfl := o.top.bl
    exact call_int1 pins s τ H _ us Q I rv (.inr ⟨_, rfl, q _ H (.int S _)⟩)
  · obtain rfl := Option.some.inj hf
    obtain rfl := Option.some.inj e
    obtain ⟨xe, x, rfl, rfl, o⟩ := hv.one
    obtain rfl := o.top.int
    exact call_abs pins s τ H _ us Q I rv ⟨_, rfl, q _ H (.int S _)⟩
  · obtain rfl := Option.some.inj hf
    obtain ⟨ys, e2, rfl⟩ := Option.map_eq_some_iff.mp e
    obtain ⟨xe, x, rfl, rfl, o⟩ := hv.one
    obtain ⟨u, rfl, rx⟩ := vals_one rv
    exact sortedD_val hc hr I rx S o e2 q
  · obtain rfl := Option.some.inj hf
    obtain ⟨xe, x, rfl, rfl, o⟩ := hv.one
    obtain ⟨u, rfl, rx⟩ := vals_one rv
    split at e
    · rename_i xs e1
      obtain ⟨ys, e2, rfl⟩ := Option.map_eq_some_iff.mp e
      exact sorted_val hr I rx S o e1 e2 q
    · cases e
  · obtain rfl := Option.some.inj hf
    obtain ⟨bs, e1, rfl⟩ := Option.map_eq_some_iff.mp e
    obtain ⟨xe, x, rfl, rfl, o⟩ := hv.one
    obtain ⟨_, a, ws, rfl, h, r⟩ := o.top
    obtain rfl := r.bools e1
    exact cr_all hc pins s τ H _ us Q I rv ⟨a, bs, rfl, .of h, q _ H (.bl S _)⟩
  · obtain rfl := Option.some.inj hf
    obtain ⟨bs, e1, rfl⟩ := Option.map_eq_some_iff.mp e
    obtain ⟨xe, x, rfl, rfl, o⟩ := hv.one
    obtain ⟨_, a, ws, rfl, h, r⟩ := o.top
    obtain rfl := r.bools e1
    exact cr_any hc pins s τ H _ us Q I rv ⟨a, bs, rfl, .of h, q _ H (.bl S _)⟩
  · obtain rfl := Option.some.inj hf
    obtain ⟨ns, e1, rfl⟩ := Option.map_eq_some_iff.mp e
    obtain ⟨xe, x, rfl, rfl, o⟩ := hv.one
    obtain ⟨_, a, ws, rfl, h, r⟩ := o.top
    obtain ⟨rfl, _⟩ := r.ints e1
    exact cr_sum hc pins s τ H _ us Q I rv ⟨a, ns, rfl, .of h, q _ H (.int S _)⟩
  · obtain rfl := Option.some.inj hf
    obtain ⟨ns, e1, rfl⟩ := Option.map_eq_some_iff.mp e
    obtain ⟨xe, x, rfl, rfl, o⟩ := hv.one
    obtain ⟨_, a, ws, rfl, _, h, r⟩ := o.top.tup
    obtain ⟨rfl, _⟩ := r.ints e1
    obtain ⟨its, vi, pl, hz⟩ := I.tuple h.sq
    obtain ⟨u, rfl, rx⟩ := vals_one rv
    cases rx
    obtain ⟨xs, hx⟩ := vi.ints.allInts.items
    have hn : numsOf its.toArray.toList = ns := vi.ints.numsOf
    have pl' : s.heap.IsTuple a its.toArray := pl
    rw [hx] at pl' hn
    rw [nums_intItems] at hn
    refine PySem.W.ktm_sumG (I.ok.hd hc) pl' fun h' tk t' hk => ⟨.int _, H, I.kept hk, ⟨_, rfl⟩, ?_⟩
    have e2 : preSum (numAt xs) xs.size = ns.sum := by rw [preSum_eq, List.take_of_length_le (by simp), hn]
    rw [e2]
    exact q _ H (.int S _)
  · obtain rfl := Option.some.inj hf
    split at e
    · rename_i n ns e1
      obtain rfl := Option.some.inj e
      obtain ⟨xe, x, rfl, rfl, o⟩ := hv.one
      obtain ⟨_, a, ws, rfl, h, r⟩ := o.top
      obtain ⟨rfl, _⟩ := r.ints e1
      refine cr_max hc pins s τ H _ us Q I rv ⟨a, n :: ns, rfl, .of h, Nat.zero_lt_succ _, fun m hm hle => ?_⟩
      have : m = maxI (n :: ns) := Int.le_antisymm (maxI_le hm) (hle _ maxI_mem)
      subst this
      exact q _ H (.int S _)
    · cases e
  · obtain rfl := Option.some.inj hf
    split at e
    · rename_i n ns e1
      obtain rfl := Option.some.inj e
      obtain ⟨xe, x, rfl, rfl, o⟩ := hv.one
      obtain ⟨_, a, ws, rfl, h, r⟩ := o.top
      obtain ⟨rfl, _⟩ := r.ints e1
      refine cr_min hc pins s τ H _ us Q I rv ⟨a, n :: ns, rfl, .of h, Nat.zero_lt_succ _, fun m hm hle => ?_⟩
      have : m = minI (n :: ns) := Int.le_antisymm (hle _ minI_mem) (minI_le hm)
      subst this
      exact q _ H (.int S _)
    · cases e
  · obtain rfl := Option.some.inj hf
    obtain rfl := Option.some.inj e
    obtain ⟨xe, xe', x, y, rfl, rfl, o, o'⟩ := hv.two
    obtain rfl := o.top.int
    obtain rfl := o'.top.int
    exact call_max2 hc pins s τ H _ us Q I rv ⟨_, _, rfl, q _ H (.int S _)⟩
  · obtain rfl := Option.some.inj hf
    obtain rfl := Option.some.inj e
    obtain ⟨xe, xe', x, y, rfl, rfl, o, o'⟩ := hv.two
    obtain rfl := o.top.int
    obtain rfl := o'.top.int
    exact call_min2 hc pins s τ H _ us Q I rv ⟨_, _, rfl, q _ H (.int S _)⟩
  · obtain rfl := Option.some.inj hf
    obtain ⟨xe, x, rfl, rfl, o⟩ := hv.one
    obtain ⟨u, rfl, rx⟩ := vals_one rv
    exact repr_val hg hr I rx S o e q
  all_goals first
    | (cases hf; done)
    | (cases e; done)
    | (obtain rfl := Option.some.inj hf
       obtain ⟨e2, rfl⟩ := if_some e
       obtain ⟨xe, x, rfl, rfl, o⟩ := hv.one
       obtain ⟨u, rfl, rx⟩ := vals_one rv
       exact maxT_val hc hr I rx S o e2 q)
end
end DT

/-! Walks that hand out new tuples. -/
namespace DT
open PySem L2 PyProof.Rows

/-- n turns while Sh stands; each gives a new tuple -/
def ItP (n : Nat) (Sh : Hp → Prop) (Yv : Nat → List V → Prop) : It :=
  ⟨fun i H => i < n ∧ Sh H, fun i H x H' => ∃ T ys, x = .ref T ∧ H T = none ∧ H' = upd H T (.tup ys) ∧ Yv i ys, fun i H => i = n ∧ Sh H⟩
theorem goesN_st {P : Program} {w : World} {A : Around} {tg : Expr} {I : Addr} {fp wr : List Addr} {n : Nat} {Y : Nat → Heap → Value → Heap → Prop} {St St' : Nat → Heap → Prop} (W : GoesN P w A tg I fp wr n Y St) (e : ∀ i h, St i h ↔ St' i h) : GoesN P w A tg I fp wr n Y St' := by
  have z : St = St' := funext fun i => funext fun h => propext (e i h)
  rw [← z]
  exact W
theorem turn_pairs {P : Program} {w : World} {K : PySem.W.Frag} {tg : Expr} (I : Addr) (fp fpG wr : List Addr) (n : Nat) {C : Type} (Gd : C → Prop) (Y : C → Nat → Heap → Value → Heap → Prop) (tn : Nat → Heap → Prop) (So : C → Heap → Prop) (Sh : Hp → Prop) (Yv : Nat → List V → Prop)
    (W : ∀ A : Around, A.handled = none → ∀ c, Gd c → GoesN P w A tg I fpG wr n (Y c) (fun i h => tn i h ∧ So c h)) (hI : I ∈ fp) (hw : ∀ b, b ∈ wr → b ∈ fp)
    (obj : ∀ i h, tn i h → ∀ b, b ∈ fp → ∃ o, h.get? b = some o ∧ ∀ v, o.data ≠ .cell v)
    (keep : ∀ i h h', tn i h → (∀ b, b ∈ fp → ∀ o, h.get? b = some o → h'.get? b = some o) → tn i h')
    (self : ∀ (A : Around) (i : Nat) (s : Shared) (Q : Value → Shared → Prop) (E : Value → Shared → Prop), tn i s.heap → Q (.ref I) s → wpAny (model P w) A (pyIter (.ref I)) Q E s)
    (so : ∀ (X : Cx) pins σ H s, L2.Inv X pins σ H s → Sh H → ∃ c, Gd c ∧ So c s.heap)
    (yv : ∀ (X : Cx) pins σ H s i v h' c, L2.Inv X pins σ H s → Sh H → Gd c → i < n → Y c i s.heap v h' → ∃ T ys us, v = .ref T ∧ s.heap.objs.size ≤ T ∧ IsTup h' T (List.toArray us) ∧ Vals ys us ∧ ys.length ≤ sizeLine ∧ Yv i ys) :
    Turn P w K tg (ItP n Sh Yv) fp I tn where
  mem := hI
  obj := obj
  keep := keep
  item := by
    intro X hP hW hK hc i pins s σ H E J hf st hg
    subst hP hW hK
    obtain ⟨c, gc, sO⟩ := so X pins σ H s J hg.2
    have Wx := W X.A (J.ok.hd hc) c gc
    refine Wx.goes i s (fun v s2 => ∃ x H', L2.Inv X pins σ H' s2 ∧ RelV x v ∧ (ItP n Sh Yv).yld i H x H' ∧ tn (i + 1) s2.heap ∧ ∀ b ∈ fp, H' b = none) E hg.1 ⟨st, sO⟩ fun v h' tk hY st' hk htk => ?_
    obtain ⟨T, ys, us, rfl, hT, ht, rv, hz, hy⟩ := yv X pins σ H s i v h' c J hg.2 gc hg.1 hY
    have hn : H T = none := J.hok.fresh hT
    have new : ObjOk X.prog X.w (upd H T (.tup ys)) h' T (.tup ys) := ⟨hz, us, rv, ht⟩
    refine ⟨.ref T, upd H T (.tup ys), J.turnedNew (t' := tk) (ch := wr) hk (fun b hb => hf b (hw b hb)) hT new, rfl, ⟨T, ys, rfl, hn, rfl, hy⟩, st'.1, fun b hb => ?_⟩
    obtain ⟨o, ho, _⟩ := obj i _ st b hb
    rw [upd_ne (Nat.ne_of_lt (Nat.lt_of_lt_of_le (Heap.lt_size ho) hT))]
    exact (hf b hb).1
  done := by
    intro X hP hW hK hc i pins s σ H E J hf st hg
    subst hP hW hK
    obtain ⟨rfl, hs⟩ := hg
    obtain ⟨c, gc, sO⟩ := so X pins σ H s J hs
    refine (W X.A (J.ok.hd hc) c gc).stops s (fun s1 => L2.Inv X pins σ H s1) E ⟨st, sO⟩ fun h' tk hk htk => ?_
    exact J.turnedL (t' := tk) (ch := wr) hk fun b hb => hf b (hw b hb)
  self := self

/-! ### what enumerate and zip draw from -/
def ItOn (h : Heap) (it a : Addr) (i : Nat) (b : Bool) : Prop := if b = true then h.IsListIter it a i else h.IsTupleIter it a i
def SoOn (h : Heap) (a : Addr) (us : List Value) (b : Bool) : Prop := if b = true then h.IsList a us.toArray else h.IsTuple a us.toArray
def itObj (a : Addr) (b : Bool) : Obj := if b = true then { cls := .type "list_iterator", data := .fields #[.ref a, .int 0 0] } else { cls := .type "tuple_iterator", data := .fields #[.ref a, .int 0 0] }
/-- what is tracked at a -/
def ShOn (H : Hp) (a : Addr) (vs : List V) (b : Bool) : Prop := if b = true then H a = some (.lst vs) else TupAt H a vs
theorem draws_on {P : Program} {w : World} {A : Around} (hh : A.handled = none) (it a : Addr) (hne : a ≠ it) (us : List Value) (b : Bool) :
    Draws P w A it [it, a] us.length (fun i v => us[i]? = some v) (fun i h => ItOn h it a i b ∧ SoOn h a us b) := by
  cases b with
  | true =>
    have D := Draws.list (prog := P) (w := w) hh it a hne us.toArray
    simpa [ItOn, SoOn] using D
  | false =>
    have D := Draws.tuple (prog := P) (w := w) hh it a hne us.toArray
    simpa [ItOn, SoOn] using D
theorem begins_on (a : Addr) (us : List Value) (b : Bool) : Begins (.ref a) (itObj a b) fun h => SoOn h a us b := by
  cases b with
  | true => exact begins_list a us.toArray
  | false => exact begins_tuple a us.toArray
theorem itOn_new {h : Heap} {it a : Addr} {b : Bool} (e : h.get? it = some (itObj a b)) : ItOn h it a 0 b := by
  cases b with
  | true => exact ⟨_, e, rfl, rfl⟩
  | false => exact ⟨_, e, rfl, rfl⟩
theorem itOn_obj {h : Heap} {it a : Addr} {b : Bool} {i : Nat} (e : ItOn h it a i b) : ∃ o, h.get? it = some o ∧ ∀ v, o.data ≠ .cell v := by
  cases b with
  | true =>
    obtain ⟨o, q, _, d⟩ := (show h.IsListIter it a i from e)
    exact ⟨o, q, fun v z => by rw [d] at z; cases z⟩
  | false =>
    obtain ⟨o, q, _, d⟩ := (show h.IsTupleIter it a i from e)
    exact ⟨o, q, fun v z => by rw [d] at z; cases z⟩
theorem itOn_keep {h h' : Heap} {it a : Addr} {b : Bool} {i : Nat} (e : ItOn h it a i b) (k : ∀ o, h.get? it = some o → h'.get? it = some o) : ItOn h' it a i b := by
  cases b with
  | true => exact (show h.IsListIter it a i from e).at k
  | false => exact (show h.IsTupleIter it a i from e).at k
section
variable {X : Cx} {pins : List (Addr × Obj)} {s : Shared} {σ : L2.St} {H : Hp} {a : Addr} {vs : List V} {b : Bool}
theorem shOn_items (I : L2.Inv X pins σ H s) (h : ShOn H a vs b) : vs.length ≤ sizeLine ∧ ∃ us, Vals vs us ∧ SoOn s.heap a us b := by
  cases b with
  | true =>
    obtain ⟨its, r, p, z⟩ := I.list (.of (show H a = some (.lst vs) from h))
    exact ⟨z, its, r, p.isList⟩
  | false =>
    obtain ⟨its, r, p, z⟩ := I.tuple (show TupAt H a vs from h).sq
    exact ⟨z, its, r, p⟩
theorem soOn_inj {h : Heap} {us us' : List Value} (e : SoOn h a us b) (e' : SoOn h a us' b) : us = us' := by
  cases b with
  | true =>
    obtain ⟨o, h1, _, n, d1⟩ := (show h.IsList a us.toArray from e)
    obtain ⟨o', h2, _, n', d2⟩ := (show h.IsList a us'.toArray from e')
    rw [h1] at h2
    cases h2
    rw [d1] at d2
    injection d2 with d2
    simpa using congrArg Array.toList d2
  | false =>
    obtain ⟨o, h1, _, n, d1⟩ := (show h.IsTuple a us.toArray from e)
    obtain ⟨o', h2, _, n', d2⟩ := (show h.IsTuple a us'.toArray from e')
    rw [h1] at h2
    cases h2
    rw [d1] at d2
    injection d2 with d2
    simpa using congrArg Array.toList d2
end

/-! ### enumerate -/
theorem turn_enumD {P : Program} {w : World} {K : PySem.W.Frag} {elts : List Expr} {kk : Nat} {tpos : Pos} (e it a : Addr) (hne : e ≠ it) (ha : a ≠ it) (hae : e ≠ a) (vs : List V) (b : Bool) :
    Turn P w K (.Tuple elts kk tpos) (ItP vs.length (fun H => ShOn H a vs b) (fun i ys => ∃ x, vs[i]? = some x ∧ ys = [.int (i : Nat), x])) [e, it] e (fun i h => (∃ old, IsEnum h e it ((0 : Int) + (i : Nat)) old) ∧ ItOn h it a i b) := by
  refine turn_pairs (C := List Value) (Gd := fun us => Vals vs us) e [e, it] (e :: [it, a]) [e, it] vs.length (fun us i h0 v h => ∃ T t x, v = .ref T ∧ h0.objs.size ≤ T ∧ us[i]? = some x ∧ h.IsTuple T #[.int ((0 : Int) + (i : Nat)) t, x]) _ (fun us h => SoOn h a us b) _ _ ?_ ?_ ?_ ?_ ?_ ?_ ?_ ?_
  · intro A hh us rv
    have D := draws_on (P := P) (w := w) (A := A.in1) hh it a ha us b
    rw [← rv.length] at D
    exact goesN_st (GoesN.enumFrom (0 : Int) D e hne (by simp [hne, hae]) (by simp)) fun i h => ⟨fun ⟨x, y, z⟩ => ⟨⟨x, y⟩, z⟩, fun ⟨⟨x, y⟩, z⟩ => ⟨x, y, z⟩⟩
  · simp
  · intro c h
    exact h
  · rintro i h ⟨⟨old, h1⟩, h2⟩ c hc
    have hc' : c = e ∨ c = it := by simpa using hc
    rcases hc' with rfl | rfl
    · exact ⟨_, h1, fun v z => nomatch z⟩
    · exact itOn_obj h2
  · rintro i h h' ⟨⟨old, h1⟩, h2⟩ k
    exact ⟨⟨old, k e (by simp) _ h1⟩, itOn_keep h2 fun o z => k it (by simp) o z⟩
  · rintro A i s Q E ⟨⟨old, h1⟩, _⟩ h
    exact wpAny_pyIter_enum h1 h
  · intro X pins σ H s J h
    obtain ⟨_, us, rv, so⟩ := shOn_items J h
    exact ⟨us, rv, so⟩
  · rintro X pins σ H s i v h' us J h rv hi ⟨T, t, u, rfl, hT, hu, ht⟩
    have hx : vs[i]? = some vs[i] := List.getElem?_eq_getElem hi
    obtain ⟨u', e1, r⟩ := rv.get hx
    rw [hu] at e1
    cases e1
    refine ⟨T, [.int ((0 : Int) + (i : Nat)), vs[i]], [.int ((0 : Int) + (i : Nat)) t, u], rfl, hT, ht, .cons ⟨_, rfl⟩ (.cons r .nil), ?_, vs[i], hx, ?_⟩
    · show 2 ≤ sizeLine
      decide
    · rw [Int.zero_add]

/-! ### zip of two -/
theorem turn_zipD {P : Program} {w : World} {K : PySem.W.Frag} {elts : List Expr} {kk : Nat} {tpos : Pos} {z TI TO i1 i2 a1 a2 : Addr} (S : ZipSep2 z TI TO i1 i2 [i1, a1] [i2, a2]) (h1 : a1 ≠ i1) (h2 : a2 ≠ i2) (vs ws : List V) (b1 b2 : Bool) :
    Turn P w K (.Tuple elts kk tpos) (ItP (min vs.length ws.length) (fun H => ShOn H a1 vs b1 ∧ ShOn H a2 ws b2) (fun i ys => ∃ x y, vs[i]? = some x ∧ ws[i]? = some y ∧ ys = [x, y])) [z, TI, TO, i1, i2] z
      (fun i h => IsZip h z TI TO .none ∧ IsTupOf2 h TI (.ref i1) (.ref i2) ∧ (∃ c1 c2, IsTupOf2 h TO c1 c2) ∧ ItOn h i1 a1 i b1 ∧ ItOn h i2 a2 i b2) := by
  refine turn_pairs (C := List Value × List Value) (Gd := fun c => Vals vs c.1 ∧ Vals ws c.2) z [z, TI, TO, i1, i2] (z :: TI :: TO :: ([i1, a1] ++ [i2, a2])) [z, TO, i1, i2] (min vs.length ws.length)
    (fun c i h0 v h => ∃ T x y, v = .ref T ∧ h0.objs.size ≤ T ∧ c.1[i]? = some x ∧ c.2[i]? = some y ∧ h.IsTuple T #[x, y]) _ (fun c h => SoOn h a1 c.1 b1 ∧ SoOn h a2 c.2 b2) _ _ ?_ ?_ ?_ ?_ ?_ ?_ ?_ ?_
  · rintro A hh ⟨us, xs⟩ ⟨r1, r2⟩
    have D1 := draws_on (P := P) (w := w) (A := A.in1) hh i1 a1 h1 us b1
    have D2 := draws_on (P := P) (w := w) (A := A.in1) hh i2 a2 h2 xs b2
    rw [← r1.length] at D1
    rw [← r2.length] at D2
    exact goesN_st (GoesN.zip2 S D1 D2) fun i h => ⟨fun ⟨q1, q2, q3, ⟨q4, q5⟩, q6, q7⟩ => ⟨⟨q1, q2, q3, q4, q6⟩, q5, q7⟩, fun ⟨⟨q1, q2, q3, q4, q6⟩, q5, q7⟩ => ⟨q1, q2, q3, ⟨q4, q5⟩, q6, q7⟩⟩
  · simp
  · intro c h
    have h' : c = z ∨ c = TO ∨ c = i1 ∨ c = i2 := by simpa using h
    rcases h' with rfl | rfl | rfl | rfl <;> simp
  · rintro i h ⟨q1, q2, ⟨c1, c2, q3⟩, q4, q5⟩ c hc
    have hc' : c = z ∨ c = TI ∨ c = TO ∨ c = i1 ∨ c = i2 := by simpa using hc
    rcases hc' with rfl | rfl | rfl | rfl | rfl
    · exact ⟨_, q1, fun v z => nomatch z⟩
    · exact ⟨_, q2, fun v z => nomatch z⟩
    · exact ⟨_, q3, fun v z => nomatch z⟩
    · exact itOn_obj q4
    · exact itOn_obj q5
  · rintro i h h' ⟨q1, q2, ⟨c1, c2, q3⟩, q4, q5⟩ k
    exact ⟨k z (by simp) _ q1, k TI (by simp) _ q2, ⟨c1, c2, k TO (by simp) _ q3⟩, itOn_keep q4 fun o y => k i1 (by simp) o y, itOn_keep q5 fun o y => k i2 (by simp) o y⟩
  · rintro A i s Q E ⟨q1, _⟩ h
    exact wpAny_pyIter_zip q1 h
  · rintro X pins σ H s J ⟨h, h'⟩
    obtain ⟨_, us, rv, so⟩ := shOn_items J h
    obtain ⟨_, us', rv', so'⟩ := shOn_items J h'
    exact ⟨(us, us'), ⟨rv, rv'⟩, so, so'⟩
  · rintro X pins σ H s i v h' ⟨us, xs⟩ J h ⟨r1, r2⟩ hi ⟨T, u, t, rfl, hT, hu, ht, hh⟩
    have l1 : i < vs.length := by omega
    have l2 : i < ws.length := by omega
    have hx : vs[i]? = some vs[i] := List.getElem?_eq_getElem l1
    have hy : ws[i]? = some ws[i] := List.getElem?_eq_getElem l2
    obtain ⟨u', e1, r⟩ := r1.get hx
    obtain ⟨t', e2, r'⟩ := r2.get hy
    rw [show us[i]? = some u from hu] at e1
    rw [show xs[i]? = some t from ht] at e2
    cases e1
    cases e2
    refine ⟨T, [vs[i], ws[i]], [u, t], rfl, hT, hh, .cons r (.cons r' .nil), ?_, vs[i], ws[i], hx, hy, rfl⟩
    show 2 ≤ sizeLine
    decide
end DT

/-! Expressions, one form after another. -/
namespace DT
open PySem L2 PyProof.Rows
theorem bnd_some {α β : Type} {m : M α} {f : α → M β} {g : PState} {r : β × PState} (h : bnd m f g = some r) : ∃ a g1, m g = some (a, g1) ∧ f a g1 = some r := by
  unfold bnd at h
  cases e : m g with
  | none =>
    rw [e] at h
    cases h
  | some p =>
    obtain ⟨a, g1⟩ := p
    rw [e] at h
    exact ⟨a, g1, rfl, h⟩
theorem ofO_some {α : Type} {o : Option α} {g : PState} {a : α} {g' : PState} (h : ofO o g = some (a, g')) : o = some a ∧ g' = g := by
  cases o with
  | none => cases h
  | some b =>
    cases h
    exact ⟨rfl, rfl⟩
theorem ret_some {α : Type} {b : α} {g : PState} {a : α} {g' : PState} (h : ret b g = some (a, g')) : b = a ∧ g' = g := by
  cases h
  exact ⟨rfl, rfl⟩
theorem toB_some {d : D} {g : PState} {b : Bool} {g' : PState} (h : toB d g = some (b, g')) : d = .bool b ∧ g' = g := by
  cases d with
  | bool c =>
    cases h
    exact ⟨rfl, rfl⟩
  | _ => cases h

def tX (F : List Fn) (x : Ex) : TE := fun σ H Q => ∃ M0 sa N ρ g d g', StOk M0 sa N H σ ρ g ∧ ev F x ρ g = some (d, g') ∧ ∀ v H', Res sa N ρ σ x H g' d v H' → Q v H'
def tC (F : List Fn) (x : Ex) : TT := fun σ H Q => ∃ M0 sa N ρ g b g', StOk M0 sa N H σ ρ g ∧ ev F x ρ g = some (.bool b, g') ∧ ∀ H', Keep (isS sa) H H' → SrcOk H' sa g' → Q b H'
def tA (F : List Fn) (xs : Exs) : TA := fun σ H Q => ∃ M0 sa N ρ g ds g', StOk M0 sa N H σ ρ g ∧ evs F xs ρ g = some (ds, g') ∧ ∀ vs H', Keep (isS sa) H H' → SrcOk H' sa g' → VoL sa N ρ σ H' xs ds vs → Q vs H'

section
variable {X : Cx} {F : List Fn} {M0 N : Ms} {sa : Addr × Addr} {H : Hp} {σ : L2.St} {ρ : Rho} {g g1 g2 : PState} {a b : Expr} {xa xb : Ex} {x y : D} {pos : Pos}
/-- two expressions in a row -/
theorem two (S : StOk M0 sa N H σ ρ g) (e1 : ev F xa ρ g = some (x, g1)) (e2 : ev F xb ρ g1 = some (y, g2)) :
    tX F xa σ H fun v H1 => tX F xb σ H1 fun w H2 => StOk M0 sa N H2 σ ρ g2 ∧ Vo sa N ρ σ xa H2 x v ∧ Vo sa N ρ σ xb H2 y w ∧ Keep (isS sa) H H2 ∧ SrcOk H2 sa g2 :=
  ⟨M0, sa, N, ρ, g, x, g1, S, e1, fun v H1 r1 => ⟨M0, sa, N, ρ, g1, y, g2, S.ext r1.keep r1.src, e2, fun w H2 r2 =>
    ⟨(S.ext r1.keep r1.src).ext r2.keep r2.src, S.vo r1.vo r2.keep, r2.vo, r1.keep.trans r2.keep, r2.src⟩⟩⟩
theorem pe_vD {i : Nat} {nm : Str} (hN : X.N[i]? = some nm) (hv : Vis X.env.scope nm) (hd : (nm == ("__debug__" : Str)) = false) (hcd : (nm == ("__classdict__" : Str)) = false) : PE X (.Name nm pos) (tX F (.v i)) := by
  refine ⟨fun pins s σ H Q I h => ?_⟩
  obtain ⟨M0, sa, N, ρ, g, d, g', S, e, q⟩ := h
  rw [ev] at e
  obtain ⟨e0, rfl⟩ := ofO_some e
  unfold getV at e0
  split at e0
  · rename_i own z e1
    obtain rfl := Option.some.inj e0
    obtain ⟨v, e2, o⟩ := S.slot i _ e1
    refine (pe_var hN hv hd hcd).run pins s σ H Q I ⟨v, e2, q v H ⟨.refl, S.src, ?_, fun f => (by cases f)⟩⟩
    cases own with
    | false =>
      have o' : Rep N H z v := o
      exact ⟨(o'.anti fun _ h => h.1).top, fun m a ev n => (o'.addr m ev n).elim, fun m a ev n => o'.addr m ev (S.sS a n)⟩
    | true =>
      refine ⟨o.1.anti fun _ h => h.1, fun m a ev n => ⟨i, List.mem_singleton.mpr rfl, z, e1, m, by rw [e2, ev]⟩, fun m a ev n => ?_⟩
      obtain ⟨b, e3, _, n3⟩ := o.2 m
      rw [ev] at e3
      cases e3
      exact n3 (S.srcIn a n)
  · cases e0
theorem pe_kD {c : D} {k : Const} {j : Nat} (h : (∃ i, c = .int i ∧ k = .int i) ∨ (∃ b, c = .bool b ∧ k = .bool b) ∨ (c = .none ∧ k = .none) ∨ ∃ z, c = .str z ∧ k = .str z) : PE X (.Constant k j pos) (tX F (.k c)) := by
  refine ⟨fun pins s σ H Q I h' => ?_⟩
  obtain ⟨M0, sa, N, ρ, g, d, g', S, e, q⟩ := h'
  rw [ev] at e
  obtain ⟨rfl, rfl⟩ := ret_some e
  rcases h with ⟨i, rfl, rfl⟩ | ⟨b, rfl, rfl⟩ | ⟨rfl, rfl⟩ | ⟨z, rfl, rfl⟩
  · exact pe_int.run pins s σ H Q I (q _ H (.int S i))
  · exact pe_bl.run pins s σ H Q I (q _ H (.bl S b))
  · exact pe_non.run pins s σ H Q I (q _ H (.atom S rfl (by rw [Rep])))
  · exact pe_str.run pins s σ H Q I (q _ H (.str S z))
theorem pe_binD {o : BOp} (ha : PE X a (tX F xa)) (hb : PE X b (tX F xb)) : PE X (.BinOp a (bop o) b pos) (tX F (.bin o xa xb)) := by
  refine ⟨fun pins s σ H Q I h => ?_⟩
  obtain ⟨M0, sa, N, ρ, g, d, g', S, e, q⟩ := h
  rw [ev] at e
  obtain ⟨x, g1, e1, e⟩ := bnd_some e
  obtain ⟨y, g2, e2, e⟩ := bnd_some e
  obtain ⟨e3, rfl⟩ := ofO_some e
  refine wpAny_BinOp (binT ha hb I (two S e1 e2) fun v u s2 x' y' H2 I2 rx ry ⟨S2, o1, o2, k, r⟩ => ?_)
  exact bin_val I2 rx ry S2 o1 o2 e3 fun w H' z => q w H' (z.back k r)
theorem pe_negD (ha : PE X a (tX F xa)) : PE X (.UnaryOp .USub a pos) (tX F (.neg xa)) := by
  refine ⟨fun pins s σ H Q I h => ?_⟩
  obtain ⟨M0, sa, N, ρ, g, d, g', S, e, q⟩ := h
  rw [ev] at e
  obtain ⟨x, g1, e1, e⟩ := bnd_some e
  refine (pe_un un_neg ha).run pins s σ H Q I ⟨M0, sa, N, ρ, g, x, g1, S, e1, fun v H1 r1 => ?_⟩
  cases x with
  | int i =>
    obtain ⟨rfl, rfl⟩ := ret_some e
    obtain rfl := r1.vo.top.int
    exact ⟨i, rfl, q _ H1 (Res.back (.int (S.ext r1.keep r1.src) _) r1.keep r1.src)⟩
  | _ => cases e
theorem pe_notD (ha : PE X a (tX F xa)) : PE X (.UnaryOp .Not a pos) (tX F (.not xa)) := by
  refine ⟨fun pins s σ H Q I h => ?_⟩
  obtain ⟨M0, sa, N, ρ, g, d, g', S, e, q⟩ := h
  rw [ev] at e
  obtain ⟨x, g1, e1, e⟩ := bnd_some e
  obtain ⟨c, g2, e2, e⟩ := bnd_some e
  obtain ⟨rfl, rfl⟩ := toB_some e2
  obtain ⟨rfl, rfl⟩ := ret_some e
  refine (pe_not ha).run pins s σ H Q I ⟨M0, sa, N, ρ, g, _, _, S, e1, fun v H1 r1 => ?_⟩
  obtain rfl := r1.vo.top.bl
  exact ⟨c, rfl, q _ H1 (Res.back (.bl (S.ext r1.keep r1.src) _) r1.keep r1.src)⟩
/-- an expression that gives True or False, as a test -/
theorem pt_D (ha : PE X a (tX F xa)) (he : ∀ whole, isTrue a X.env whole = (do let v ← whole; standAt a.pos; holding [v] (truthy v))) : PT X a (tC F xa) := by
  refine ⟨fun pins s σ H Q I h => ?_⟩
  obtain ⟨M0, sa, N, ρ, g, c, g', S, e, q⟩ := h
  refine (pt_val ha he).run pins s σ H Q I ⟨M0, sa, N, ρ, g, _, g', S, e, fun v H1 r1 => ?_⟩
  obtain rfl := r1.vo.top.bl
  exact ⟨c, rfl, q H1 r1.keep r1.src⟩
theorem pt_notD (ha : PT X a (tC F xa)) : PT X (.UnaryOp .Not a pos) (tC F (.not xa)) := by
  refine ⟨fun pins s σ H Q I h => ?_⟩
  obtain ⟨M0, sa, N, ρ, g, c, g', S, e, q⟩ := h
  rw [ev] at e
  obtain ⟨x, g1, e1, e⟩ := bnd_some e
  obtain ⟨c', g2, e2, e⟩ := bnd_some e
  obtain ⟨rfl, rfl⟩ := toB_some e2
  obtain ⟨e3, rfl⟩ := ret_some e
  cases e3
  exact (pt_not ha).run pins s σ H Q I ⟨M0, sa, N, ρ, g, c', _, S, e1, fun H1 k r => q H1 k r⟩
theorem pe_iteD {t : Expr} {xt : Ex} (ht : PT X t (tC F xt)) (ha : PE X a (tX F xa)) (hb : PE X b (tX F xb)) : PE X (.IfExp t a b pos) (tX F (.ite xt xa xb)) := by
  refine ⟨fun pins s σ H Q I h => ?_⟩
  obtain ⟨M0, sa, N, ρ, g, d, g', S, e, q⟩ := h
  rw [ev] at e
  obtain ⟨x, g1, e1, e⟩ := bnd_some e
  obtain ⟨c, g2, e2, e⟩ := bnd_some e
  obtain ⟨rfl, rfl⟩ := toB_some e2
  refine (pe_ifExp ht ha hb).run pins s σ H Q I ⟨M0, sa, N, ρ, g, c, _, S, e1, fun H1 k r => ?_⟩
  have wide : ∀ (z : Ex) (w : V) (H' : Hp), Res sa N ρ σ z H1 g' d w H' → (∀ i, i ∈ esi z → i ∈ esi (.ite xt xa xb)) → (∀ i, i ∈ ael z → i ∈ ael (.ite xt xa xb)) → Res sa N ρ σ (.ite xt xa xb) H g' d w H' := fun z w H' r2 w1 w2 => by
    refine ⟨k.trans r2.keep, r2.src, ⟨r2.vo.top.anti fun _ h => less_mono w1 h, fun m a ev n => ?_, r2.vo.nos⟩, fun f => (by cases f)⟩
    obtain ⟨i, hi, o⟩ := r2.vo.al m a ev n
    exact ⟨i, w2 i hi, o⟩
  cases c with
  | true => exact iteT ⟨M0, sa, N, ρ, _, d, g', S.ext k r, e, fun w H' r2 => q w H' (wide xa w H' r2 (fun _ h => List.mem_append_left _ h) fun _ h => List.mem_append_left _ h)⟩
  | false => exact iteF ⟨M0, sa, N, ρ, _, d, g', S.ext k r, e, fun w H' r2 => q w H' (wide xb w H' r2 (fun _ h => List.mem_append_right _ h) fun _ h => List.mem_append_right _ h)⟩
theorem pe_ixD (hu : X.A.units + 65 < cLine) (ha : PE X a (tX F xa)) (hb : PE X b (tX F xb)) (hs : PlainIx b) : PE X (.Subscript a b pos) (tX F (.ix xa xb)) := by
  refine ⟨fun pins s σ H Q I h => ?_⟩
  obtain ⟨M0, sa, N, ρ, g, d, g', S, e, q⟩ := h
  rw [ev] at e
  obtain ⟨x, g1, e1, e⟩ := bnd_some e
  obtain ⟨y, g2, e2, e⟩ := bnd_some e
  obtain ⟨e3, rfl⟩ := ofO_some e
  refine Subscript_ (binT ha hb I (two S e1 e2) fun v u s2 x' y' H2 I2 rx ry ⟨S2, o1, o2, k, r⟩ => ?_)
  exact ix_val hu I2 rx ry S2 o1 o2 e3 (hs _ _) fun w H' z => q w H' (z.back k r)

/-! ### displays, arguments -/
theorem pa_nilD : PA X [] (tA F .nil) := by
  refine ⟨fun pos pins s σ H Q I h => ?_⟩
  obtain ⟨M0, sa, N, ρ, g, ds, g', S, e, q⟩ := h
  rw [evs] at e
  obtain ⟨rfl, rfl⟩ := ret_some e
  exact pa_nil.run pos pins s σ H Q I (q [] H .refl S.src ⟨rfl, rfl⟩)
theorem pa_consD {es : List Expr} {xr : Exs} (ha : PE X a (tX F xa)) (hr : PA X es (tA F xr)) (hs : starEach (a :: es) X.env = (false, eval a X.env) :: starEach es X.env) : PA X (a :: es) (tA F (.cons xa xr)) := by
  refine ⟨fun pos pins s σ H Q I h => ?_⟩
  obtain ⟨M0, sa, N, ρ, g, ds, g', S, e, q⟩ := h
  rw [evs] at e
  obtain ⟨x, g1, e1, e⟩ := bnd_some e
  obtain ⟨xs, g2, e2, e⟩ := bnd_some e
  obtain ⟨rfl, rfl⟩ := ret_some e
  refine (pa_cons ha hr hs).run pos pins s σ H Q I ⟨M0, sa, N, ρ, g, x, g1, S, e1, fun v H1 r1 => ⟨M0, sa, N, ρ, g1, xs, _, S.ext r1.keep r1.src, e2, fun vs H2 k r2 o => ?_⟩⟩
  exact q _ H2 (r1.keep.trans k) r2 ⟨x, xs, v, vs, rfl, rfl, S.vo r1.vo k, o⟩
def lenE : Exs → Nat
  | .nil => 0
  | .cons _ r => lenE r + 1
theorem evs_len : ∀ {xs : Exs} {ρ : Rho} {g g' : PState} {ds : List D}, evs F xs ρ g = some (ds, g') → ds.length = lenE xs
  | .nil, _, _, _, _, e => by
    rw [evs] at e
    obtain ⟨rfl, _⟩ := ret_some e
    rfl
  | .cons x r, _, _, _, _, e => by
    rw [evs] at e
    obtain ⟨x, g1, e1, e⟩ := bnd_some e
    obtain ⟨xs, g2, e2, e⟩ := bnd_some e
    obtain ⟨rfl, rfl⟩ := ret_some e
    rw [List.length_cons, evs_len e2]
    rfl
theorem pe_tupD {es : List Expr} {xs : Exs} {k : Nat} (h : PA X es (tA F xs)) (hl : lenE xs ≤ 1000) : PE X (.Tuple es k pos) (tX F (.tup xs)) := by
  refine ⟨fun pins s σ H Q I h' => ?_⟩
  obtain ⟨M0, sa, N, ρ, g, d, g', S, e, q⟩ := h'
  rw [ev] at e
  obtain ⟨ds, g1, e1, e⟩ := bnd_some e
  obtain ⟨rfl, rfl⟩ := ret_some e
  have hz : ds.length ≤ LINE := by
    rw [evs_len e1]
    exact Nat.le_trans hl (by decide)
  refine wpAny_Tuple_spliced (thn (h.run pos pins s σ H (fun vs H1 => Keep (isS sa) H H1 ∧ SrcOk H1 sa g' ∧ VoL sa N ρ σ H1 xs ds vs) I ⟨M0, sa, N, ρ, g, ds, _, S, e1, fun vs H1 k r o => ⟨k, r, o⟩⟩) fun us s1 ⟨vs, H1, I1, rv, k, r, o⟩ => ?_)
  have hl : vs.length ≤ sizeLine := by
    rw [o.length, ← lineEq]
    exact hz
  have hf : H1 s1.heap.objs.size = none := I1.hok.fresh (Nat.le_refl _)
  refine ⟨by rw [← rv.length]; exact hl, .ref s1.heap.objs.size, _, I1.laid (t' := s1.toks) (o := tupO (tupN us) vs) (fun b u e => Heap.get?_push_of_some _ e) (Nat.le_refl _) (objOk_tup hl rv (Heap.get?_push_size _ rfl)), rfl, q _ _ (Res.back (.tup rfl (S.ext k r) hf o.reps hz) k r)⟩
theorem pe_lstD {es : List Expr} {xs : Exs} (h : PA X es (tA F xs)) (hl : lenE xs ≤ 1000) : PE X (.List es pos) (tX F (.lst xs)) := by
  refine ⟨fun pins s σ H Q I h' => ?_⟩
  obtain ⟨M0, sa, N, ρ, g, d, g', S, e, q⟩ := h'
  rw [ev] at e
  obtain ⟨ds, g1, e1, e⟩ := bnd_some e
  obtain ⟨rfl, rfl⟩ := ret_some e
  have hz : ds.length ≤ LINE := by
    rw [evs_len e1]
    exact Nat.le_trans hl (by decide)
  refine (pe_lst h).run pins s σ H Q I ⟨M0, sa, N, ρ, g, ds, _, S, e1, fun vs H1 k r o => ⟨?_, fun p hp => q _ _ (Res.back (.lst (S.ext k r) hp o.reps hz) k r)⟩⟩
  rw [o.length, ← lineEq]
  exact hz
end
end DT

/-! and, or, comparisons, slices. -/
namespace DT
open PySem L2 PyProof.Rows
def tXA (F : List Fn) (xs : Exs) : TE := fun σ H Q => ∃ M0 sa N ρ g b g', StOk M0 sa N H σ ρ g ∧ evA F xs ρ g = some (b, g') ∧ ∀ H', Keep (isS sa) H H' → SrcOk H' sa g' → Q (.bl b) H'
def tXO (F : List Fn) (xs : Exs) : TE := fun σ H Q => ∃ M0 sa N ρ g b g', StOk M0 sa N H σ ρ g ∧ evO F xs ρ g = some (b, g') ∧ ∀ H', Keep (isS sa) H H' → SrcOk H' sa g' → Q (.bl b) H'
def tCA (F : List Fn) (xs : Exs) : TT := fun σ H Q => ∃ M0 sa N ρ g b g', StOk M0 sa N H σ ρ g ∧ evA F xs ρ g = some (b, g') ∧ ∀ H', Keep (isS sa) H H' → SrcOk H' sa g' → Q b H'
def tCO (F : List Fn) (xs : Exs) : TT := fun σ H Q => ∃ M0 sa N ρ g b g', StOk M0 sa N H σ ρ g ∧ evO F xs ρ g = some (b, g') ∧ ∀ H', Keep (isS sa) H H' → SrcOk H' sa g' → Q b H'
section
variable {X : Cx} {F : List Fn} {M0 N : Ms} {sa : Addr × Addr} {H : Hp} {σ : L2.St} {ρ : Rho} {g g1 g2 : PState} {a b : Expr} {es : List Expr} {xa xb : Ex} {xr : Exs} {x y : D} {pos : Pos}
theorem bool_some {m : M D} {g : PState} {b : Bool} {g' : PState} (h : bnd m toB g = some (b, g')) : m g = some (.bool b, g') := by
  obtain ⟨x, g1, e1, e2⟩ := bnd_some h
  obtain ⟨rfl, rfl⟩ := toB_some e2
  exact e1
theorem pe_and1D (ha : PE X a (tX F xa)) : PE X (.BoolOp .And [a] pos) (tXA F (.cons xa .nil)) := by
  refine ⟨fun pins s σ H Q I h => ?_⟩
  obtain ⟨M0, sa, N, ρ, g, c, g', S, e, q⟩ := h
  rw [evA] at e
  refine (pe_one ha).run pins s σ H Q I ⟨M0, sa, N, ρ, g, _, g', S, bool_some e, fun v H1 r1 => ?_⟩
  obtain rfl := r1.vo.top.bl
  exact q H1 r1.keep r1.src
theorem pe_or1D (ha : PE X a (tX F xa)) : PE X (.BoolOp .Or [a] pos) (tXO F (.cons xa .nil)) := by
  refine ⟨fun pins s σ H Q I h => ?_⟩
  obtain ⟨M0, sa, N, ρ, g, c, g', S, e, q⟩ := h
  rw [evO] at e
  refine (pe_one ha).run pins s σ H Q I ⟨M0, sa, N, ρ, g, _, g', S, bool_some e, fun v H1 r1 => ?_⟩
  obtain rfl := r1.vo.top.bl
  exact q H1 r1.keep r1.src
theorem pe_andD {xe : Ex} {xt : Exs} (ha : PE X a (tX F xa)) (hb : PE X (.BoolOp .And (b :: es) pos) (tXA F (.cons xe xt))) : PE X (.BoolOp .And (a :: b :: es) pos) (tXA F (.cons xa (.cons xe xt))) := by
  refine ⟨fun pins s σ H Q I h => ?_⟩
  obtain ⟨M0, sa, N, ρ, g, c, g', S, e, q⟩ := h
  rw [evA] at e
  · obtain ⟨x, g1, e1, e⟩ := bnd_some e
    obtain ⟨t, g2, e2, e⟩ := bnd_some e
    obtain ⟨rfl, rfl⟩ := toB_some e2
    refine (pe_and ha hb).run pins s σ H Q I ⟨M0, sa, N, ρ, g, _, _, S, e1, fun v H1 r1 => ?_⟩
    obtain rfl := r1.vo.top.bl
    refine ⟨t, rfl, ?_⟩
    cases t with
    | true => exact iteT ⟨M0, sa, N, ρ, _, c, g', S.ext r1.keep r1.src, e, fun H' k r => q H' (r1.keep.trans k) r⟩
    | false =>
      obtain ⟨rfl, rfl⟩ := ret_some e
      exact iteF (q H1 r1.keep r1.src)
  · exact fun z => by cases z
theorem pe_orD {xe : Ex} {xt : Exs} (ha : PE X a (tX F xa)) (hb : PE X (.BoolOp .Or (b :: es) pos) (tXO F (.cons xe xt))) : PE X (.BoolOp .Or (a :: b :: es) pos) (tXO F (.cons xa (.cons xe xt))) := by
  refine ⟨fun pins s σ H Q I h => ?_⟩
  obtain ⟨M0, sa, N, ρ, g, c, g', S, e, q⟩ := h
  rw [evO] at e
  · obtain ⟨x, g1, e1, e⟩ := bnd_some e
    obtain ⟨t, g2, e2, e⟩ := bnd_some e
    obtain ⟨rfl, rfl⟩ := toB_some e2
    refine (pe_or ha hb).run pins s σ H Q I ⟨M0, sa, N, ρ, g, _, _, S, e1, fun v H1 r1 => ?_⟩
    obtain rfl := r1.vo.top.bl
    refine ⟨t, rfl, ?_⟩
    cases t with
    | false => exact iteF ⟨M0, sa, N, ρ, _, c, g', S.ext r1.keep r1.src, e, fun H' k r => q H' (r1.keep.trans k) r⟩
    | true =>
      obtain ⟨rfl, rfl⟩ := ret_some e
      exact iteT (q H1 r1.keep r1.src)
  · exact fun z => by cases z
theorem pe_ofA (h : PE X a (tXA F xr)) : PE X a (tX F (.and xr)) := by
  refine ⟨fun pins s σ H Q I h' => ?_⟩
  obtain ⟨M0, sa, N, ρ, g, d, g', S, e, q⟩ := h'
  rw [ev] at e
  obtain ⟨b, g1, e1, e⟩ := bnd_some e
  obtain ⟨rfl, rfl⟩ := ret_some e
  exact h.run pins s σ H Q I ⟨M0, sa, N, ρ, g, b, _, S, e1, fun H' k r => q _ H' (Res.back (.bl (S.ext k r) _) k r)⟩
theorem pe_ofO (h : PE X a (tXO F xr)) : PE X a (tX F (.or xr)) := by
  refine ⟨fun pins s σ H Q I h' => ?_⟩
  obtain ⟨M0, sa, N, ρ, g, d, g', S, e, q⟩ := h'
  rw [ev] at e
  obtain ⟨b, g1, e1, e⟩ := bnd_some e
  obtain ⟨rfl, rfl⟩ := ret_some e
  exact h.run pins s σ H Q I ⟨M0, sa, N, ρ, g, b, _, S, e1, fun H' k r => q _ H' (Res.back (.bl (S.ext k r) _) k r)⟩
/-- as tests -/
theorem pw_and1D (ha : PT X a (tC F xa)) : PW X (.BoolOp .And [a] pos) (tCA F (.cons xa .nil)) := by
  refine ⟨fun wh pins s σ H Q I h => ?_⟩
  obtain ⟨M0, sa, N, ρ, g, c, g', S, e, q⟩ := h
  rw [evA] at e
  exact (pw_and1 ha).run wh pins s σ H Q I ⟨M0, sa, N, ρ, g, c, g', S, bool_some e, q⟩
theorem pw_or1D (ha : PT X a (tC F xa)) : PW X (.BoolOp .Or [a] pos) (tCO F (.cons xa .nil)) := by
  refine ⟨fun wh pins s σ H Q I h => ?_⟩
  obtain ⟨M0, sa, N, ρ, g, c, g', S, e, q⟩ := h
  rw [evO] at e
  exact (pw_or1 ha).run wh pins s σ H Q I ⟨M0, sa, N, ρ, g, c, g', S, bool_some e, q⟩
theorem pw_andD {xe : Ex} {xt : Exs} (ha : PT X a (tC F xa)) (hb : PW X (.BoolOp .And (b :: es) pos) (tCA F (.cons xe xt))) : PW X (.BoolOp .And (a :: b :: es) pos) (tCA F (.cons xa (.cons xe xt))) := by
  refine ⟨fun wh pins s σ H Q I h => ?_⟩
  obtain ⟨M0, sa, N, ρ, g, c, g', S, e, q⟩ := h
  rw [evA] at e
  · obtain ⟨x, g1, e1, e⟩ := bnd_some e
    obtain ⟨t, g2, e2, e⟩ := bnd_some e
    obtain ⟨rfl, rfl⟩ := toB_some e2
    refine (pw_and ha hb).run wh pins s σ H Q I ⟨M0, sa, N, ρ, g, t, _, S, e1, fun H1 k r => ?_⟩
    cases t with
    | true => exact iteT ⟨M0, sa, N, ρ, _, c, g', S.ext k r, e, fun H' k' r' => q H' (k.trans k') r'⟩
    | false =>
      obtain ⟨rfl, rfl⟩ := ret_some e
      exact iteF (q H1 k r)
  · exact fun z => by cases z
theorem pw_orD {xe : Ex} {xt : Exs} (ha : PT X a (tC F xa)) (hb : PW X (.BoolOp .Or (b :: es) pos) (tCO F (.cons xe xt))) : PW X (.BoolOp .Or (a :: b :: es) pos) (tCO F (.cons xa (.cons xe xt))) := by
  refine ⟨fun wh pins s σ H Q I h => ?_⟩
  obtain ⟨M0, sa, N, ρ, g, c, g', S, e, q⟩ := h
  rw [evO] at e
  · obtain ⟨x, g1, e1, e⟩ := bnd_some e
    obtain ⟨t, g2, e2, e⟩ := bnd_some e
    obtain ⟨rfl, rfl⟩ := toB_some e2
    refine (pw_or ha hb).run wh pins s σ H Q I ⟨M0, sa, N, ρ, g, t, _, S, e1, fun H1 k r => ?_⟩
    cases t with
    | false => exact iteF ⟨M0, sa, N, ρ, _, c, g', S.ext k r, e, fun H' k' r' => q H' (k.trans k') r'⟩
    | true =>
      obtain ⟨rfl, rfl⟩ := ret_some e
      exact iteT (q H1 k r)
  · exact fun z => by cases z
theorem pt_ofA (h : PW X a (tCA F xr)) : PT X a (tC F (.and xr)) := by
  refine ⟨fun pins s σ H Q I h' => ?_⟩
  obtain ⟨M0, sa, N, ρ, g, c, g', S, e, q⟩ := h'
  rw [ev] at e
  obtain ⟨b, g1, e1, e⟩ := bnd_some e
  obtain ⟨e2, rfl⟩ := ret_some e
  cases e2
  exact h.pt.run pins s σ H Q I ⟨M0, sa, N, ρ, g, _, _, S, e1, q⟩
theorem pt_ofO (h : PW X a (tCO F xr)) : PT X a (tC F (.or xr)) := by
  refine ⟨fun pins s σ H Q I h' => ?_⟩
  obtain ⟨M0, sa, N, ρ, g, c, g', S, e, q⟩ := h'
  rw [ev] at e
  obtain ⟨b, g1, e1, e⟩ := bnd_some e
  obtain ⟨e2, rfl⟩ := ret_some e
  cases e2
  exact h.pt.run pins s σ H Q I ⟨M0, sa, N, ρ, g, _, _, S, e1, q⟩

/-! ### comparisons -/
/-- the rest of a chain, behind its first value -/
def PCh (X : Cx) (F : List Fn) (ops : List CmpOp) (es : List Expr) (cs : Cps) : Prop :=
  ∀ (pos : Pos) (pins : List (Addr × Obj)) (s : Shared) (σ : L2.St) (H : Hp) (M0 : Ms) (sa : Addr × Addr) (N : Ms) (ρ : Rho) (g g' : PState) (xa : Ex) (x : D) (w : V) (v : Value) (c : Bool), L2.Inv X pins σ H s → StOk M0 sa N H σ ρ g → RelV w v → Vo sa N ρ σ xa H x w → evC F x cs ρ g = some (c, g') →
    (∀ Q : VK, (∀ H', Keep (isS sa) H H' → SrcOk H' sa g' → Q (.bl c) H') → wpAny (model X.prog X.w) X.A (compareChain pos v ops (evalEach es X.env)) (EP X pins σ Q) X.xe s) ∧
    (∀ Q : Bool → Hp → Prop, (∀ H', Keep (isS sa) H H' → SrcOk H' sa g' → Q c H') → wpAny (model X.prog X.w) X.A (testChain pos v ops (evalEach es X.env)) (TP X pins σ Q) X.xe s)
theorem pch_one {o : COp} (hu : X.A.units + 65 < cLine) (hb : PE X b (tX F xb)) : PCh X F [cop o] [b] (.cons o xb .nil) := by
  intro pos pins s σ H M0 sa N ρ g g' xa x w v c I S rw_ ov e
  rw [evC] at e
  obtain ⟨y, g1, e1, e⟩ := bnd_some e
  obtain ⟨e2, rfl⟩ := ofO_some e
  refine ⟨fun Q q => chain_last (thn (hb.run pins s σ H (fun u H1 => Vo sa N ρ σ xb H1 y u ∧ Keep (isS sa) H H1 ∧ SrcOk H1 sa g') I ⟨M0, sa, N, ρ, g, y, g', S, e1, fun u H1 r => ⟨r.vo, r.keep, r.src⟩⟩) fun u s1 ⟨z, H1, I1, ru, o1, k, r⟩ => ?_),
    fun Q q => test_last (thn (hb.run pins s σ H (fun u H1 => Vo sa N ρ σ xb H1 y u ∧ Keep (isS sa) H H1 ∧ SrcOk H1 sa g') I ⟨M0, sa, N, ρ, g, y, g', S, e1, fun u H1 r => ⟨r.vo, r.keep, r.src⟩⟩) fun u s1 ⟨z, H1, I1, ru, o1, k, r⟩ => ?_)⟩
  · exact cmp_val hu I1 rw_ ru (S.vo ov k).top o1.top e2 (q H1 k r)
  · refine thn (cmp_val (Q := fun t H2 => t = .bl c ∧ H2 = H1) hu I1 rw_ ru (S.vo ov k).top o1.top e2 ⟨rfl, rfl⟩) fun t s2 ⟨t', H2, I2, rt, et, eH⟩ => ?_
    subst et eH
    cases rt
    exact wpAny_truthy_bool ⟨H2, I2, q H2 k r⟩
theorem pch_cons {o o' : COp} {ops : List CmpOp} {b' : Expr} {cs : Cps} {xb' : Ex} (hu : X.A.units + 65 < cLine) (hb : PE X b (tX F xb)) (hr : PCh X F (cop o' :: ops) (b' :: es) (.cons o' xb' cs)) : PCh X F (cop o :: cop o' :: ops) (b :: b' :: es) (.cons o xb (.cons o' xb' cs)) := by
  intro pos pins s σ H M0 sa N ρ g g' xa x w v c I S rw_ ov e
  rw [evC] at e
  · obtain ⟨y, g1, e1, e⟩ := bnd_some e
    obtain ⟨t, g2, e2, e⟩ := bnd_some e
    obtain ⟨e3, rfl⟩ := ofO_some e2
    refine ⟨fun Q q => chain_link (thn (hb.run pins s σ H (fun u H1 => Vo sa N ρ σ xb H1 y u ∧ Keep (isS sa) H H1 ∧ SrcOk H1 sa g2) I ⟨M0, sa, N, ρ, g, y, g2, S, e1, fun u H1 r => ⟨r.vo, r.keep, r.src⟩⟩) fun u s1 ⟨z, H1, I1, ru, o1, k, r⟩ => ?_),
      fun Q q => test_link (thn (hb.run pins s σ H (fun u H1 => Vo sa N ρ σ xb H1 y u ∧ Keep (isS sa) H H1 ∧ SrcOk H1 sa g2) I ⟨M0, sa, N, ρ, g, y, g2, S, e1, fun u H1 r => ⟨r.vo, r.keep, r.src⟩⟩) fun u s1 ⟨z, H1, I1, ru, o1, k, r⟩ => ?_)⟩
    · refine thn (cmp_val (Q := fun t' H2 => t' = .bl t ∧ H2 = H1) hu I1 rw_ ru (S.vo ov k).top o1.top e3 ⟨rfl, rfl⟩) fun t1 s2 ⟨t', H2, I2, rt, et, eH⟩ => ?_
      subst et eH
      cases rt
      refine wpAny_truthy_bool ?_
      cases t with
      | true => exact ite_tt ((hr pos pins s2 σ H2 M0 sa N ρ _ g' xb y z u c I2 (S.ext k r) ru o1 e).1 Q fun H' k' r' => q H' (k.trans k') r')
      | false =>
        obtain ⟨rfl, rfl⟩ := ret_some e
        exact ite_ff ⟨.bl false, H2, I2, rfl, q H2 k r⟩
    · refine thn (cmp_val (Q := fun t' H2 => t' = .bl t ∧ H2 = H1) hu I1 rw_ ru (S.vo ov k).top o1.top e3 ⟨rfl, rfl⟩) fun t1 s2 ⟨t', H2, I2, rt, et, eH⟩ => ?_
      subst et eH
      cases rt
      refine wpAny_truthy_bool ?_
      cases t with
      | true => exact ite_tt ((hr pos pins s2 σ H2 M0 sa N ρ _ g' xb y z u c I2 (S.ext k r) ru o1 e).2 Q fun H' k' r' => q H' (k.trans k') r')
      | false =>
        obtain ⟨rfl, rfl⟩ := ret_some e
        exact ite_ff ⟨H2, I2, q H2 k r⟩
  · exact fun z => by cases z
theorem pe_cmpD {ops : List CmpOp} {cs : Cps} (hm : lastMarks ops es = false) (ha : PE X a (tX F xa)) (h : PCh X F ops es cs) : PE X (.Compare a ops es pos) (tX F (.cmp xa cs)) := by
  refine ⟨fun pins s σ H Q I h' => ?_⟩
  obtain ⟨M0, sa, N, ρ, g, d, g', S, e, q⟩ := h'
  rw [ev] at e
  obtain ⟨x, g1, e1, e⟩ := bnd_some e
  obtain ⟨c, g2, e2, e⟩ := bnd_some e
  obtain ⟨rfl, rfl⟩ := ret_some e
  show wpAny _ _ (do compareChain pos (← eval a X.env) ops (markedEach ops es (evalEach es X.env))) _ _ s
  rw [markedEach_of_false _ _ _ hm]
  refine wpAny_bind (thn (ha.run pins s σ H (fun u H1 => Vo sa N ρ σ xa H1 x u ∧ Keep (isS sa) H H1 ∧ SrcOk H1 sa g1) I ⟨M0, sa, N, ρ, g, x, g1, S, e1, fun u H1 r => ⟨r.vo, r.keep, r.src⟩⟩) fun v s1 ⟨z, H1, I1, rv, o1, k, r⟩ => ?_)
  exact (h pos pins s1 σ H1 M0 sa N ρ g1 g' xa x z v c I1 (S.ext k r) rv o1 e2).1 Q fun H' k' r' => q _ H' (Res.back (.bl (S.ext (k.trans k') r') _) (k.trans k') r')
theorem pt_cmpD {ops : List CmpOp} {cs : Cps} (hm : lastMarks ops es = false) (ha : PE X a (tX F xa)) (h : PCh X F ops es cs) : PT X (.Compare a ops es pos) (tC F (.cmp xa cs)) := by
  refine ⟨fun pins s σ H Q I h' => ?_⟩
  obtain ⟨M0, sa, N, ρ, g, d, g', S, e, q⟩ := h'
  rw [ev] at e
  obtain ⟨x, g1, e1, e⟩ := bnd_some e
  obtain ⟨c, g2, e2, e⟩ := bnd_some e
  obtain ⟨e3, rfl⟩ := ret_some e
  cases e3
  show wpAny _ _ (do testChain pos (← eval a X.env) ops (markedEach ops es (evalEach es X.env))) _ _ s
  rw [markedEach_of_false _ _ _ hm]
  refine wpAny_bind (thn (ha.run pins s σ H (fun u H1 => Vo sa N ρ σ xa H1 x u ∧ Keep (isS sa) H H1 ∧ SrcOk H1 sa g1) I ⟨M0, sa, N, ρ, g, x, g1, S, e1, fun u H1 r => ⟨r.vo, r.keep, r.src⟩⟩) fun v s1 ⟨z, H1, I1, rv, o1, k, r⟩ => ?_)
  exact (h pos pins s1 σ H1 M0 sa N ρ g1 _ xa x z v _ I1 (S.ext k r) rv o1 e2).2 Q fun H' k' r' => q H' (k.trans k') r'
end
end DT

/-! Slices, calls of built-ins. -/
namespace DT
open PySem L2 PyProof.Rows
def tP (F : List Fn) (x : Ex) : TO := fun σ H Q => ∃ M0 sa N ρ g o g', StOk M0 sa N H σ ρ g ∧ evP F x ρ g = some (o, g') ∧ ∀ H', Keep (isS sa) H H' → SrcOk H' sa g' → Q o H'
section
variable {X : Cx} {F : List Fn} {M0 N : Ms} {sa : Addr × Addr} {H : Hp} {σ τ : L2.St} {ρ : Rho} {g g1 g2 : PState} {a b : Expr} {es : List Expr} {xa xb : Ex} {xr : Exs} {x y : D} {pos : Pos}
theorem po_noneD : PO X none (tP F .abs) := by
  refine ⟨fun pins s σ H Q I h => ?_⟩
  obtain ⟨M0, sa, N, ρ, g, o, g', S, e, q⟩ := h
  rw [evP] at e
  obtain ⟨rfl, rfl⟩ := ret_some e
  exact po_none.run pins s σ H Q I (q H .refl S.src)
theorem po_someD (ha : PE X a (tX F xa)) (n : xa ≠ .abs) : PO X (some a) (tP F xa) := by
  refine ⟨fun pins s σ H Q I h => ?_⟩
  obtain ⟨M0, sa, N, ρ, g, o, g', S, e, q⟩ := h
  rw [evP] at e
  · obtain ⟨x, g1, e1, e⟩ := bnd_some e
    refine (po_some ha).run pins s σ H Q I ⟨M0, sa, N, ρ, g, x, g1, S, e1, fun v H1 r => ?_⟩
    cases x with
    | int i =>
      obtain ⟨rfl, rfl⟩ := ret_some e
      exact ⟨i, r.vo.top.int, q H1 r.keep r.src⟩
    | _ => cases e
  · exact n
theorem sl_D : SlR X (fun z lo hi H Q => ∃ M0 sa N ρ σ g xa dx d xl xh, StOk M0 sa N H σ ρ g ∧ Vo sa N ρ σ xa H dx z ∧ slO dx lo hi = some d ∧ ∀ w H', Res sa N ρ σ (.sl xa xl xh) H g d w H' → Q w H') := by
  intro pins s σ H x v vl vu lo hi sl Q I rx hs pl pu h
  obtain ⟨M0, sa, N, ρ, τ, g, xa, dx, d, xl, xh, S, o, e, q⟩ := h
  exact sl_val I rx S o hs pl pu e q
theorem pe_slD {lo hi : Option Expr} {xl xh : Ex} {p2 : Pos} (ha : PE X a (tX F xa)) (hl : PO X lo (tP F xl)) (hh : PO X hi (tP F xh)) : PE X (.Subscript a (.Slice lo hi none p2) pos) (tX F (.sl xa xl xh)) := by
  refine ⟨fun pins s σ H Q I h => ?_⟩
  obtain ⟨M0, sa, N, ρ, g, d, g', S, e, q⟩ := h
  rw [ev] at e
  obtain ⟨x, g1, e1, e⟩ := bnd_some e
  obtain ⟨l, g2, e2, e⟩ := bnd_some e
  obtain ⟨u, g3, e3, e⟩ := bnd_some e
  obtain ⟨e4, rfl⟩ := ofO_some e
  refine (pe_slice sl_D ha hl hh).run pins s σ H Q I ⟨M0, sa, N, ρ, g, x, g1, S, e1, fun v H1 r => ⟨M0, sa, N, ρ, g1, l, g2, S.ext r.keep r.src, e2, fun H2 k2 r2 => ⟨M0, sa, N, ρ, g2, u, _, (S.ext r.keep r.src).ext k2 r2, e3, fun H3 k3 r3 => ?_⟩⟩⟩
  exact ⟨M0, sa, N, ρ, σ, _, xa, x, d, xl, xh, ((S.ext r.keep r.src).ext k2 r2).ext k3 r3, S.vo r.vo (k2.trans k3), e4, fun w H' z => q w H' (z.back (r.keep.trans (k2.trans k3)) r3)⟩

/-! ### t[a:b:-1] -/
theorem rev_pick {α : Type} (xs : List α) (p q : Nat) (hp : p ≤ xs.length) : (List.range (p - q)).filterMap (fun j => xs[p - 1 - j]?) = ((xs.take p).drop q).reverse := by
  have e1 : (List.range (p - q)).filterMap (fun j => xs[p - 1 - j]?) = ((List.range (p - q)).map (fun j => xs[p - 1 - j]?)).filterMap id := by rw [List.filterMap_map]; rfl
  have e2 : (List.range (p - q)).map (fun j => xs[p - 1 - j]?) = (((xs.take p).drop q).reverse).map some := by
    apply List.ext_getElem
    · simp
      omega
    · intro i h1 h2
      have h3 : i < p - q := by simpa using h1
      have h4 : p - 1 - i < xs.length := by omega
      simp only [List.getElem_map, List.getElem_range, List.getElem_reverse, List.getElem_drop, List.getElem_take, List.length_drop, List.length_take]
      rw [List.getElem?_eq_getElem h4]
      congr 1
      congr 1
      rw [Nat.min_eq_left hp]
      omega
  rw [e1, e2, List.filterMap_map]
  simp
theorem rIx_le {n : Nat} {d : Int} {o : Option Int} (h1 : -1 ≤ d) (h2 : d ≤ (n : Int) - 1) : -1 ≤ rIx n d o ∧ rIx n d o ≤ (n : Int) - 1 := by
  unfold rIx
  cases o with
  | none => exact ⟨h1, h2⟩
  | some i =>
    show -1 ≤ (if i < 0 then max (i + n) (-1) else min i (n - 1)) ∧ (if i < 0 then max (i + n) (-1) else min i (n - 1)) ≤ (n : Int) - 1
    by_cases hi : i < 0
    · rw [if_pos hi]
      omega
    · rw [if_neg hi]
      omega
theorem adjust_rev (lo hi : Option Int) (n : Nat) : Builtin.Slice.sliceAdjust lo hi (-1) (n : Int) = (rIx n ((n : Int) - 1) lo, rIx n (-1) hi) := by
  have h1 : (-1 : Int) < 0 := by omega
  unfold Builtin.Slice.sliceAdjust rIx
  simp only [h1, if_true]
  cases lo <;> cases hi <;> rfl
theorem places_rev (i j : Int) : Builtin.Slice.slicePlaces i j (-1) = (i - j).toNat := by
  unfold Builtin.Slice.slicePlaces
  have h1 : ¬ (-1 : Int) > 0 := by omega
  simp only [h1, if_false]
  split
  · have : (i - j - 1) / - -1 = i - j - 1 := by
      rw [show (- -1 : Int) = 1 from rfl, Int.ediv_one]
    rw [this]
    congr 1
    omega
  · omega
theorem fm_congr {α β : Type} {f h : α → Option β} : ∀ {l : List α}, (∀ x, x ∈ l → f x = h x) → l.filterMap f = l.filterMap h
  | [], _ => rfl
  | x :: r, e => by
    rw [List.filterMap_cons, List.filterMap_cons, e x List.mem_cons_self, fm_congr fun y hy => e y (List.mem_cons_of_mem _ hy)]
theorem cutR_pick (xs : Array Value) (lo hi : Option Int) : ((List.range (rIx xs.size ((xs.size : Int) - 1) lo - rIx xs.size (-1) hi).toNat).filterMap fun (k : Nat) => xs[(rIx xs.size ((xs.size : Int) - 1) lo + (k : Int) * -1).toNat]?) = cutR xs.toList lo hi := by
  obtain ⟨a1, a2⟩ := rIx_le (n := xs.size) (o := lo) (d := (xs.size : Int) - 1) (by omega) (by omega)
  obtain ⟨b1, b2⟩ := rIx_le (n := xs.size) (o := hi) (d := -1) (by omega) (by omega)
  unfold cutR
  rw [← rev_pick, Array.length_toList]
  · generalize rIx xs.size ((xs.size : Int) - 1) lo = p at *
    generalize rIx xs.size (-1) hi = q at *
    have e : (p - q).toNat = (p + 1).toNat - (q + 1).toNat := by omega
    rw [e]
    apply fm_congr
    intro j hj
    have hj' := List.mem_range.mp hj
    have e2 : (p + (j : Int) * -1).toNat = (p + 1).toNat - 1 - j := by omega
    rw [e2, Array.getElem?_toList]
  · rw [Array.length_toList]
    omega
theorem getItem_tuple_rev {w : World} {prog : Program} {A : Around} {E : Value → Shared → Prop} {s : Shared} {t sl : Addr} {items : Array Value} {vl vu vk : Value} {lo hi : Option Int} {Q : Value → Shared → Prop} (ht : IsTup s.heap t items) (hs : s.heap.IsSliceOf sl vl vu vk) (pl : IsPart vl lo) (pu : IsPart vu hi) (pk : IsPart vk (some (-1)))
    (h : Q (.ref s.heap.objs.size) { s with heap := s.heap.push { cls := .type "tuple", data := .seq (cutR items.toList lo hi).toArray } }) (hsz : items.size ≤ sizeLine) : wpAny (model prog w) A (getItem (.ref t) (.ref sl)) Q E s := by
  have hlen : (cutR items.toList lo hi).toArray.size ≤ sizeLine := by
    unfold cutR
    rw [List.size_toArray, List.length_reverse, List.length_drop, List.length_take, Array.length_toList]
    omega
  obtain ⟨os, hos, hcs, hds⟩ := id hs
  have hTs : s.TypeIs (.ref sl) "slice" := ⟨os, hos, hcs⟩
  unfold getItem
  try with_reducible refine wpAny_holding ?_
  first | refine wpAny_bind (wpAny_pure ?_) | skip
  refine wpAny_bind (wpAny_sequenceKey ht.typeIs (by decide) ?_)
  refine wpAny_bind (wpAny_callSpecial?_slot (name := Str.ofString "__getitem__") ht.typeIs slot_tuple_getitem
    (wpAny_call_entry slot_tuple_getitem ht.typeIs entry_tuple_getitem ?_ (args_tuple_getitem _ _)))
  show wpAny _ _ (Builtin.Tuple.tupleItemsOf (.ref t) >>= _) _ _ s
  refine wpAny_bind (tupleItemsOf_ ht ?_)
  refine wpAny_bind (wpAny_typeOf hTs ?_)
  rw [if_pos (by decide)]
  have app : ∀ (Q' : Int × Int × Nat → Shared → Prop) (E' : Value → Shared → Prop) (A' : Around), Q' (rIx items.size ((items.size : Int) - 1) lo, -1, (rIx items.size ((items.size : Int) - 1) lo - rIx items.size (-1) hi).toNat) s →
      wpAny (model prog w) A' (Builtin.Slice.sliceApplied (.ref sl) (pure (items.size : Int))) Q' E' s := by
    intro Q' E' A' hq
    unfold Builtin.Slice.sliceApplied Builtin.Slice.sliceFields
    refine wpAny_bind (wpAny_bind (wpAny_field hos hds (x := vl) rfl (wpAny_bind (wpAny_field hos hds (x := vu) rfl (wpAny_bind (wpAny_field hos hds (x := vk) rfl (wpAny_pure ?_)))))))
    refine wpAny_bind (HT.slicePart_ pk ?_)
    show wpAny _ _ (if ((-1 : Int) == 0) = true then _ else _) _ _ s
    rw [if_neg (by decide)]
    refine wpAny_bind (HT.slicePart_ pl (wpAny_bind (HT.slicePart_ pu (wpAny_bind (wpAny_pure ?_)))))
    show wpAny _ _ (match Builtin.Slice.sliceAdjust lo hi (-1) (items.size : Int) with | (lo, hi) => pure (lo, (-1 : Int), Builtin.Slice.slicePlaces lo hi (-1))) _ _ s
    rw [adjust_rev lo hi items.size]
    show wpAny _ _ (pure (rIx items.size ((items.size : Int) - 1) lo, (-1 : Int), Builtin.Slice.slicePlaces (rIx items.size ((items.size : Int) - 1) lo) (rIx items.size (-1) hi) (-1))) _ _ s
    rw [places_rev]
    exact wpAny_pure hq
  refine wpAny_bind (app _ _ _ ?_)
  have hno : ¬ ((rIx items.size ((items.size : Int) - 1) lo == 0 && (-1 : Int) == 1 && (rIx items.size ((items.size : Int) - 1) lo - rIx items.size (-1) hi).toNat == items.size) = true) := by
    intro q
    rw [Bool.and_eq_true, Bool.and_eq_true] at q
    exact absurd q.1.2 (by decide)
  show wpAny _ _ (if (rIx items.size ((items.size : Int) - 1) lo == 0 && (-1 : Int) == 1 && (rIx items.size ((items.size : Int) - 1) lo - rIx items.size (-1) hi).toNat == items.size) = true then _ else _) _ _ s
  rw [if_neg hno, cutR_pick]
  first
    | exact wpAny_bind (m := Builtin.Tuple.tupleExact _) (wpAny_newObj_type (wpAny_pure ⟨_, rfl, wpAny_pure h⟩) hlen)
    | exact wpAny_bind (m := Builtin.Tuple.tupleExact _) (wpAny_newObj_type (wpAny_bind (wpAny_pure (wpAny_pure ⟨_, rfl, wpAny_pure h⟩))) hlen)
    | exact wpAny_bind (wpAny_bind (m := Builtin.Tuple.tupleExact _) (wpAny_newObj_type (wpAny_pure (wpAny_pure ⟨_, rfl, wpAny_pure h⟩)) hlen))
    | exact wpAny_bind (wpAny_bind (m := Builtin.Tuple.tupleExact _) (wpAny_newObj_type (wpAny_pure ⟨_, rfl, wpAny_pure h⟩) hlen))
end
end DT

/-! Reversed parts, calls of built-ins and methods. -/
namespace DT
open PySem L2 PyProof.Rows
theorem cutR_all {α : Type} (xs : List α) : cutR xs none none = xs.reverse := by
  unfold cutR rIx
  have e1 : ((xs.length : Int) - 1 + 1).toNat = xs.length := by omega
  have e2 : ((-1 : Int) + 1).toNat = 0 := by omega
  show ((xs.take ((xs.length : Int) - 1 + 1).toNat).drop ((-1 : Int) + 1).toNat).reverse = xs.reverse
  rw [e1, e2, List.take_length, List.drop_zero]
section
variable {X : Cx} {F : List Fn} {M0 N : Ms} {sa : Addr × Addr} {H : Hp} {σ τ : L2.St} {ρ : Rho} {g g1 g2 : PState} {a b : Expr} {es : List Expr} {xa xb : Ex} {xr : Exs} {x y : D} {pos : Pos}
theorem pe_revD {k : Nat} {p1 p2 p3 : Pos} (ha : PE X a (tX F xa)) : PE X (.Subscript a (.Slice none none (some (.UnaryOp .USub (.Constant (.int 1) k p1) p2)) p3) pos) (tX F (.rev xa)) := by
  refine ⟨fun pins s σ H Q I h => ?_⟩
  obtain ⟨M0, sa, N, ρ, g, d, g', S, e, q⟩ := h
  rw [ev] at e
  obtain ⟨x, g1, e1, e⟩ := bnd_some e
  obtain ⟨e3, rfl⟩ := ofO_some e
  refine Subscript_ (thn (ha.run pins s σ H (fun u H1 => Vo sa N ρ σ xa H1 x u ∧ Keep (isS sa) H H1 ∧ SrcOk H1 sa g') I ⟨M0, sa, N, ρ, g, x, g', S, e1, fun u H1 r => ⟨r.vo, r.keep, r.src⟩⟩) fun v s1 ⟨z, H1, I1, r1, o, k1, q1⟩ => ?_)
  have hst : PO X (some (.UnaryOp .USub (.Constant (.int 1) k p1) p2)) (tPart (tUn (rU fun i => .int (-i)) (L2.tC (.int 1)))) := po_some (pe_un un_neg pe_int)
  refine wpAny_Slice (thn (po_none.run pins s1 σ H1 (fun o H2 => o = none ∧ H2 = H1) I1 ⟨rfl, rfl⟩) fun vl s2 ⟨l, H2, I2, pl, el, e2⟩ => ?_)
  subst el e2
  refine thn (po_none.run pins s2 σ H2 (fun o H3 => o = none ∧ H3 = H2) I2 ⟨rfl, rfl⟩) fun vu s3 ⟨u, H3, I3, pu, eu, e4⟩ => ?_
  subst eu e4
  refine thn (hst.run pins s3 σ H3 (fun o H4 => o = some (-1) ∧ H4 = H3) I3 ⟨1, rfl, -1, rfl, rfl, rfl⟩) fun vs s4 ⟨o', H4, I4, ps, eo, e5⟩ => ?_
  subst eo e5
  have I5 : Inv X pins σ H4 { s4 with heap := s4.heap.push { cls := .type "slice", data := .fields #[vl, vu, vs] } } := I4.kept (t' := s4.toks) fun b ob q => Heap.get?_push_of_some _ q
  have S5 := S.ext k1 q1
  cases x with
  | list xs =>
    obtain rfl := Option.some.inj e3
    obtain ⟨hl, p, ws, rfl, hp, rp⟩ := o.top
    cases r1
    obtain ⟨its, rv, ht, hz⟩ := I5.list (SqL.of (K := X.K) hp)
    have hlen := rv.length
    show wpAny (model X.prog X.w) X.A (subscriptTail a (.Slice none none (some (.UnaryOp .USub (.Constant (.int 1) k p1) p2)) p3) (.ref p) (.ref s4.heap.objs.size)) (EP X pins σ Q) X.xe { s4 with heap := s4.heap.push { cls := .type "slice", data := .fields #[vl, vu, vs] } }
    refine tail_any (ops := [.ref p, .ref s4.heap.objs.size]) ht.isList.typeIs (PySem.slot_list_getitem.lookup) ?_ (by with_unfolding_all rfl)
    refine wpAny_getItem_list_slice ht.isList (Heap.IsSliceOf.new _ vl vu vs) pl pu ps (by decide) ?_ (by rw [List.size_toArray]; omega)
    rw [PySem.W.krv_pick]
    refine ⟨.ref _, _, I5.laid (t' := s4.toks) (o := .lst ws.reverse) (fun b ob q => Heap.get?_push_of_some _ q) (Nat.le_refl _) ?_, rfl, q _ _ (Res.back (.lst S5 (I5.hok.fresh (Nat.le_refl _)) (rp.rev) (by rw [List.length_reverse]; exact hl)) k1 q1)⟩
    exact ⟨by rw [List.length_reverse]; exact hz, _, 0, rv.reverse, Heap.get?_push_size _ rfl⟩
  | tuple xs =>
    obtain rfl := Option.some.inj e3
    obtain ⟨hl, p, ws, rfl, hn, hp, rp⟩ := o.top.tup
    cases r1
    obtain ⟨its, rv, ht, hz⟩ := I5.tuple (hp.sq (K := X.K))
    have hlen := rv.length
    show wpAny (model X.prog X.w) X.A (subscriptTail a (.Slice none none (some (.UnaryOp .USub (.Constant (.int 1) k p1) p2)) p3) (.ref p) (.ref s4.heap.objs.size)) (EP X pins σ Q) X.xe { s4 with heap := s4.heap.push { cls := .type "slice", data := .fields #[vl, vu, vs] } }
    refine tail_any (ops := [.ref p, .ref s4.heap.objs.size]) ht.typeIs (slot_tuple_getitem.lookup) ?_ (by with_unfolding_all rfl)
    refine getItem_tuple_rev ht (Heap.IsSliceOf.new _ vl vu vs) pl pu ps ?_ (by rw [List.size_toArray]; omega)
    rw [cutR_all]
    exact ⟨.ref _, _, I5.laid (t' := s4.toks) (o := tupO (tupN its.reverse) ws.reverse) (fun b ob q => Heap.get?_push_of_some _ q) (Nat.le_refl _) (objOk_tup (by rw [List.length_reverse]; exact hz) rv.reverse (Heap.get?_push_size _ rfl)), rfl, q _ _ (Res.back (.tup rfl S5 (I5.hok.fresh (Nat.le_refl _)) (rp.rev) (by rw [List.length_reverse]; exact hl)) k1 q1)⟩
  | _ => cases e3

/-! ### calls of built-ins -/
def rBlt (b : Bl) : List V → Hp → VK → Prop := fun vs H Q => ∃ M0 sa N ρ σ g es ds d, StOk M0 sa N H σ ρ g ∧ VoL sa N ρ σ H es ds vs ∧ bltO b ds = some d ∧ ∀ w H', Res sa N ρ σ (.blt b es) H g d w H' → Q w H'
theorem call_bltD {lev : Nat} {b : Bl} {f : Value} (hc : X.calm = true) (hg : X.A.guards = some []) (hr : Room lev X.A) (hf : blF b = some f) : CallR X f (rBlt b) := by
  intro pins s τ H vs us Q I rv h
  obtain ⟨M0, sa, N, ρ, σ, g, es, ds, d, S, o, e, q⟩ := h
  exact blt_val hc hg hr hf I rv S o e q
theorem tX_blt {b : Bl} {σ : L2.St} {Q : VK} (h : tX F (.blt b xr) σ H Q) : tCB (rBlt b) (tA F xr) σ H Q := by
  obtain ⟨M0, sa, N, ρ, g, d, g', S, e, q⟩ := h
  rw [ev] at e
  obtain ⟨ds, g1, e1, e⟩ := bnd_some e
  obtain ⟨e2, rfl⟩ := ofO_some e
  exact ⟨M0, sa, N, ρ, g, ds, g', S, e1, fun vs H1 k r o => ⟨M0, sa, N, ρ, σ, _, xr, ds, d, S.ext k r, o, e2, fun w H' z => q w H' (z.back k r)⟩⟩
theorem pe_bltD {lev : Nat} {b : Bl} {id : String} {nm : Str} {p : Pos} (hc : X.calm = true) (hgd : X.A.guards = some []) (hr : Room lev X.A) (hf : blF b = some (.builtin id)) (hg : Gl X nm) (hm : X.mg nm = none) (hv : bootBuiltins nm = some (.builtin id)) (ha : PA X (a :: es) (tA F xr))
    (hn : nm ≠ "__name__") (hdb : (nm == ("__debug__" : Str)) = false) (he : starEach (a :: es) X.env = (false, eval a X.env) :: starEach es X.env) (hpl : (backTo pos (starEach es X.env)).any (·.1) = false) : PE X (.Call (.Name nm p) (a :: es) [] pos) (tX F (.blt b xr)) :=
  ⟨fun pins s σ H Q I h => (pe_callB (call_bltD hc hgd hr hf) hg hm hv ha hn hdb he hpl).run pins s σ H Q I (tX_blt h)⟩
theorem pe_bltTyD {lev : Nat} {b : Bl} {T : String} {nm : Str} {p : Pos} (hc : X.calm = true) (hgd : X.A.guards = some []) (hr : Room lev X.A) (hf : blF b = some (.type T)) (hg : Gl X nm) (hm : X.mg nm = none) (hv : bootBuiltins nm = some (.type T)) (ha : PA X (a :: es) (tA F xr))
    (hn : nm ≠ "__name__") (hdb : (nm == ("__debug__" : Str)) = false) (he : starEach (a :: es) X.env = (false, eval a X.env) :: starEach es X.env) (hpl : (backTo pos (starEach es X.env)).any (·.1) = false) : PE X (.Call (.Name nm p) (a :: es) [] pos) (tX F (.blt b xr)) :=
  ⟨fun pins s σ H Q I h => (pe_callTy (call_bltD hc hgd hr hf) hg hm hv ha hn hdb he hpl).run pins s σ H Q I (tX_blt h)⟩

/-! ### isinstance -/
def tyS : Ty → String
  | .int => "int"
  | .bool => "bool"
  | .str => "str"
  | .tuple => "tuple"
  | .list => "list"
  | .dict => "dict"
def dTy : D → String
  | .none => "NoneType"
  | .bool _ => "bool"
  | .int _ => "int"
  | .str _ => "str"
  | .list _ => "list"
  | .tuple _ => "tuple"
  | .dict _ => "dict"
/-- as the kit's types of values, and our own dicts -/
def TyD (K : PySem.W.Frag) (H : Hp) (v : V) (t : Value) : Prop := TyX K H v t ∨ ∃ a l, v = .ref a ∧ H a = some (.ext (DRaw a l)) ∧ t = .type "dict"
def rIsiD (K : PySem.W.Frag) : List V → Hp → VK → Prop := fun xs H Q => ∃ (x c : V) (t u : Value) (b : Bool), xs = [x, c] ∧ ClsV c u ∧ TyD K H x t ∧ PySem.W.kitOne K t u = some b ∧ Q (.bl b) H
theorem call_isiD {X : Cx} : CallR X (.builtin "isinstance") (rIsiD X.K) := by
  intro pins s σ H xs us Q I r h
  obtain ⟨x, c, t, u, b, rfl, k, ty, e, q⟩ := h
  rcases ty with ty | ⟨a, l, rfl, ea, rfl⟩
  · exact call_isi pins s σ H _ us Q I r ⟨x, c, t, u, b, rfl, k, ty, e, q⟩
  · obtain ⟨u1, u2, rfl, r1, r2⟩ := vals2 r
    have e2 := k.eq r2
    subst e2
    cases (show u1 = Value.ref a from r1)
    obtain ⟨⟨_, _, o, es, ep, xs, h1, h2, _⟩, _⟩ := I.hok a _ ea
    exact PySem.W.kia_one PySem.W.kitx_dict I.kIn ⟨o, h1, h2.1⟩ e (fun z => nomatch z) fun tk => ⟨.bl b, H, I.tok tk, rfl, q⟩
theorem Top.ty {K : PySem.W.Frag} {v : V} : ∀ {d : D}, Top N H d v → TyD K H v (.type (dTy d))
  | .none, h => by
    obtain rfl := h.non
    exact .inl (.base .non)
  | .bool _, h => by
    obtain rfl := h.bl
    exact .inl (.base (.bl _))
  | .int _, h => by
    obtain rfl := h.int
    exact .inl (.base (.int _))
  | .str _, h => by
    obtain rfl := h.str
    exact .inl (.base (.str _))
  | .list _, h => by
    obtain ⟨_, a, vs, rfl, e, _⟩ := h
    exact .inl (.base (.lst e))
  | .tuple _, h => by
    obtain ⟨_, a, vs, rfl, _, e, _⟩ := h.tup
    rcases e.rd with z | ⟨o, z⟩
    · exact .inl (.base (.tup z))
    · exact .inl (.fTuple z)
  | .dict _, h => by
    obtain ⟨_, a, ks, vs, rfl, e, _⟩ := h
    rcases e with ⟨l, e, _⟩ | ⟨l, e, _⟩
    · exact .inl (.base (.dK e))
    · exact .inr ⟨a, l, rfl, e, rfl⟩
theorem kit_all : ∀ (d : D) (t : Ty), kitB (dTy d) (tyS t) = some (tyOf d t) := by
  intro d t
  cases d <;> cases t <;> simp only [dTy, tyS, tyOf] <;> decide +kernel
theorem pe_isiD {t : Ty} {p p2 : Pos} (hi : Gl X "isinstance") (hm : X.mg "isinstance" = none) (hg : Gl X (Str.ofString (tyS t))) (hm2 : X.mg (Str.ofString (tyS t)) = none) (ha : PE X a (tX F xa))
    (he : starEach [a, .Name (Str.ofString (tyS t)) p2] X.env = (false, eval a X.env) :: starEach [.Name (Str.ofString (tyS t)) p2] X.env) (hpl : (backTo pos (starEach [.Name (Str.ofString (tyS t)) p2] X.env)).any (·.1) = false) : PE X (.Call (.Name "isinstance" p) [a, .Name (Str.ofString (tyS t)) p2] [] pos) (tX F (.blt (.isi t) (.cons xa .nil))) := by
  refine ⟨fun pins s σ H Q I h => ?_⟩
  obtain ⟨M0, sa, N, ρ, g, d, g', S, e, q⟩ := h
  rw [ev] at e
  obtain ⟨ds, g1, e1, e⟩ := bnd_some e
  obtain ⟨e2, rfl⟩ := ofO_some e
  rw [evs] at e1
  obtain ⟨x, g2, e3, e1⟩ := bnd_some e1
  rw [evs] at e1
  obtain ⟨xs, g3, e4, e1⟩ := bnd_some e1
  obtain ⟨rfl, rfl⟩ := ret_some e4
  obtain ⟨rfl, rfl⟩ := ret_some e1
  have hb : bootBuiltins (Str.ofString (tyS t)) = some (.type (tyS t)) := by cases t <;> exact by decide +kernel
  have hn : Str.ofString (tyS t) ≠ "__name__" := by cases t <;> decide
  have hd : (Str.ofString (tyS t) == ("__debug__" : Str)) = false := by cases t <;> decide
  have hpa : PA X [a, .Name (Str.ofString (tyS t)) p2] (tCons (tX F xa) (tCons (L2.tC (.ty (tyS t))) tNil)) := pa_cons ha (pa_cons (pe_bltn hg hm2 hb rfl hn hd) pa_nil (by rfl)) he
  refine (pe_callB call_isiD hi hm (by decide +kernel) hpa (by decide) (by decide) he hpl).run pins s σ H Q I ⟨M0, sa, N, ρ, g, x, _, S, e3, fun v H1 r => ?_⟩
  refine ⟨v, .ty (tyS t), .type (dTy x), .type (tyS t), tyOf x t, rfl, .ty _, r.vo.top.ty, kit_ty (kit_all x t), ?_⟩
  obtain rfl := Option.some.inj e2
  exact q _ H1 (Res.back (.bl (S.ext r.keep r.src) _) r.keep r.src)
end
end DT

/-! list(range(..)), x.index(y). -/
namespace DT
open PySem L2 PyProof.Rows
section
variable {X : Cx} {F : List Fn} {M0 N : Ms} {sa : Addr × Addr} {H : Hp} {σ τ : L2.St} {ρ : Rho} {g g1 g2 : PState} {a b : Expr} {es : List Expr} {xa xb : Ex} {xr : Exs} {x y : D} {pos : Pos}
theorem evs_one {ds : List D} {g' : PState} (h : evs F (.cons xa .nil) ρ g = some (ds, g')) : ∃ x, ev F xa ρ g = some (x, g') ∧ ds = [x] := by
  rw [evs] at h
  obtain ⟨x, g1, e1, h⟩ := bnd_some h
  rw [evs] at h
  obtain ⟨xs, g2, e2, h⟩ := bnd_some h
  obtain ⟨rfl, rfl⟩ := ret_some e2
  obtain ⟨rfl, rfl⟩ := ret_some h
  exact ⟨x, e1, rfl⟩
theorem evs_two {ds : List D} {g' : PState} (h : evs F (.cons xa (.cons xb .nil)) ρ g = some (ds, g')) : ∃ x y g1, ev F xa ρ g = some (x, g1) ∧ ev F xb ρ g1 = some (y, g') ∧ ds = [x, y] := by
  rw [evs] at h
  obtain ⟨x, g1, e1, h⟩ := bnd_some h
  obtain ⟨xs, g2, e2, h⟩ := bnd_some h
  obtain ⟨rfl, rfl⟩ := ret_some h
  obtain ⟨y, e3, rfl⟩ := evs_one e2
  exact ⟨x, y, g1, e1, e3, rfl⟩
theorem rep_rng (N : Ms) (H : Hp) (a b : Int) : RepL N H (rngL a b) (rgV a b) := by
  unfold rngL rgV
  induction List.range (b - a).toNat with
  | nil => exact .nil
  | cons i r ih => exact .cons (by rw [Rep]) ih
theorem rngO_some {a b : Int} {l : List D} (h : rngO a b = some l) : RgOk a b ∧ l = rngL a b ∧ l.length ≤ LINE := by
  obtain ⟨c, rfl⟩ := if_some h
  simp only [Bool.and_eq_true, decide_eq_true_eq] at c
  obtain ⟨c1, c2, c3, c4, c5⟩ := c
  refine ⟨⟨c1, c2, c3, c4, c5⟩, rfl, ?_⟩
  unfold rngL
  rw [List.length_map, List.length_range]
  exact c5
theorem pe_listR1D {p p2 q : Pos} (hc : X.calm = true) (hg : Gl X "list") (hm : X.mg "list" = none) (hg2 : Gl X "range") (hm2 : X.mg "range" = none) (ha : PE X a (tX F xa))
    (n1 : starEach [a] X.env = (false, eval a X.env) :: starEach [] X.env) (n2 : starEach [.Call (.Name "range" p2) [a] [] q] X.env = (false, eval (.Call (.Name "range" p2) [a] [] q) X.env) :: starEach [] X.env) :
    PE X (.Call (.Name "list" p) [.Call (.Name "range" p2) [a] [] q] [] pos) (tX F (.blt .listR1 (.cons xa .nil))) := by
  refine ⟨fun pins s σ H Q I h => ?_⟩
  obtain ⟨M0, sa, N, ρ, g, d, g', S, e, q⟩ := h
  rw [ev] at e
  obtain ⟨ds, g1, e1, e⟩ := bnd_some e
  obtain ⟨e2, rfl⟩ := ofO_some e
  obtain ⟨x, e3, rfl⟩ := evs_one e1
  refine (pe_listRg hc hg hm (prg_1 hg2 hm2 ha n1) n2).run pins s σ H Q I ⟨M0, sa, N, ρ, g, x, _, S, e3, fun v H1 r => ?_⟩
  cases x with
  | int n =>
    obtain ⟨l, e4, rfl⟩ := Option.map_eq_some_iff.mp e2
    obtain ⟨ok, rfl, hl⟩ := rngO_some e4
    exact ⟨n, r.vo.top.int, ok, fun p hp => q _ _ (Res.back (.lst (S.ext r.keep r.src) hp (rep_rng _ _ _ _) hl) r.keep r.src)⟩
  | _ => cases e2
/-- tuple(range(..)), the tuple tracked as ours are -/
theorem pe_tupRgF {e : Expr} {te : L2.St → Hp → (Int → Int → Hp → Prop) → Prop} {p pos : Pos} (hc : X.calm = true) (hg : Gl X "tuple") (hm : X.mg "tuple" = none) (he : PRg X e te) (na : starEach [e] X.env = (false, eval e X.env) :: starEach [] X.env := by rfl) :
    PE X (.Call (.Name "tuple" p) [e] [] pos) (fun σ H Q => te σ H fun a b H1 => RgOk a b ∧ ∀ q o, H1 q = none → o.dict = none → Q (.ref q) (upd H1 q (tupO o (rgV a b)))) := by
  refine ⟨fun pins s σ H Q I h => ?_⟩
  refine Call_ (ld_blt I hg hm boot_tuple (PyProof.Rows.callWith_type1 (args_cons (thn (he pins s σ H _ I h) fun x s1 ⟨r, a, b, t, u, v, H1, ex, hr, I1, ok, q⟩ => args_nil ?_) na) na))
  subst ex
  obtain ⟨b1, b2, b3, b4, b5⟩ := ok
  refine call_tuple_range (n := (b - a).toNat) (I1.ok.hd hc) hr (small_one b1 b2 b3 b4) (rangeSize_nat a b) b5 fun h' tk acc hk hi => ?_
  have I2 : Inv X pins σ H1 { s1 with heap := h', toks := tk } := I1.kept hk
  have z : (rgV a b).length ≤ sizeLine := by rw [rgV_length, sizeLine_eq]; omega
  have eo : tupN acc.toList = ({ cls := .type "tuple", data := .seq acc } : Obj) := by unfold tupN; rw [Array.toArray_toList]
  refine ⟨.ref h'.objs.size, upd H1 h'.objs.size (tupO (tupN acc.toList) (rgV a b)), I2.laid (t' := tk) (fun c o e => Heap.get?_push_of_some _ e) (Nat.le_refl _) (objOk_tup z (vals_rg hi) (by rw [eo]; exact Heap.get?_push_size _ rfl)), rfl, q _ _ (I2.hok.fresh (Nat.le_refl _)) rfl⟩
theorem pe_tupR1D {p p2 q : Pos} (hc : X.calm = true) (hg : Gl X "tuple") (hm : X.mg "tuple" = none) (hg2 : Gl X "range") (hm2 : X.mg "range" = none) (ha : PE X a (tX F xa))
    (n1 : starEach [a] X.env = (false, eval a X.env) :: starEach [] X.env) (n2 : starEach [.Call (.Name "range" p2) [a] [] q] X.env = (false, eval (.Call (.Name "range" p2) [a] [] q) X.env) :: starEach [] X.env) :
    PE X (.Call (.Name "tuple" p) [.Call (.Name "range" p2) [a] [] q] [] pos) (tX F (.blt .tupR1 (.cons xa .nil))) := by
  refine ⟨fun pins s σ H Q I h => ?_⟩
  obtain ⟨M0, sa, N, ρ, g, d, g', S, e, q⟩ := h
  rw [ev] at e
  obtain ⟨ds, g1, e1, e⟩ := bnd_some e
  obtain ⟨e2, rfl⟩ := ofO_some e
  obtain ⟨x, e3, rfl⟩ := evs_one e1
  refine (pe_tupRgF hc hg hm (prg_1 hg2 hm2 ha n1) n2).run pins s σ H Q I ⟨M0, sa, N, ρ, g, x, _, S, e3, fun v H1 r => ?_⟩
  cases x with
  | int n =>
    obtain ⟨l, e4, rfl⟩ := Option.map_eq_some_iff.mp e2
    obtain ⟨ok, rfl, hl⟩ := rngO_some e4
    exact ⟨n, r.vo.top.int, ok, fun p o hp ho => q _ _ (Res.back (.tup ho (S.ext r.keep r.src) hp (rep_rng _ _ _ _) hl) r.keep r.src)⟩
  | _ => cases e2
theorem pe_listR2D {p p2 q : Pos} (hc : X.calm = true) (hg : Gl X "list") (hm : X.mg "list" = none) (hg2 : Gl X "range") (hm2 : X.mg "range" = none) (ha : PE X a (tX F xa)) (hb : PE X b (tX F xb))
    (n1 : starEach [a, b] X.env = (false, eval a X.env) :: starEach [b] X.env) (n3 : starEach [b] X.env = (false, eval b X.env) :: starEach [] X.env) (n4 : (backTo q (starEach [b] X.env)).any (·.1) = false) (n2 : starEach [.Call (.Name "range" p2) [a, b] [] q] X.env = (false, eval (.Call (.Name "range" p2) [a, b] [] q) X.env) :: starEach [] X.env) :
    PE X (.Call (.Name "list" p) [.Call (.Name "range" p2) [a, b] [] q] [] pos) (tX F (.blt .listR2 (.cons xa (.cons xb .nil)))) := by
  refine ⟨fun pins s σ H Q I h => ?_⟩
  obtain ⟨M0, sa, N, ρ, g, d, g', S, e, q⟩ := h
  rw [ev] at e
  obtain ⟨ds, g1, e1, e⟩ := bnd_some e
  obtain ⟨e2, rfl⟩ := ofO_some e
  obtain ⟨x, y, g2, e3, e4, rfl⟩ := evs_two e1
  refine (pe_listRg hc hg hm (prg_2 hg2 hm2 ha hb n1 n3 n4) n2).run pins s σ H Q I ⟨M0, sa, N, ρ, g, x, _, S, e3, fun v H1 r => ⟨M0, sa, N, ρ, g2, y, _, S.ext r.keep r.src, e4, fun w H2 r2 => ?_⟩⟩
  cases x with
  | int n =>
    cases y with
    | int m =>
      obtain ⟨l, e5, rfl⟩ := Option.map_eq_some_iff.mp e2
      obtain ⟨ok, rfl, hl⟩ := rngO_some e5
      exact ⟨n, m, r.vo.top.int, r2.vo.top.int, ok, fun p hp => q _ _ (Res.back (.lst ((S.ext r.keep r.src).ext r2.keep r2.src) hp (rep_rng _ _ _ _) hl) (r.keep.trans r2.keep) r2.src)⟩
    | _ => cases e2
  | _ => cases e2

/-! ### x.index(y) -/
def rIndexT (K : PySem.W.Frag) : V → List V → Hp → VK → Prop := fun x xs H Q => ∃ (a : Addr) (y : V) (d : PyData) (ds : List PyData) (j : Nat) (z : PyData), x = V.ref a ∧ xs = [y] ∧ Dp K H (V.ref a) (.tuple ds) ∧ Dp K H y d ∧
  SeqAt.shaped (.tuple ds) = true ∧ SeqAt.shaped d = true ∧ ds[j]? = some z ∧ PyData.eqv z d = true ∧ (∀ (m : Nat) (z' : PyData), m < j → ds[m]? = some z' → PyData.eqv z' d = false) ∧ Q (.int (j : Nat)) H
theorem mt_indexT (hu : X.A.units + 65 < cLine) : MtR X "tuple.index" (rIndexT X.K) := by
  intro pins s σ H x xs v us Q I rx rxs h
  obtain ⟨a, y, d, ds, j, z, rfl, rfl, hl, hy, sl, sd, hz, hzj, hno, q⟩ := h
  cases rx
  obtain ⟨uy, rfl, ry⟩ := vals1 rxs
  obtain ⟨bs, r1⟩ := Dp.reads I d y uy hy ry
  have lay : PyData.canLayAll0 ds = true := SeqAt.canLay_of_shaped sl
  have room : X.A.units + 1 + min (PyData.depthAll ds) d.depth < cLine := room_in_shaped sd hu
  cases hl with
  | tup hs ha =>
    obtain ⟨its, rv, ⟨⟨cls, dd, data, slt⟩, ho, hc, n, hdt⟩, hlen⟩ := I.tuple hs
    simp only at hc hdt
    subst hc hdt
    obtain ⟨as, h4⟩ := Dp.readsAll I ds _ its ha rv
    have hn : its.length = ds.length := SeqAt.ReadsAll.length ds its as h4
    have hmap : its.map (SeqAt.readOf s.heap) = ds := SeqAt.readsAll_map ds its as lay h4
    obtain ⟨hjd, _⟩ := List.getElem?_eq_some_iff.mp hz
    have hjl : j < its.length := by omega
    have hj : j < its.toArray.size := by simpa using hjl
    have look : ∀ (m : Nat) (hm : m < its.toArray.size) (w : PyData), ds[m]? = some w → SeqAt.readOf s.heap its.toArray[m] = w := by
      intro m hm w hw
      have hml : m < its.length := by simpa using hm
      rw [← hmap, List.getElem?_map, List.getElem?_eq_getElem hml] at hw
      have e1 : SeqAt.readOf s.heap its[m] = w := Option.some.inj (show some (SeqAt.readOf s.heap its[m]) = some w from hw)
      simpa using e1
    refine call_meets PySem.F.slot_tuple_index ⟨_, ho, rfl⟩ PySem.F.entry_tuple_index (PySem.F.args_tuple_index_2 _ _)
      (TI.tuple_indexAt a its.toArray n dd slt uy (fun u => PyData.eqv (SeqAt.readOf s.heap u) d) j hj ?_ ?_) ⟨ho, SeqAt.items_eqAt (vs := its.toArray) (show ReadsAll s.heap its.toArray.toList ds as from h4) r1 lay (SeqAt.canLay_of_shaped sd) room, ?_⟩
    · show PyData.eqv (SeqAt.readOf s.heap its.toArray[j]) d = true
      rw [look j hj z hz]
      exact hzj
    · intro m hm hmj
      have hmd : m < ds.length := by omega
      have hw : ds[m]? = some ds[m] := List.getElem?_eq_getElem hmd
      show PyData.eqv (SeqAt.readOf s.heap its.toArray[m]) d = false
      rw [look m hm _ hw]
      exact hno m _ hmj hw
    · exact ⟨.int (j : Nat), H, I.tok _, ⟨_, rfl⟩, q⟩
theorem find_at {ds : List D} {y : D} {j : Nat} (h : (ds.findIdx? fun z => PyData.eqv z y) = some j) : ∃ z, ds[j]? = some z ∧ PyData.eqv z y = true ∧ ∀ (m : Nat) (w : D), m < j → ds[m]? = some w → PyData.eqv w y = false := by
  obtain ⟨hj, h1, h2⟩ := List.findIdx?_eq_some_iff_getElem.mp h
  refine ⟨ds[j], List.getElem?_eq_getElem hj, h1, fun m w hm e => ?_⟩
  obtain ⟨hm2, rfl⟩ := List.getElem?_eq_some_iff.mp e
  exact Bool.eq_false_iff.mpr (h2 m hm)
theorem ifN_some {α : Type} {b : Bool} {x : Option α} {y : α} (h : (if b = true then x else none) = some y) : b = true ∧ x = some y := by
  cases b with
  | false => cases h
  | true => exact ⟨rfl, h⟩
theorem pe_indexD {o : Expr} {xo : Ex} {apos cpos : Pos} (hfz : FZ = true) (hu : X.A.units + 65 < cLine) (ho : PE X o (tX F xo)) (ha : PE X a (tX F xa))
    (hbase : attributeBase o "index" X.env (eval o X.env) = eval o X.env)
    (hfew : ((backTo cpos (starEach [a] X.env)).all (fun x => !x.1) && (backToKw cpos (keywordEach [] X.env)).all (fun x => x.1.isSome) && decide ([a].length + ([] : List Keyword).length + (if ([] : List Keyword).isEmpty then 0 else 1) < 30)) = true)
    (hline : (apos.endLine == cpos.line) = true) (hs : starEach [a] X.env = (false, eval a X.env) :: starEach [] X.env) (hplain : (backTo cpos (starEach [] X.env)).any (·.1) = false) :
    PE X (.Call (.Attribute o "index" apos) [a] [] cpos) (tX F (.meth .index xo (.cons xa .nil))) := by
  refine ⟨fun pins s σ H Q I h => ?_⟩
  obtain ⟨M0, sa, N, ρ, g, d, g', S, e, q⟩ := h
  rw [ev] at e
  obtain ⟨x, g1, e1, e⟩ := bnd_some e
  obtain ⟨ds, g2, e2, e⟩ := bnd_some e
  obtain ⟨e3, rfl⟩ := ofO_some e
  obtain ⟨y, e4, rfl⟩ := evs_one e2
  refine wpAny_Call_method_late hbase hfew hline rfl (thn (ho.run pins s σ H (fun u H1 => Vo sa N ρ σ xo H1 x u ∧ Keep (isS sa) H H1 ∧ SrcOk H1 sa g1) I ⟨M0, sa, N, ρ, g, x, g1, S, e1, fun u H1 r => ⟨r.vo, r.keep, r.src⟩⟩) fun v s1 ⟨z, H1, I1, r1, o1, k1, q1⟩ => ?_)
  have S1 := S.ext k1 q1
  have arg : ∀ {id : String} {rr : V → List V → Hp → VK → Prop}, MtR X id rr → (∀ w H2, Vo sa N ρ σ xo H2 x z → Vo sa N ρ σ xa H2 y w → Keep (isS sa) H H2 → SrcOk H2 sa g' → rr z [w] H2 Q) → wpAny (model X.prog X.w) X.A (callWith cpos (.builtin id) [v] (backTo cpos (starEach [a] X.env)) []) (EP X pins σ Q) X.xe s1 := fun hm hr => by
    have hA := (pa_cons ha pa_nil hs).run cpos pins s1 σ H1 (fun vs H2 => ∃ w, vs = [w] ∧ Vo sa N ρ σ xo H2 x z ∧ Vo sa N ρ σ xa H2 y w ∧ Keep (isS sa) H H2 ∧ SrcOk H2 sa g') I1 ⟨M0, sa, N, ρ, g1, y, g', S1, e4, fun w H2 r => ⟨w, rfl, S1.vo o1 r.keep, r.vo, k1.trans r.keep, r.src⟩⟩
    rw [hs] at hA ⊢
    refine Calls.callWith_builtin (by show (false || (backTo cpos (starEach [] X.env)).any (·.1)) = false; rw [hplain] <;> rfl) (Calls.evalArgs_plain ?_)
    refine thn hA fun us s2 ⟨vs, H2, I2, r2, w, ew, oz, ow, k2, q2⟩ => ?_
    subst ew
    exact hm pins s2 σ H2 z [w] v us Q I2 r1 r2 (hr w H2 oz ow k2 q2)
  cases x with
  | list xs =>
    obtain ⟨c, e5⟩ := ifN_some (show (if SeqAt.shaped y && SeqAt.shaped (.list xs) then (xs.findIdx? fun z => PyData.eqv z y).map fun j => .int (j : Nat) else none) = some d from e3)
    obtain ⟨s1', s2'⟩ := Bool.and_eq_true_iff.mp c
    obtain ⟨j, e6, rfl⟩ := Option.map_eq_some_iff.mp e5
    obtain ⟨w, hw1, hw2, hw3⟩ := find_at e6
    obtain ⟨hl, p, ws, rfl, hp, rp⟩ := o1.top
    cases r1
    obtain ⟨its, rv, pl, hz⟩ := I1.list (SqL.of (K := X.K) hp)
    refine ⟨"list", "list.index", PySem.F.plainAttrs_list, PySem.F.slot_list_index, PySem.F.type_list_index, pl.isList.typeIs, fun b e => ?_, arg (mt_indexD hu) fun w' H2 oz ow k2 q2 => ?_⟩
    · cases e
      obtain ⟨ob, n, e, c, hd, _⟩ := pl
      exact ⟨ob, e, hd⟩
    · obtain ⟨_, p', ws', ep, hp', rp'⟩ := oz.top
      cases ep
      exact ⟨p, w', y, xs, j, w, rfl, rfl, oz.top.dp (SeqAt.canLay_of_shaped s2'), ow.top.dp (SeqAt.canLay_of_shaped s1'), s2', s1', hw1, hw2, hw3, q _ H2 (Res.back (.int (S.ext k2 q2) _) k2 q2)⟩
  | tuple xs =>
    obtain ⟨c, e5⟩ := ifN_some (show (if SeqAt.shaped y && SeqAt.shaped (.tuple xs) then (xs.findIdx? fun z => PyData.eqv z y).map fun j => .int (j : Nat) else none) = some d from e3)
    obtain ⟨s1', s2'⟩ := Bool.and_eq_true_iff.mp c
    obtain ⟨j, e6, rfl⟩ := Option.map_eq_some_iff.mp e5
    obtain ⟨w, hw1, hw2, hw3⟩ := find_at e6
    obtain ⟨hl, p, ws, rfl, hn, hp, rp⟩ := o1.top.tup
    cases r1
    obtain ⟨its, rv, pl, hz⟩ := I1.tuple (hp.sq (K := X.K))
    have hdict : ∀ b, Value.ref p = .ref b → ∃ ob, s1.heap.get? b = some ob ∧ ob.dict = none := fun b e => by
      cases e
      exact hp.plain hfz I1
    refine ⟨"tuple", "tuple.index", PySem.F.plainAttrs_tuple, PySem.F.slot_tuple_index, PySem.F.type_tuple_index, pl.typeIs, hdict, arg (mt_indexT hu) fun w' H2 oz ow k2 q2 => ?_⟩
    obtain ⟨_, p', ws', ep, _, hp', rp'⟩ := oz.top.tup
    cases ep
    exact ⟨p, w', y, xs, j, w, rfl, rfl, oz.top.dp (SeqAt.canLay_of_shaped s2'), ow.top.dp (SeqAt.canLay_of_shaped s1'), s2', s1', hw1, hw2, hw3, q _ H2 (Res.back (.int (S.ext k2 q2) _) k2 q2)⟩
  | _ => cases e3
end
end DT

/-! How many keys a list of pairs has: len(dict(..)). -/
namespace DT
open PySem L2 PyProof.Rows
section
variable {X : Cx} {pins : List (Addr × Obj)} {s : Shared} {N : Ms} {H : Hp} {τ : L2.St}
/-- what a list of pairs stands for, in the machine's heap -/
theorem pair_items (I : Inv X pins τ H s) : ∀ {xs : List D} {vs : List V} {us : List Value} {ks : List D}, pairKs xs = some ks → keysOk ks = true → RepL N H xs vs → Vals vs us →
    ∃ (ps : List (Value × Value)) (Ts : List Addr), ps.length = ks.length ∧ us = Ts.map Value.ref ∧ Ts.length = ps.length ∧ (∀ (j : Nat) (T : Addr) (k v : Value), Ts[j]? = some T → ps[j]? = some (k, v) → s.heap.IsTuple T #[k, v]) ∧
      (∀ (j : Nat) (p : Value × Value), ps[j]? = some p → ∃ d, ks[j]? = some d ∧ keyOk d = true ∧ NestedIs s.heap (toKey d) p.1 ∧ ∃ v, Rep N H d v ∧ RelV v p.1)
  | [], _, _, _, e, _, h, r => by
    rw [RepL] at h
    subst h
    cases r
    obtain rfl := Option.some.inj e
    exact ⟨[], [], rfl, rfl, rfl, fun j T k v h => by simp at h, fun j p h => by simp at h⟩
  | x :: xs, _, _, ks, e, ko, h, r => by
    rw [RepL] at h
    obtain ⟨v, t, rfl, h1, h2⟩ := h
    cases r with
    | cons r1 r2 =>
      unfold pairKs at e
      split at e
      · rename_i heq
        cases heq
      · rename_i k0 v0 rest heq
        cases heq
        obtain ⟨ks', e1, rfl⟩ := Option.map_eq_some_iff.mp e
        have ko' : keyOk k0 = true ∧ keysOk ks' = true := by simpa only [keysOk, Bool.and_eq_true] using ko
        obtain ⟨ps, Ts, l1, rfl, l2, hp, hk⟩ := pair_items I e1 ko'.2 h2 r2
        rw [Rep] at h1
        obtain ⟨_, a, ws, rfl, _, ht, hl⟩ := h1
        cases r1
        obtain ⟨its, rv, pl, _⟩ := I.tuple (ht.sq (K := X.K))
        rw [RepL] at hl
        obtain ⟨vk, r', rfl, hk1, hl⟩ := hl
        rw [RepL] at hl
        obtain ⟨vv, r', rfl, hv1, hl⟩ := hl
        rw [RepL] at hl
        subst hl
        obtain ⟨u1, u2, rfl, q1, q2⟩ := vals2 rv
        refine ⟨(u1, u2) :: ps, a :: Ts, by rw [List.length_cons, List.length_cons, l1], rfl, by rw [List.length_cons, List.length_cons, l2], fun j T k v hT hp' => ?_, fun j p hp' => ?_⟩
        · cases j with
          | zero =>
            obtain rfl := Option.some.inj (show some a = some T from hT)
            have z := Option.some.inj (show some (u1, u2) = some (k, v) from hp')
            cases z
            exact pl
          | succ j => exact hp j T k v (by simpa using hT) (by simpa using hp')
        · cases j with
          | zero =>
            obtain rfl := Option.some.inj (show some (u1, u2) = some p from hp')
            exact ⟨k0, rfl, ko'.1, rep_key I k0 vk u1 ko'.1 hk1 q1, vk, hk1, q1⟩
          | succ j =>
            obtain ⟨d, e1, e2⟩ := hk j p (by simpa using hp')
            exact ⟨d, by simpa using e1, e2⟩
      · cases e
end
/-! ### the keys of the dict that is made -/
section
variable {K : Type} [DecidableEq K]
theorem atKey_keys (xs : List (K × Addr × Value)) (k : K) : (atKey xs k).isSome = decide (k ∈ xs.map (·.1)) := by
  unfold atKey
  rw [Option.isSome_map]
  induction xs with
  | nil => rfl
  | cons x r ih =>
    rw [List.find?_cons, List.map_cons]
    by_cases h : x.1 = k
    · rw [decide_eq_true h]
      symm
      exact decide_eq_true (by rw [← h]; exact List.mem_cons_self)
    · rw [decide_eq_false h]
      rw [ih]
      refine decide_eq_decide.mpr ⟨fun z => List.mem_cons_of_mem _ z, fun z => ?_⟩
      rcases List.mem_cons.mp z with z | z
      · exact absurd z.symm h
      · exact z
theorem storedH_keys (xs : List (K × Addr × Value)) (k : K) (a : Addr) (v : Value) : (storedH xs k a v).map (·.1) = if k ∈ xs.map (·.1) then xs.map (·.1) else xs.map (·.1) ++ [k] := by
  unfold storedH
  by_cases h : k ∈ xs.map (·.1)
  · rw [if_pos (by rw [atKey_keys]; exact decide_eq_true h), if_pos h, keys_map_putAt]
  · rw [if_neg (by rw [atKey_keys, decide_eq_false h]; exact Bool.false_ne_true), if_neg h, List.map_append]
    rfl
theorem storedAllH_ded : ∀ (ps xs : List (K × Addr × Value)), (storedAllH xs ps).map (·.1) = (ps.map (·.1)).foldl (fun acc k => if k ∈ acc then acc else acc ++ [k]) (xs.map (·.1))
  | [], _ => rfl
  | p :: ps, xs => by
    show (storedAllH (storedH xs p.1 p.2.1 p.2.2) ps).map (·.1) = _
    rw [storedAllH_ded ps, storedH_keys]
    rfl
theorem stored_keys (xs : List (K × Value)) (k : K) (v : Value) : (stored xs k v).map (·.1) = if k ∈ xs.map (·.1) then xs.map (·.1) else xs.map (·.1) ++ [k] := by
  unfold stored
  by_cases h : k ∈ xs.map (·.1)
  · have e : (xs.any fun kv => decide (kv.1 = k)) = true := by
      obtain ⟨x, hx, e⟩ := List.mem_map.mp h
      exact List.any_eq_true.mpr ⟨x, hx, decide_eq_true e⟩
    rw [if_pos e, if_pos h, List.map_map]
    refine List.map_congr_left fun x _ => ?_
    show (if x.1 = k then (x.1, v) else x).1 = x.1
    split <;> rfl
  · have e : (xs.any fun kv => decide (kv.1 = k)) = false := by
      refine List.any_eq_false.mpr fun x hx z => h (List.mem_map.mpr ⟨x, hx, of_decide_eq_true z⟩)
    rw [if_neg (by rw [e]; exact Bool.false_ne_true), if_neg h, List.map_append]
    rfl
theorem merged_ded : ∀ (ps xs : List (K × Value)), (merged xs ps).map (·.1) = (ps.map (·.1)).foldl (fun acc k => if k ∈ acc then acc else acc ++ [k]) (xs.map (·.1))
  | [], _ => rfl
  | p :: ps, xs => by
    show (merged (stored xs p.1 p.2) ps).map (·.1) = _
    rw [merged_ded ps, stored_keys]
    rfl
theorem ded_inj {α β : Type} [DecidableEq α] [DecidableEq β] (f : α → β) (hf : ∀ x y, f x = f y → x = y) : ∀ (ks acc : List α), ((ks.map f).foldl (fun acc k => if k ∈ acc then acc else acc ++ [k]) (acc.map f)) = (ks.foldl (fun acc k => if k ∈ acc then acc else acc ++ [k]) acc).map f
  | [], _ => rfl
  | k :: ks, acc => by
    rw [List.map_cons, List.foldl_cons, List.foldl_cons, ← ded_inj f hf ks]
    congr 1
    by_cases h : k ∈ acc
    · rw [if_pos h, if_pos (List.mem_map_of_mem h)]
    · rw [if_neg h, if_neg (fun z => by
        obtain ⟨x, hx, e⟩ := List.mem_map.mp z
        exact h (hf _ _ e ▸ hx)), List.map_append]
      rfl
end

section
variable {prog : Program} {w : World} {A : Around} {E : Value → Shared → Prop} {s : Shared} {a : Addr} {items : Array Value} {ps : List (Value × Value)} {Ts : List Addr} {ks : List NestedKey} {Q : Value → Shared → Prop}
theorem items_ok (hi : items.toList = Ts.map Value.ref) (hl : Ts.length = ps.length) (hp : ∀ (j : Nat) (T : Addr) (k v : Value), Ts[j]? = some T → ps[j]? = some (k, v) → s.heap.IsTuple T #[k, v]) : PairItems s.heap items (fun j => Ts.getD j 0) ps := by
  refine ⟨by rw [← Array.length_toList, hi, List.length_map, hl], fun j k v hj => ?_⟩
  have hj' : j < Ts.length := by rw [hl]; exact (List.getElem?_eq_some_iff.mp hj).1
  have e : Ts[j]? = some Ts[j] := List.getElem?_eq_getElem hj'
  have e2 : Ts.getD j 0 = Ts[j] := by rw [List.getD_eq_getElem?_getD, e]; rfl
  refine ⟨?_, ?_⟩
  · rw [← Array.getElem?_toList, hi, List.getElem?_map, e]
    show _ = some (Value.ref (Ts.getD j 0))
    rw [e2]
    rfl
  · show PairAt s.heap (Ts.getD j 0) k v
    rw [e2]
    exact .inl (hp j _ k v e hj)
/-- dict(xs), keys tuples -/
theorem dict_tups (hh : A.handled = none) (hu : A.units + 10 < cLine) (hs : PlainSeq "list" s.heap a items) (hi : PairItems s.heap items (fun j => Ts.getD j 0) ps) (hk : ∀ (j : Nat) (p : Value × Value), ps[j]? = some p → ∃ k b, ks[j]? = some k ∧ p.1 = .ref b ∧ NestedIs s.heap k p.1 ∧ k.depth ≤ 8)
    (hl : ps.length = ks.length) (hz : ps.length ≤ sizeLine) (h : ∀ h' tk xs, h'.DictOfH (nestedKind prog w) s.heap.objs.size xs → xs.map (·.1) = dedK ks → (∀ b o, s.heap.get? b = some o → h'.get? b = some o) → Q (.ref s.heap.objs.size) { s with heap := h', toks := tk }) :
    wpAny (model prog w) A (call (.type "dict") [.ref a]) Q E s := by
  let ps3 : List (NestedKey × Addr × Value) := (ks.zip ps).map fun q => (q.1, (match q.2.1 with | .ref b => b | _ => 0), q.2.2)
  have hz3 : ∀ (j : Nat) (k : NestedKey) (p : Value × Value), ks[j]? = some k → ps[j]? = some p → ps3[j]? = some (k, (match p.1 with | .ref b => b | _ => 0), p.2) := fun j k p h1 h2 => by
    show ((ks.zip ps).map _)[j]? = _
    rw [List.getElem?_map, (List.getElem?_zip_eq_some (z := (k, p))).mpr ⟨h1, h2⟩]
    rfl
  refine call_dict_pairsH (knd := nestedKind prog w) (ps := ps3) (PairArg.list a items (fun j => Ts.getD j 0) ps) hh (by show A.units + 1 + 1 + 8 < cLine; omega) ⟨hs, hi⟩ ⟨?_, ?_⟩ ?_ hz ?_
  · show ((ks.zip ps).map _).length = _
    rw [List.length_map, List.length_zip, hl, Nat.min_self]
  · intro i key v hr
    obtain ⟨k, b, e1, e2, e3, e4⟩ := hk i (key, v) hr
    have e2' : key = .ref b := e2
    subst e2'
    exact ⟨k, b, hz3 i k _ e1 hr, rfl⟩
  · intro h' keep x hx
    obtain ⟨q, hq, rfl⟩ := List.mem_map.mp hx
    obtain ⟨j, hj⟩ := List.getElem?_of_mem hq
    obtain ⟨h1, h2⟩ := List.getElem?_zip_eq_some.mp hj
    obtain ⟨k, b, e1, e2, e3, e4⟩ := hk j q.2 h2
    obtain rfl := Option.some.inj (h1.symm.trans e1)
    rw [e2]
    refine ⟨?_, e4⟩
    rw [e2] at e3
    exact NestedIs.at (fun c o vs n hc _ => keep c o (Nat.ne_of_lt (Heap.lt_size hc)) (fun z => by cases z) hc) _ _ e3
  · intro h' tk hd hkp
    refine h h' tk _ hd ?_ fun b o e => hkp b o (fun z => by cases z) e
    rw [storedAllH_ded]
    show (((ks.zip ps).map _).map _).foldl _ [] = _
    rw [List.map_map]
    have : (ks.zip ps).map ((fun x : NestedKey × Addr × Value => x.1) ∘ fun q => (q.1, (match q.2.1 with | .ref b => b | _ => 0), q.2.2)) = ks := by
      show (ks.zip ps).map (fun q => q.1) = ks
      exact List.map_fst_zip (by omega)
    rw [this]
    rfl
/-- dict(xs), keys whole numbers -/
theorem dict_nums {is : List Int} (hh : A.handled = none) (hs : PlainSeq "list" s.heap a items) (hi : PairItems s.heap items (fun j => Ts.getD j 0) ps) (hk : ∀ (j : Nat) (p : Value × Value), ps[j]? = some p → ∃ i t, is[j]? = some i ∧ p.1 = .int i t)
    (hl : ps.length = is.length) (hz : ps.length ≤ sizeLine) (h : ∀ h' tk xs, h'.DictOf (mixKind prog w) s.heap.objs.size xs → xs.map (·.1) = (dedK is).map Sum.inl → (∀ b o, s.heap.get? b = some o → h'.get? b = some o) → Q (.ref s.heap.objs.size) { s with heap := h', toks := tk }) :
    wpAny (model prog w) A (call (.type "dict") [.ref a]) Q E s := by
  let ps3 : List (Key × Value) := (is.zip ps).map fun q => (Sum.inl q.1, q.2.2)
  have hz3 : ∀ (j : Nat) (k : Int) (p : Value × Value), is[j]? = some k → ps[j]? = some p → ps3[j]? = some (Sum.inl k, p.2) := fun j k p h1 h2 => by
    show ((is.zip ps).map _)[j]? = _
    rw [List.getElem?_map, (List.getElem?_zip_eq_some (z := (k, p))).mpr ⟨h1, h2⟩]
    rfl
  refine PySem.call_dict_pairs (knd := mixKind prog w) (kvs := ps3) (PairArg.list a items (fun j => Ts.getD j 0) ps) hh ⟨hs, hi⟩ ⟨?_, ?_⟩ hz ?_
  · show ((is.zip ps).map _).length = _
    rw [List.length_map, List.length_zip, hl, Nat.min_self]
  · intro i key v hr
    obtain ⟨k, t, e1, e2⟩ := hk i (key, v) hr
    have e2' : key = .int k t := e2
    subst e2'
    exact ⟨_, hz3 i k _ e1 hr, keyIs_int k t⟩
  · intro h' tk hd hkp
    refine h h' tk _ hd ?_ fun b o e => hkp b o (fun z => by cases z) e
    rw [merged_ded]
    show (((is.zip ps).map _).map _).foldl _ [] = _
    rw [List.map_map]
    have : (is.zip ps).map ((fun x : Key × Value => x.1) ∘ fun q => (Sum.inl q.1, q.2.2)) = is.map Sum.inl := by
      show (is.zip ps).map (Sum.inl ∘ fun q => q.1) = _
      rw [← List.map_map, List.map_fst_zip (by omega)]
    rw [this]
    exact ded_inj (α := Int) (β := Key) Sum.inl (fun x y e => Sum.inl.inj e) is []
end
theorem toKeys_len : ∀ ds : List D, (toKeys ds).length = ds.length
  | [] => rfl
  | d :: r => by rw [toKeys, List.length_cons, List.length_cons, toKeys_len r]
theorem toKeys_get : ∀ {ds : List D} {j : Nat} {d : D}, ds[j]? = some d → (toKeys ds)[j]? = some (toKey d)
  | [], _, _, h => by simp at h
  | d :: r, 0, e, h => by
    obtain rfl := Option.some.inj (show some d = some e from h)
    rfl
  | d :: r, j + 1, e, h => by
    rw [toKeys, List.getElem?_cons_succ]
    exact toKeys_get (by simpa using h)
theorem keysOk_mem : ∀ {ds : List D}, keysOk ds = true → ∀ {d : D}, d ∈ ds → keyOk d = true
  | [], _, _, h => by cases h
  | e :: r, c, d, h => by
    have c' : keyOk e = true ∧ keysOk r = true := by simpa only [keysOk, Bool.and_eq_true] using c
    rcases List.mem_cons.mp h with z | z
    · rw [z]
      exact c'.1
    · exact keysOk_mem c'.2 z
theorem dedK_le {α : Type} [DecidableEq α] (ks : List α) : (dedK ks).length ≤ ks.length := by
  have : ∀ (ks acc : List α), (ks.foldl (fun acc k => if k ∈ acc then acc else acc ++ [k]) acc).length ≤ acc.length + ks.length := by
    intro ks
    induction ks with
    | nil => intro acc; simp
    | cons k r ih =>
      intro acc
      rw [List.foldl_cons]
      refine Nat.le_trans (ih _) ?_
      split
      · simp only [List.length_cons]; omega
      · simp only [List.length_cons, List.length_append, List.length_nil]; omega
  have := this ks []
  simpa [dedK] using this
theorem toKeys_nums : ∀ {ds : List D}, ds.all isInt = true → ∃ is : List Int, ds = is.map PyData.int ∧ toKeys ds = is.map NestedKey.num
  | [], _ => ⟨[], rfl, rfl⟩
  | d :: r, h => by
    rw [List.all_cons, Bool.and_eq_true] at h
    obtain ⟨is, rfl, e⟩ := toKeys_nums h.2
    cases d with
    | int i => exact ⟨i :: is, rfl, by rw [toKeys, e]; rfl⟩
    | _ => cases h.1
section
variable {X : Cx} {F : List Fn} {a : Expr} {xa : Ex}
theorem pe_lenDictD {p p2 q pos : Pos} (hc : X.calm = true) (hu : X.A.units + 65 < cLine) (hg : Gl X "len") (hm : X.mg "len" = none) (hg2 : Gl X "dict") (hm2 : X.mg "dict" = none) (ha : PE X a (tX F xa))
    (na : starEach [a] X.env = (false, eval a X.env) :: starEach [] X.env) : PE X (.Call (.Name "len" p) [.Call (.Name "dict" p2) [a] [] q] [] pos) (tX F (.blt .lenDict (.cons xa .nil))) := by
  refine ⟨fun pins s σ H Q I h => ?_⟩
  obtain ⟨M0, sa, N, ρ, g, d, g', S, e, q⟩ := h
  rw [ev] at e
  obtain ⟨ds, g1, e1, e⟩ := bnd_some e
  obtain ⟨e2, rfl⟩ := ofO_some e
  obtain ⟨x, e3, rfl⟩ := evs_one e1
  refine Call_ (ld_blt I hg hm PySem.boot_len ?_)
  refine PyProof.Rows.callWith_builtin1 (PyProof.Rows.args_cons ?_ rfl) rfl rfl
  refine Call_ (ld_blt I hg2 hm2 boot_dict ?_)
  refine PyProof.Rows.callWith_type1 (PyProof.Rows.args_cons (thn (ha.run pins s σ H (fun v H1 => Res sa N ρ σ xa H _ x v H1) I ⟨M0, sa, N, ρ, g, x, _, S, e3, fun v H1 r => r⟩) fun v s1 ⟨y, H1, I1, r1, res⟩ => PyProof.Rows.args_nil ?_) na) na rfl
  cases x with
  | list xs =>
    cases hks : pairKs xs with
    | none =>
      exfalso
      simp only [bltO, hks] at e2
      cases e2
    | some ks =>
      have e2' : (if (keysOk ks && (ks.all isInt || ks.all fun k => isTup k && decide ((toKey k).depth ≤ 8))) = true then some (PyData.int (dedK (toKeys ks)).length) else none) = some d := by
        simpa only [bltO, hks] using e2
      obtain ⟨c, rfl⟩ := if_some e2'
      obtain ⟨c1, c2⟩ := Bool.and_eq_true_iff.mp c
      obtain ⟨hl, l, vs, rfl, hL, rL⟩ := res.vo.top
      cases r1
      obtain ⟨its, rv, pl, hz⟩ := I1.list (SqL.of (K := X.K) hL)
      have lenv := rv.length
      have lenr := rL.length
      obtain ⟨ps, Ts, l1, rfl, l2, hp, hk⟩ := pair_items I1 hks c1 rL rv
      obtain ⟨o, n, ho, hcl, hd0, hdat⟩ := pl
      have hitems : ((Ts.map Value.ref).toArray).toList = Ts.map Value.ref := by simp
      have big : (s1.heap.objs.size == sysModules) = false := beq_eq_false_iff_ne.mpr (Nat.ne_of_gt I1.big)
      have hps : ps.length ≤ sizeLine := by
        rw [← l2]
        have : (Ts.map Value.ref).length = Ts.length := List.length_map _
        omega
      have dl := dedK_le (toKeys ks)
      have tl := toKeys_len ks
      have hsl := sizeLine_eq
      have io : PairItems s1.heap ((Ts.map Value.ref).toArray) (fun j => Ts.getD j 0) ps := items_ok hitems l2 hp
      have plain : PlainSeq "list" s1.heap l ((Ts.map Value.ref).toArray) := ⟨o, n, ho, hcl, hd0, hdat⟩
      rcases Bool.or_eq_true_iff.mp c2 with c2 | c2
      · obtain ⟨is, rfl, ek⟩ := toKeys_nums c2
        refine dict_nums (is := is) (I1.ok.hd hc) plain io (fun j p hj => ?_) (by rw [l1, List.length_map]) hps fun h' tk xs hd' hx hkp => ?_
        · obtain ⟨d, e1, e2, e3, e4⟩ := hk j p hj
          rw [List.getElem?_map] at e1
          obtain ⟨i, ei, rfl⟩ := Option.map_eq_some_iff.mp e1
          refine ⟨i, ?_⟩
          obtain ⟨v, rv, ru⟩ := e4
          rw [Rep] at rv
          subst rv
          obtain ⟨t, et⟩ := ru
          exact ⟨t, ei, et⟩
        · have I2 : Inv X pins σ H1 { s1 with heap := h', toks := tk } := I1.kept hkp
          have hxl : xs.length = (dedK is).length := by
            have := congrArg List.length hx
            simpa using this
          have di := dedK_le is
          have e5 : dedK (toKeys (is.map PyData.int)) = (dedK is).map NestedKey.num := by
            rw [ek]
            exact ded_inj NestedKey.num (fun x y e => by injection e) is []
          rw [List.length_map] at tl l1
          refine PyProof.Rows.args_nil ?_
          refine call_len_dict big hd' (by omega) ⟨.int xs.length, H1, I2.tok _, ⟨_, rfl⟩, ?_⟩
          have e6 : (dedK (toKeys (is.map PyData.int))).length = xs.length := by rw [e5, List.length_map, hxl]
          rw [← e6]
          exact q _ _ (Res.back (.int (S.ext res.keep res.src) _) res.keep res.src)
      · refine dict_tups (ks := toKeys ks) (I1.ok.hd hc) (by omega) plain io (fun j p hj => ?_) (by rw [l1, tl]) hps fun h' tk xs hd' hx hkp => ?_
        · obtain ⟨d, e1, e2, e3, _⟩ := hk j p hj
          have ht := List.all_eq_true.mp c2 d (List.mem_of_getElem? e1)
          obtain ⟨t1, t2⟩ := Bool.and_eq_true_iff.mp ht
          have b : ∃ b, p.1 = .ref b := by
            cases d with
            | tuple ds =>
              have e3' : NestedIs s1.heap (.tup (toKeys ds)) p.1 := e3
              generalize p.1 = u at e3'
              cases e3' with
              | tup h1 h2 h3 h4 => exact ⟨_, rfl⟩
            | _ => cases t1
          obtain ⟨b, eb⟩ := b
          exact ⟨_, b, toKeys_get e1, eb, e3, of_decide_eq_true t2⟩
        · have I2 : Inv X pins σ H1 { s1 with heap := h', toks := tk } := I1.kept hkp
          have hxl : xs.length = (dedK (toKeys ks)).length := by rw [← hx, List.length_map]
          refine PyProof.Rows.args_nil ?_
          refine call_len_dictH big hd' (by omega) ⟨.int xs.length, H1, I2.tok _, ⟨_, rfl⟩, ?_⟩
          rw [hxl]
          exact q _ _ (Res.back (.int (S.ext res.keep res.src) _) res.keep res.src)
  | _ => cases e2
end
end DT

/-! d.get(k, x). -/
namespace DT
open PySem L2 PyProof.Rows
section
variable {X : Cx} {pins : List (Addr × Obj)} {s : Shared} {N N' : Ms} {H : Hp} {τ : L2.St} {a : Addr} {kvs : List (D × D)} {ks vs : List V}
theorem dict_get2 {k : D} {y z : V} {u r : Value} {Q : Value → Shared → Prop} {E : Value → Shared → Prop} (hu : X.A.units + 65 < cLine) (I : Inv X pins τ H s) (h : DAt H a (toKeys (kvs.map (·.1))) ks vs) (rK : RepK N H kvs ks vs) (ok : dOk kvs k = true) (rk : Rep N' H k y) (ry : RelV y u) (rz : RelV z r)
    (q1 : ∀ d v w s', dGet kvs k = some d → Inv X pins τ H s' → RelV v w → Rep N H d v → Q w s') (q2 : ∀ s', dGet kvs k = none → Inv X pins τ H s' → Q r s') : wpAny (model X.prog X.w) X.A (PySem.call (.builtin "dict.get") [.ref a, u, r]) Q E s := by
  have tT := dict_type I h
  rcases dOk_two ok with ⟨k1, k2⟩ | ⟨k1, k2⟩
  · obtain ⟨b, rfl, rfl⟩ := tup_ref k1 rk ry
    obtain ⟨xs, dd, x1, x2, x3, x4, x5⟩ := dict_raw I h rK k2
    refine call_meetsIn PySem.F.slot_dict_get tT PySem.F.entry_dict_get (PySem.F.args_dict_get_3 _ _ _) (meetsH_dict_get_default (nestedKind X.prog X.w) a b x5 r) ⟨(by show X.A.units + 1 + 8 < cLine; omega), toKey k, xs, tup_is I k1 rk, dd, ?_⟩
    rcases dGet_at (k := k) rK x1 x3 with ⟨z1, z2⟩ | ⟨d', v, p, z1, z2, z3, z4⟩
    · rw [z2]
      exact q2 _ z1 (I.tok _)
    · rw [z2]
      exact q1 d' v p.2 _ z1 (I.tok _) z3 z4
  · obtain ⟨ws, dd, x1, x2, x3, x4⟩ := dict_rawI I h k2
    refine call_meetsIn PySem.F.slot_dict_get tT PySem.F.entry_dict_get (PySem.F.args_dict_get_3 _ _ _) (meets_dict_get_default (mixKind X.prog X.w) a (int_key k1 rk ry) x4 r) ⟨_, dd.mapOf, ?_⟩
    rcases dGet_atI k1 k2 rK x1 x2 with ⟨z1, z2⟩ | ⟨d', v, w, z1, z2, z3, z4⟩
    · rw [z2]
      exact q2 _ z1 (I.tok _)
    · rw [z2]
      exact q1 d' v w _ z1 (I.tok _) z3 z4
theorem dict_plain (I : Inv X pins τ H s) {nk : List NestedKey} (h : DAt H a nk ks vs) : ∀ b, Value.ref a = .ref b → ∃ ob, s.heap.get? b = some ob ∧ ob.dict = none := fun b e => by
  cases e
  rcases h with ⟨l, e, _⟩ | ⟨l, e, _⟩
  · obtain ⟨_, _, _, _, o, es, ep, h1, h2, _⟩ := I.hok a _ e
    exact ⟨o, h1, h2.2.1⟩
  · obtain ⟨⟨_, _, o, es, ep, xs, h1, h2, _⟩, _⟩ := I.hok a _ e
    exact ⟨o, h1, h2.2.1⟩
end
section
variable {X : Cx} {F : List Fn} {o a b : Expr} {xo xa xb : Ex} {apos cpos : Pos}
theorem pe_getD (hu : X.A.units + 65 < cLine) (ho : PE X o (tX F xo)) (ha : PE X a (tX F xa)) (hb : PE X b (tX F xb))
    (hbase : attributeBase o "get" X.env (eval o X.env) = eval o X.env)
    (hfew : ((backTo cpos (starEach [a, b] X.env)).all (fun x => !x.1) && (backToKw cpos (keywordEach [] X.env)).all (fun x => x.1.isSome) && decide ([a, b].length + ([] : List Keyword).length + (if ([] : List Keyword).isEmpty then 0 else 1) < 30)) = true)
    (hline : (apos.endLine == cpos.line) = true) (hs : backTo cpos (starEach [a, b] X.env) = [(false, eval a X.env), (false, eval b X.env)]) :
    PE X (.Call (.Attribute o "get" apos) [a, b] [] cpos) (tX F (.meth .get xo (.cons xa (.cons xb .nil)))) := by
  refine ⟨fun pins s σ H Q I h => ?_⟩
  obtain ⟨M0, sa, N, ρ, g, d, g', S, e, q⟩ := h
  rw [ev] at e
  obtain ⟨x, g1, e1, e⟩ := bnd_some e
  obtain ⟨ds, g2, e2, e⟩ := bnd_some e
  obtain ⟨e3, rfl⟩ := ofO_some e
  obtain ⟨y, z, g3, e4, e5, rfl⟩ := evs_two e2
  have hx : ∃ kvs, x = .dict kvs ∧ dOk kvs y = true ∧ d = (dGet kvs y).getD z := by
    cases x with
    | dict kvs =>
      obtain ⟨c, rfl⟩ := if_some (show (if dOk kvs y = true then some ((dGet kvs y).getD z) else none) = some d from e3)
      exact ⟨kvs, rfl, c, rfl⟩
    | _ => cases e3
  obtain ⟨kvs, rfl, ok, rfl⟩ := hx
  refine wpAny_Call_method hbase hfew hline PySem.F.plainAttrs_dict PySem.F.slot_dict_get PySem.F.type_dict_get (thn (ho.run pins s σ H (fun u H1 => Vo sa N ρ σ xo H1 (.dict kvs) u ∧ Keep (isS sa) H H1 ∧ SrcOk H1 sa g1) I ⟨M0, sa, N, ρ, g, _, g1, S, e1, fun u H1 r => ⟨r.vo, r.keep, r.src⟩⟩) fun v s1 ⟨w, H1, I1, r1, o1, k1, q1⟩ => ?_)
  have S1 := S.ext k1 q1
  obtain ⟨_, p, _, _, rfl, hA1, _⟩ := id o1.top
  cases r1
  refine ⟨dict_type I1 hA1, dict_plain I1 hA1, ?_⟩
  rw [hs]
  refine Calls.callWith_builtin rfl (Calls.evalArgs_plain (Calls.spliced_cons (thn (ha.run pins s1 σ H1 (fun u H2 => Vo sa N ρ σ xa H2 y u ∧ Keep (isS sa) H1 H2 ∧ SrcOk H2 sa g3) I1 ⟨M0, sa, N, ρ, g1, y, g3, S1, e4, fun u H2 r => ⟨r.vo, r.keep, r.src⟩⟩) fun iv s2 ⟨y', H2, I2, ry, o2, k2, q2⟩ =>
    Calls.spliced_cons (thn (hb.run pins s2 σ H2 (fun u H3 => Vo sa N ρ σ xb H3 z u ∧ Keep (isS sa) H2 H3 ∧ SrcOk H3 sa g') I2 ⟨M0, sa, N, ρ, g3, z, g', S1.ext k2 q2, e5, fun u H3 r => ⟨r.vo, r.keep, r.src⟩⟩) fun fv s3 ⟨z', H3, I3, rz, o3, k3, q3⟩ => Calls.spliced_nil ?_))))
  have S3 := (S1.ext k2 q2).ext k3 q3
  have oD := S3.vo (S1.vo o1 k2) k3
  have oK := (S1.ext k2 q2).vo o2 k3
  obtain ⟨_, p', ks, vs, ep, hA, rK⟩ := id oD.top
  cases ep
  refine dict_get2 hu I3 hA rK ok oK.rep ry rz (fun d v w s' ed I' rv rd => ?_) fun s' ed I' => ?_
  · rw [ed] at q
    exact ⟨v, H3, I', rv, q v H3 (Res.back (.same S3 (.item S3 rd (fun i hi => List.mem_append_left _ hi) fun i hi => List.mem_append_left _ hi) rfl) ((k1.trans k2).trans k3) q3)⟩
  · rw [ed] at q
    refine ⟨z', H3, I', rz, q z' H3 (Res.back (.same S3 ⟨o3.top.anti fun c hc => less_mono (fun i hi => ?_) hc, fun m c ec hc => ?_, o3.nos⟩ rfl) ((k1.trans k2).trans k3) q3)⟩
    · refine List.mem_append_right _ (List.mem_append_right _ (List.mem_append_left _ (List.mem_append_left _ hi)))
    · obtain ⟨i, hi, ow⟩ := o3.al m c ec hc
      exact ⟨i, List.mem_append_right _ (List.mem_append_right _ (List.mem_append_left _ (List.mem_append_right _ hi))), ow⟩
end
end DT

/-! {}, displays with stars, sorted by size, sets. -/
namespace DT
open PySem L2 PyProof.Rows
section
variable {X : Cx} {F : List Fn} {M0 N : Ms} {sa : Addr × Addr} {H H1 : Hp} {σ τ : L2.St} {ρ : Rho} {g g1 g2 : PState} {a b : Expr} {es : List Expr} {xa xb : Ex} {xr : Exs} {x y : D} {pos : Pos} {v : V} {p : Addr} {pins : List (Addr × Obj)} {s : Shared}
theorem Res.dnew {t : Bool} (S : StOk M0 sa N H σ ρ g) (hp : H p = none) : Res sa N ρ σ (.dnew t) H g (.dict []) (.ref p) (upd H p (.dK [])) := by
  have tp : ∀ L : Ms, Top L (upd H p (.dK [])) (.dict []) (.ref p) := fun L => ⟨by decide, p, [], [], rfl, .inl ⟨[], upd_same, rfl, rfl, rfl⟩, by rw [RepK]; exact ⟨rfl, rfl⟩⟩
  refine ⟨.new hp, S.src.upd hp, ⟨tp _, fun _ c e z => ?_, fun _ c e z => ?_⟩, fun _ _ => ⟨p, rfl, hp, tp _⟩⟩
  · cases e
    exact (S.noN hp z).elim
  · cases e
    exact S.noN hp (S.sS _ z)
theorem pe_dnewD {t : Bool} : PE X (.Dict [] [] pos) (tX F (.dnew t)) := by
  refine ⟨fun pins s σ H Q I h => ?_⟩
  obtain ⟨M0, sa, N, ρ, g, d, g', S, e, q⟩ := h
  rw [ev] at e
  obtain ⟨rfl, rfl⟩ := ret_some e
  exact pe_dnewK.run pins s σ H Q I fun p hp => q _ _ (.dnew S hp)
/-! ### displays with stars -/
def tSp (F : List Fn) (fl : List Bool) (xs : Exs) : TA := fun σ H Q => ∃ M0 sa N ρ g ds ys g', StOk M0 sa N H σ ρ g ∧ evs F xs ρ g = some (ds, g') ∧ spl fl ds = some ys ∧ ∀ vs H', Keep (isS sa) H H' → SrcOk H' sa g' → RepL (less N ρ σ (escs xs)) H' ys vs → Q vs H'
theorem pa_spn : PA X [] (tSp F [] .nil) := by
  refine ⟨fun pos pins s σ H Q I h => ?_⟩
  obtain ⟨M0, sa, N, ρ, g, ds, ys, g', S, e, e2, q⟩ := h
  rw [evs] at e
  obtain ⟨rfl, rfl⟩ := ret_some e
  obtain rfl := Option.some.inj (show some [] = some ys from e2)
  exact pa_nil.run pos pins s σ H Q I (q [] H .refl S.src .nil)
theorem repL_less {is js : List Nat} {ds : List D} {vs : List V} {H : Hp} (r : RepL (less N ρ σ is) H ds vs) (w : ∀ i, i ∈ is → i ∈ js) : RepL (less N ρ σ js) H ds vs := r.anti fun _ z => less_mono w z
theorem pa_spf {fl : List Bool} (ha : PE X a (tX F xa)) (hr : PA X es (tSp F fl xr)) (hs : starEach (a :: es) X.env = (false, eval a X.env) :: starEach es X.env) : PA X (a :: es) (tSp F (false :: fl) (.cons xa xr)) := by
  refine ⟨fun pos pins s σ H Q I h => ?_⟩
  obtain ⟨M0, sa, N, ρ, g, ds, ys, g', S, e, e2, q⟩ := h
  rw [evs] at e
  obtain ⟨x, g1, e1, e⟩ := bnd_some e
  obtain ⟨xs, g2, e3, e⟩ := bnd_some e
  obtain ⟨rfl, rfl⟩ := ret_some e
  cases e4 : spl fl xs with
  | none =>
    simp only [spl, e4] at e2
    cases e2
  | some r =>
    simp only [spl, e4] at e2
    obtain rfl := Option.some.inj e2
    refine (pa_cons ha hr hs).run pos pins s σ H Q I ⟨M0, sa, N, ρ, g, x, g1, S, e1, fun v H1 r1 => ⟨M0, sa, N, ρ, g1, xs, r, _, S.ext r1.keep r1.src, e3, e4, fun vs H2 k r2 o => ?_⟩⟩
    exact q _ H2 (r1.keep.trans k) r2 (.cons ((S.vo r1.vo k).rep.anti fun _ z => less_mono (fun i hi => List.mem_append_left _ hi) z) (repL_less o fun i hi => List.mem_append_right _ hi))
theorem star_val {E : Value → Shared → Prop} {d : D} {xs : List D} {u : Value} {Q : List Value → Shared → Prop} (I : Inv X pins τ H s) (t : Top N H d v) (e : seqO d = some xs) (rv : RelV v u)
    (q : ∀ h', (∀ b o, s.heap.get? b = some o → h'.get? b = some o) → ∀ its vs, Vals vs its → RepL N H xs vs → Q its { s with heap := h' }) : PySem.W.StarOf (model X.prog X.w) X.A E u Q s := by
  obtain ⟨hl, a, vs, rfl, r, h⟩ := seq_val t e
  cases rv
  have h' : H a = some (.lst vs) ∨ TupAt H a vs ∧ True := h.imp id fun z => ⟨z.1, trivial⟩
  obtain ⟨z, T, o, its, n, hT, ho, hc, hd, rvs⟩ := seq_obj I h'
  have lenv := rvs.length
  have ty : s.TypeIs (.ref a) T := ⟨o, ho, hc⟩
  have go : wpAny (model X.prog X.w) X.A (collect (.ref a)) Q E s := by
    refine wpAny_collect_seq a hT ho hc hd (fun h1 k1 => ?_) (by rw [List.size_toArray]; omega)
    exact q h1 k1 its vs rvs r
  unfold PySem.W.StarOf notIterableAtAll
  rcases hT with rfl | rfl
  · refine wpAny_bind (wpAny_specialOf ty PySem.F.slot_list_iter.lookup ?_)
    exact wpAny_pure ⟨rfl, go⟩
  · refine wpAny_bind (wpAny_specialOf ty PySem.F.slot_tuple_iter.lookup ?_)
    exact wpAny_pure ⟨rfl, go⟩
theorem pa_spt {fl : List Bool} {p1 : Pos} (ha : PE X a (tX F xa)) (hr : PA X es (tSp F fl xr)) : PA X (.Starred a p1 :: es) (tSp F (true :: fl) (.cons xa xr)) := by
  refine ⟨fun pos pins s σ H Q I h => ?_⟩
  obtain ⟨M0, sa, N, ρ, g, ds, ys, g', S, e, e2, q⟩ := h
  rw [evs] at e
  obtain ⟨x, g1, e1, e⟩ := bnd_some e
  obtain ⟨xs, g2, e3, e⟩ := bnd_some e
  obtain ⟨rfl, rfl⟩ := ret_some e
  cases e4 : spl fl xs with
  | none =>
    cases e5 : seqO x <;> simp only [spl, e4, e5] at e2 <;> cases e2
  | some r =>
    cases e5 : seqO x with
    | none =>
      simp only [spl, e4, e5] at e2
      cases e2
    | some zs =>
      simp only [spl, e4, e5] at e2
      obtain rfl := Option.some.inj e2
      refine PySem.W.items_star (thn (ha.run pins s σ H (fun v H1 => Res sa N ρ σ xa H g1 x v H1) I ⟨M0, sa, N, ρ, g, x, g1, S, e1, fun v H1 r1 => r1⟩) fun u s1 ⟨v, H1, I1, rv, r1⟩ => ?_) rfl
      have S1 := S.ext r1.keep r1.src
      refine star_val I1 r1.vo.top e5 rv fun h' k1 its vs rvs rL => ?_
      have I2 : Inv X pins σ H1 { s1 with heap := h' } := I1.kept (t' := s1.toks) k1
      refine thn (hr.run pos pins _ σ H1 (fun ws H2 => Keep (isS sa) H1 H2 ∧ SrcOk H2 sa _ ∧ RepL (less N ρ σ (escs xr)) H2 r ws) I2 ⟨M0, sa, N, ρ, g1, xs, r, _, S1, e3, e4, fun ws H2 k r2 o => ⟨k, r2, o⟩⟩) fun us s2 ⟨ws, H2, I3, rw2, k, r2, o⟩ => ?_
      refine ⟨vs ++ ws, H2, I3, rvs.append rw2, q _ H2 (r1.keep.trans k) r2 (RepL.append (repL_less o fun i hi => List.mem_append_right _ hi) ?_)⟩
      have rL2 : RepL (less N ρ σ (esi xa)) H2 zs vs := rL.tr fun c o' eo n => ⟨k c o' eo fun zc => n ⟨S.sS c zc, fun ⟨i, _, ow⟩ => S.nos i c ow zc⟩, n⟩
      exact repL_less rL2 fun i hi => List.mem_append_left _ (List.mem_append_left _ hi)
theorem mkT_some {xs : List D} {d : D} (h : mkT xs = some d) : xs.length ≤ LINE ∧ d = .tuple xs := by
  obtain ⟨c, rfl⟩ := if_some h
  exact ⟨of_decide_eq_true c, rfl⟩
theorem mkL_some {xs : List D} {d : D} (h : mkL xs = some d) : xs.length ≤ LINE ∧ d = .list xs := by
  obtain ⟨c, rfl⟩ := if_some h
  exact ⟨of_decide_eq_true c, rfl⟩
theorem pe_dispT {fl : List Bool} {k : Nat} (h : PA X es (tSp F fl xr)) : PE X (.Tuple es k pos) (tX F (.disp true fl xr)) := by
  refine ⟨fun pins s σ H Q I h' => ?_⟩
  obtain ⟨M0, sa, N, ρ, g, d, g', S, e, q⟩ := h'
  rw [ev] at e
  obtain ⟨ds, g1, e1, e⟩ := bnd_some e
  obtain ⟨e2, rfl⟩ := ofO_some e
  unfold dispO at e2
  cases e3 : spl fl ds with
  | none => rw [e3] at e2; cases e2
  | some ys =>
    rw [e3] at e2
    obtain ⟨hz, rfl⟩ := mkT_some (show mkT ys = some d from e2)
    refine wpAny_Tuple_spliced (thn (h.run pos pins s σ H (fun vs H1 => Keep (isS sa) H H1 ∧ SrcOk H1 sa _ ∧ RepL (less N ρ σ (escs xr)) H1 ys vs) I ⟨M0, sa, N, ρ, g, ds, ys, _, S, e1, e3, fun vs H1 k r o => ⟨k, r, o⟩⟩) fun us s1 ⟨vs, H1, I1, rv, k, r, o⟩ => ?_)
    have hl : vs.length ≤ sizeLine := by
      rw [o.length, ← lineEq]
      exact hz
    have hf : H1 s1.heap.objs.size = none := I1.hok.fresh (Nat.le_refl _)
    refine ⟨by rw [← rv.length]; exact hl, .ref s1.heap.objs.size, _, I1.laid (t' := s1.toks) (o := tupO (tupN us) vs) (fun b u e => Heap.get?_push_of_some _ e) (Nat.le_refl _) (objOk_tup hl rv (Heap.get?_push_size _ rfl)), rfl, q _ _ (Res.back (.tup rfl (S.ext k r) hf o hz) k r)⟩
theorem pe_dispL {fl : List Bool} (h : PA X es (tSp F fl xr)) : PE X (.List es pos) (tX F (.disp false fl xr)) := by
  refine ⟨fun pins s σ H Q I h' => ?_⟩
  obtain ⟨M0, sa, N, ρ, g, d, g', S, e, q⟩ := h'
  rw [ev] at e
  obtain ⟨ds, g1, e1, e⟩ := bnd_some e
  obtain ⟨e2, rfl⟩ := ofO_some e
  unfold dispO at e2
  cases e3 : spl fl ds with
  | none => rw [e3] at e2; cases e2
  | some ys =>
    rw [e3] at e2
    obtain ⟨hz, rfl⟩ := mkL_some (show mkL ys = some d from e2)
    refine (pe_lst h).run pins s σ H Q I ⟨M0, sa, N, ρ, g, ds, ys, _, S, e1, e3, fun vs H1 k r o => ⟨?_, fun p hp => q _ _ (Res.back (.lst (S.ext k r) hp o hz) k r)⟩⟩
    rw [o.length, ← lineEq]
    exact hz
end
end DT

/-! set(t), t a tuple of tuples of whole numbers. -/
namespace DT
open PySem L2 PySem.Spec PyProof.Rows
section
variable {P : Program} {w : World} {A : Around} {E : Value → Shared → Prop} {s : Shared}
/-- an empty set -/
abbrev set0 (w : World) : Obj := { cls := .type "set", dict := none, data := .set #[] 0 (.fresh 0 0 (!w.params.followText "set-order")) }
theorem none_at {h : Heap} {b : Addr} (hb : h.objs.size ≤ b) : h.get? b = none := by
  cases q : h.get? b with
  | none => rfl
  | some o => exact absurd (Heap.lt_size q) (Nat.not_lt.mpr hb)
set_option maxRecDepth 100000 in
set_option maxHeartbeats 3200000 in
theorem set_tupT {c0 : Addr} {xs : Array Value} (ps : List (Addr × List Int)) {Q : Value → Shared → Prop} (noh : A.handled = none) (ht : s.heap.IsTuple c0 xs) (hxs : xs.toList = ps.map fun p => Value.ref p.1)
    (tups : ∀ p ∈ ps, IsT P w s.heap p.2 p.1) (few : ps.length < 64) (units : A.units + 3 < cLine)
    (fin : ∀ (g : Heap) (tk : Nat) L es ep t, SetTR P w g s.heap.objs.size L es ep t → Got ps ps.length L → (∀ b o, s.heap.get? b = some o → g.get? b = some o) → Q (.ref s.heap.objs.size) { s with heap := g, toks := tk }) :
    wpAny (model P w) A (call (.type "set") [.ref c0]) Q E s := by
  have sz : xs.size = ps.length := by
    rw [← Array.length_toList, hxs, List.length_map]
  obtain ⟨cm, tm, mro⟩ := F.called_set.mro
  have made := F.called_set.made
  have subs := F.called_set.sub
  refine wpAny_call (codeAny_of_tree ?_)
  show wpAny _ _ (callAny (.type "set") _) _ _ _
  refine wpAny_pure ⟨Code.quiet_builtin _ (by decide +kernel), codeAny_builtin F.entry_type_call ?_⟩
  rw [Around.under_plain (weight_type_call_type "set" [.ref c0] []) rfl]
  have notTy := F.called_set.notType
  have canC := F.called_set.canCreate
  have tcall := F.typeCall_set_1 (.ref c0)
  repeat (any_goals (first | assumption | wp_step))
  refine codeAny_mono (code_set_led1 (.ref c0) (E := E) (Q₁ := fun ob t1 => ob = .ref s.heap.objs.size ∧ t1 = { s with heap := s.heap.push (set0 w) }) ⟨rfl, rfl⟩) fun res t1 got => ?_
  cases res with
  | error er => exact got
  | ok fl =>
    cases fl with
    | ret ob =>
      obtain ⟨rfl, rfl⟩ := got
      have at0 : (s.heap.push (set0 w)).get? s.heap.objs.size = some (set0 w) := Heap.get?_push_size _ rfl
      have ty0 : Shared.TypeIs { s with heap := s.heap.push (set0 w) } (.ref s.heap.objs.size) "set" := ⟨_, at0, rfl⟩
      have look := F.called_set.init.lookup
      have bnd0 := F.called_set.init.bind (.ref s.heap.objs.size)
      repeat (any_goals (first | assumption | wp_step))
      refine codeAny_mono (codeAny_call_builtin (R := wants (fun rr t2 => rr = .none ∧ ∃ g tk L es ep t, t2 = { s with heap := g, toks := tk } ∧ SetTR P w g s.heap.objs.size L es ep t ∧ Got ps ps.length L ∧
          (∀ b o, s.heap.get? b = some o → g.get? b = some o)) E) F.called_set.init.plain F.entry_set_init (check_set_init_1 ty0 ?_)) fun res2 t2 got2 => ?_
      · obtain ⟨ob, hob, cob, nob, dob⟩ := ht
        obtain ⟨k1, k2, k3, k4⟩ := ob
        simp only at cob dob
        subst cob; subst dob
        have hob' : (s.heap.push (set0 w)).get? c0 = some { cls := .type "tuple", dict := k2, data := .seq xs nob, slots := k4 } := Heap.get?_push_of_some _ hob
        have nsub1 := F.sub_tuple_set
        have nsub2 := F.sub_tuple_frozenset
        have ndict : (Value.type "tuple" == Value.type "dict") = false := by decide
        have tup1 : (s.heap.push (set0 w)).IsTuple c0 xs := ⟨_, hob', rfl, nob, rfl⟩
        unfold Builtin.«set.__init__» noKeywords Builtin.Frozenset.updateFrom
        generalize hIt : pyIter = PI
        wp_walk
        subst hIt
        refine wpAny_pyIter_tuple tup1 ?_
        refine wpAny_bind (wpAny_runValue ?_)
        have lt0 : c0 < s.heap.objs.size := Heap.lt_size hob
        have noh3 : A.in1.in1.in1.handled = none := by simp [noh]
        have psz : (s.heap.push (set0 w)).objs.size = s.heap.objs.size + 1 := Heap.size_push ..
        have apart : c0 ≠ (s.heap.push (set0 w)).objs.size := by
          rw [psz]
          exact Nat.ne_of_lt (Nat.lt_succ_of_lt lt0)
        have apart2 : s.heap.objs.size ∉ [(s.heap.push (set0 w)).objs.size, c0] := by
          rw [psz]
          simp only [List.mem_cons, List.not_mem_nil, or_false, not_or]
          exact ⟨Nat.ne_of_lt (Nat.lt_succ_self _), Nat.ne_of_gt lt0⟩
        have vals : ∀ (i : Nat) (v : Value), xs[i]? = some v → ∃ p, ps[i]? = some p ∧ v = .ref p.1 := fun i v hv => by
          have z : xs.toList[i]? = some v := by
            rw [Array.getElem?_toList]
            exact hv
          rw [hxs, List.getElem?_map] at z
          obtain ⟨p, e1, e2⟩ := Option.map_eq_some_iff.mp z
          exact ⟨p, e1, e2.symm⟩
        refine set_update_tups ((Walks.tuple noh3 _ c0 apart xs).toS) s.heap.objs.size apart2 ps sz few vals s.heap tups (none_at (Nat.le_refl _)) (fun b hb => none_at (by
            rw [List.mem_singleton.mp hb, psz]
            omega)) units (xs.size - 0) 0 _ (by omega) (Nat.zero_le _) ⟨⟨_, Heap.get?_push_size _ rfl, rfl, rfl⟩, (tup1.push _)⟩ (fun b o e => Heap.get?_push_of_some _ (Heap.get?_push_of_some _ e)) ?start ?done
        case start => exact ⟨[], #[], 0, _, setTR_fresh (Heap.get?_push_of_some _ at0), Got.zero ps⟩
        case done =>
          intro t3 L es ep t mv R3 g3 keep3
          obtain ⟨h3, gn3, dr3, tk3, os3⟩ := t3
          have e1 : gn3 = s.gens := mv.gens
          have e2 : dr3 = s.drawn := mv.drawn
          have e3 : os3 = s.os := mv.os
          subst e1; subst e2; subst e3
          show wpAny _ _ _ _ _ _
          refine wpAny_pure ?_
          show wpAny _ _ (PySem.ret Value.none) _ _ _
          rw [sz] at g3
          exact wpAny_pure ⟨rfl, h3, tk3, L, es, ep, t, rfl, R3, g3, keep3⟩
      · cases res2 with
        | error er => exact got2
        | ok fl2 =>
          cases fl2 with
          | ret rr =>
            obtain ⟨rfl, g, tk, L, es, ep, t, rfl, R3, g3, keep3⟩ := got2
            repeat (any_goals (first | assumption | wp_step))
            exact fin _ _ _ _ _ _ R3 g3 keep3
          | _ => exact got2.elim
    | _ => exact got.elim
end
end DT

/-! sorted by size; sets. -/
namespace DT
open PySem L2 PyProof.Rows
section
variable {X : Cx} {F : List Fn} {M0 N : Ms} {sa : Addr × Addr} {H H1 : Hp} {σ τ : L2.St} {ρ : Rho} {g g1 g2 : PState} {a b : Expr} {es : List Expr} {xa xb : Ex} {xr : Exs} {x y : D} {pos : Pos} {v : V} {p : Addr} {pins : List (Addr × Obj)} {s : Shared}
theorem intsOf_eq : ∀ {xs : List D} {ns : List Int}, intsOf xs = some ns → xs = ns.map PyData.int
  | [], ns, e => by
    obtain rfl := Option.some.inj (show some [] = some ns from e)
    rfl
  | x :: r, ns, e => by
    cases x with
    | int i =>
      unfold intsOf at e
      cases q : intsOf r with
      | none => rw [q] at e; cases e
      | some ms =>
        rw [q] at e
        obtain rfl := Option.some.inj (show some (i :: ms) = some ns from e)
        rw [intsOf_eq q]
        rfl
    | _ => cases e
theorem repL_ints {N : Ms} {H : Hp} : ∀ ns : List Int, RepL N H (ns.map PyData.int) (ns.map V.int)
  | [] => .nil
  | n :: ns => .cons (by rw [Rep]) (repL_ints ns)
theorem each_ints : ∀ {ns : List Int} {us : List Value}, Vals (ns.map V.int) us → PySem.W.EachIs (fun (u : Value) (n : Int) => RelV (.int n) u) us ns
  | [], _, .nil => .nil
  | _ :: _, _, .cons r t => .cons r (each_ints t)
theorem ints_each : ∀ {ns : List Int} {us : List Value}, PySem.W.EachIs (fun (u : Value) (n : Int) => RelV (.int n) u) us ns → Vals (ns.map V.int) us
  | [], _, .nil => .nil
  | _ :: _, _, .cons r t => .cons r (ints_each t)
theorem pe_sabsD {lev : Nat} {p p2 kp : Pos} (hc : X.calm = true) (hr : Room lev X.A) (hg : Gl X "sorted") (hm : X.mg "sorted" = none) (hg2 : Gl X "abs") (hm2 : X.mg "abs" = none) (ha : PE X a (tX F xa))
    (na : starEach [a] X.env = (false, eval a X.env) :: starEach [] X.env) : PE X (.Call (.Name "sorted" p) [a] [⟨some "key", .Name "abs" p2, kp⟩] pos) (tX F (.sabs xa)) := by
  refine ⟨fun pins s σ H Q I h => ?_⟩
  obtain ⟨M0, sa, N, ρ, g, d, g', S, e, q⟩ := h
  rw [ev] at e
  obtain ⟨x, g1, e1, e⟩ := bnd_some e
  obtain ⟨e2, rfl⟩ := ofO_some e
  refine wpAny_Call_Name_kw (ld_blt I hg hm boot_sorted ?_)
  refine PyProof.Rows.callWith_kw (PyProof.Rows.args_cons (thn (ha.run pins s σ H (fun v H1 => Res sa N ρ σ xa H g' x v H1) I ⟨M0, sa, N, ρ, g, x, g', S, e1, fun v H1 r1 => r1⟩) fun u s1 ⟨v, H1, I1, rv, r1⟩ => PyProof.Rows.args_nil ?_) na) ?_ ?_ ?_ ?_
  · refine wpAny_evalAll_cons (wpAny_bind (ld_blt I1 hg2 hm2 boot_abs (wpAny_bind (wpAny_standAt (wpAny_pure ?_)))))
    refine PyProof.Rows.evalAll_nil ?_
    have hx : ∃ ns, x = .list (ns.map PyData.int) ∧ ns.length ≤ LINE ∧ d = .list ((ns.mergeSort fun a b => decide (absI a ≤ absI b)).map PyData.int) ∧ intsOf (ns.map PyData.int) = some ns := by
      cases x with
      | list xs =>
        cases hi : intsOf xs with
        | none => simp only [sabsO, hi] at e2; cases e2
        | some ns =>
          simp only [sabsO, hi] at e2
          obtain ⟨c, rfl⟩ := if_some e2
          obtain rfl := intsOf_eq hi
          exact ⟨ns, rfl, of_decide_eq_true c, rfl, hi⟩
      | _ => cases e2
    obtain ⟨ns, rfl, hlen, rfl, hi⟩ := hx
    obtain ⟨_, l, vs, rfl, hL, rL⟩ := r1.vo.top
    obtain ⟨rfl, _⟩ := rL.ints hi
    cases rv
    obtain ⟨its, rvs, pl, hz⟩ := I1.list (SqL.of (K := X.K) hL)
    have hun := hr.un
    have kk : backToKw pos (keywordEach [{ arg := some (Str.ofString "key"), value := Expr.Name (Str.ofString "abs") p2, pos := kp }] X.env) = backToKw pos (keywordEach [{ arg := some (Str.ofString "key"), value := Expr.Name (Str.ofString "abs") p2, pos := kp }] X.env) := rfl
    show wpAny _ _ (call (.builtin "sorted") [.ref l] [(Str.ofString "key", .builtin "abs")]) _ _ _
    have nl : ns.length = its.length := by
      have := rvs.length
      rw [List.length_map] at this
      exact this
    refine PySem.W.sorted_key_data (bs := ns) (R := fun (u : Value) (n : Int) => RelV (.int n) u) (vs := its) (f := .builtin "abs") (b := false) (fun n => PyData.int (absI n)) pl.isList (each_ints rvs) ?_ ?_ (by rw [← lineEq]; exact hlen) ?_ (ksk_s1 _ _) (fun z => ksk_l1 _ _) (fun z => ksk_t4 "abs" z) ?_ ?_
    · intro d hd d' hd'
      obtain ⟨m, _, rfl⟩ := List.mem_map.mp hd
      obtain ⟨m', _, rfl⟩ := List.mem_map.mp hd'
      rfl
    · refine .inr fun d hd => ?_
      obtain ⟨m, _, rfl⟩ := List.mem_map.mp hd
      exact ⟨fun z => (by cases z), fun xs z => (by cases z)⟩
    · intro m hm
      show X.A.units + 2 + 0 < cLine
      omega
    · intro u m ru hm h tk kp
      obtain ⟨t, rfl⟩ := ru
      exact PyProof.Rows.call_abs_int fun u tk' => ⟨h, tk', rfl, fun b o z => z, .int _ _⟩
    · intro out c h' tk kp hn hat ol oe
      rw [PySem.W.dataLe_int] at oe
      have rv2 := ints_each oe
      have hf : H1 (s1.heap.objs.size + 1) = none := I1.hok.fresh (Nat.le_succ _)
      have lm : (ns.mergeSort fun a b => decide (absI a ≤ absI b)).length = ns.length := List.length_mergeSort ..
      refine ⟨.ref (s1.heap.objs.size + 1), upd H1 (s1.heap.objs.size + 1) (.lst ((ns.mergeSort fun a b => decide (absI a ≤ absI b)).map V.int)), I1.laid (t' := tk) kp (Nat.le_succ _) ⟨?_, out, c, rv2, hat⟩, rfl, q _ _ (Res.back (.lst (S.ext r1.keep r1.src) hf ?_ ?_) r1.keep r1.src)⟩
      · rw [List.length_map, lm, ← lineEq]
        exact hlen
      · exact repL_ints _
      · rw [List.length_map, lm]
        exact hlen
  · show backTo pos (starEach [a] X.env) = _
    rw [na]
    rfl
  · show (backTo pos (starEach [a] X.env)).any (·.1) = false
    rw [na]
    rfl
  · rfl
  · rfl
theorem ded_step {α : Type} [DecidableEq α] [BEq α] [LawfulBEq α] (acc : List α) (k : α) : step_dedup acc k = if k ∈ acc then acc else acc ++ [k] := by
  unfold step_dedup
  by_cases h : k ∈ acc
  · have z : (acc.any fun x => x == k) = true := List.any_eq_true.mpr ⟨k, h, beq_self_eq_true k⟩
    rw [if_pos h, if_pos z]
  · have z : ¬ (acc.any fun x => x == k) = true := fun z => by
      obtain ⟨x, hx, e⟩ := List.any_eq_true.mp z
      exact h (eq_of_beq e ▸ hx)
    rw [if_neg h, if_neg z]
theorem first_ded (ns : List Int) : firstMet (fun i => ns.getD i 0) ns.length = dedK ns := by
  have e : (List.range ns.length).map (fun i => ns.getD i 0) = ns := by
    refine List.ext_getElem (by simp) fun i h1 h2 => ?_
    rw [List.getElem_map, List.getElem_range, List.getD_eq_getElem?_getD, List.getElem?_eq_getElem h2]
    rfl
  unfold firstMet dedK
  rw [e]
  congr 1
  funext acc k
  exact ded_step acc k
theorem ded_facts {α : Type} [DecidableEq α] : ∀ (ks acc : List α), acc.Nodup → (ks.foldl (fun acc k => if k ∈ acc then acc else acc ++ [k]) acc).Nodup ∧ ∀ x, x ∈ ks.foldl (fun acc k => if k ∈ acc then acc else acc ++ [k]) acc ↔ x ∈ acc ∨ x ∈ ks
  | [], acc, h => ⟨h, fun x => by simp⟩
  | k :: ks, acc, h => by
    rw [List.foldl_cons]
    by_cases c : k ∈ acc
    · rw [if_pos c]
      obtain ⟨h1, h2⟩ := ded_facts ks acc h
      refine ⟨h1, fun x => (h2 x).trans ⟨fun z => z.imp id fun w => List.mem_cons_of_mem _ w, fun z => z.elim .inl fun w => ?_⟩⟩
      rcases List.mem_cons.mp w with w | w
      · exact .inl (w ▸ c)
      · exact .inr w
    · rw [if_neg c]
      obtain ⟨h1, h2⟩ := ded_facts ks (acc ++ [k]) (List.nodup_append.mpr ⟨h, by simp, fun a ha b hb e => c (by
        have : b = k := by simpa using hb
        rw [← this, ← e]
        exact ha)⟩)
      refine ⟨h1, fun x => (h2 x).trans ?_⟩
      rw [List.mem_append, List.mem_singleton, List.mem_cons, or_assoc]
theorem dedK_nodup {α : Type} [DecidableEq α] (ks : List α) : (dedK ks).Nodup := (ded_facts ks [] List.nodup_nil).1
theorem dedK_mem {α : Type} [DecidableEq α] (ks : List α) (x : α) : x ∈ dedK ks ↔ x ∈ ks := ((ded_facts ks [] List.nodup_nil).2 x).trans ⟨fun z => z.elim (fun w => by cases w) id, .inr⟩
theorem tup_refs {K : PySem.W.Frag} {N : Ms} {H : Hp} : ∀ {xs : List D} {ks : List (List Int)} {vs : List V}, tupsOf xs = some ks → RepL N H xs vs → ∃ ps : List (Addr × List Int), vs = ps.map (fun p => V.ref p.1) ∧ ps.map (·.2) = ks ∧ ∀ p ∈ ps, SqT K H p.1 (p.2.map V.int)
  | [], ks, vs, e, r => by
    obtain rfl := Option.some.inj (show some [] = some ks from e)
    rw [RepL] at r
    subst r
    exact ⟨[], rfl, rfl, fun p hp => by cases hp⟩
  | x :: xs, ks, vs, e, r => by
    rw [RepL] at r
    obtain ⟨v, t, rfl, h1, h2⟩ := r
    cases x with
    | tuple ds =>
      unfold tupsOf at e
      cases q1 : intsOf ds with
      | none => simp only [q1] at e; cases e
      | some k =>
        cases q2 : tupsOf xs with
        | none => simp only [q1, q2] at e; cases e
        | some ks' =>
          simp only [q1, q2] at e
          obtain rfl := Option.some.inj e
          obtain ⟨ps, rfl, rfl, h3⟩ := tup_refs (K := K) q2 h2
          rw [Rep] at h1
          obtain ⟨_, b, ws, rfl, _, ht, rL⟩ := h1
          obtain ⟨rfl, _⟩ := rL.ints q1
          refine ⟨(b, k) :: ps, rfl, rfl, fun p hp => ?_⟩
          rcases List.mem_cons.mp hp with z | z
          · subst z
            exact ht.sq
          · exact h3 p z
    | _ => cases e
theorem got_len {ps L : List (Addr × List Int)} (nd : (L.map (·.2)).Nodup) (g : Got ps ps.length L) : L.length = (dedK (ps.map (·.2))).length := by
  have e : (L.map (·.2)).Perm (dedK (ps.map (·.2))) := by
    refine (List.perm_ext_iff_of_nodup nd (dedK_nodup _)).mpr fun k => ?_
    rw [dedK_mem]
    refine ⟨fun h => ?_, fun h => ?_⟩
    · obtain ⟨p, hp, rfl⟩ := List.mem_map.mp h
      exact List.mem_map_of_mem (List.mem_of_mem_take (g.sub p hp))
    · obtain ⟨p, hp, rfl⟩ := List.mem_map.mp h
      exact g.all p (by rw [List.take_length]; exact hp)
  rw [← e.length_eq, List.length_map]
theorem pe_lenSetL {p p2 q : Pos} (hc : X.calm = true) (hg : Gl X "len") (hm : X.mg "len" = none) (hg2 : Gl X "set") (hm2 : X.mg "set" = none) (ha : PE X a (tX F xa)) (hu : X.A.units + 64 < cLine)
    (na : starEach [a] X.env = (false, eval a X.env) :: starEach [] X.env) : PE X (.Call (.Name "len" p) [.Call (.Name "set" p2) [a] [] q] [] pos) (tX F (.blt .lenSet (.cons xa .nil))) := by
  refine ⟨fun pins s σ H Q I h => ?_⟩
  obtain ⟨M0, sa, N, ρ, g, d, g', S, e, q⟩ := h
  rw [ev] at e
  obtain ⟨ds, g1, e1, e⟩ := bnd_some e
  obtain ⟨e2, rfl⟩ := ofO_some e
  obtain ⟨x, e3, rfl⟩ := evs_one e1
  refine Call_ (ld_blt I hg hm PySem.boot_len ?_)
  refine PyProof.Rows.callWith_builtin1 (PyProof.Rows.args_cons ?_ rfl) rfl rfl
  refine Call_ (ld_blt I hg2 hm2 PyProof.Rows.boot_set ?_)
  refine PyProof.Rows.callWith_type1 (PyProof.Rows.args_cons (thn (ha.run pins s σ H (fun v H1 => Res sa N ρ σ xa H _ x v H1) I ⟨M0, sa, N, ρ, g, x, _, S, e3, fun v H1 r => r⟩) fun v s1 ⟨y, H1, I1, r1, res⟩ => PyProof.Rows.args_nil ?_) na) na rfl
  cases x with
  | list xs =>
    cases hi : intsOf xs with
    | none => simp only [bltO, hi] at e2; cases e2
    | some ns =>
      simp only [bltO, hi] at e2
      obtain ⟨c, rfl⟩ := if_some e2
      have h64 : ns.length < 64 := of_decide_eq_true c
      obtain ⟨_, l, vs, rfl, hL, rL⟩ := res.vo.top
      obtain ⟨rfl, _⟩ := rL.ints hi
      cases r1
      obtain ⟨its, rvs, pl, hz⟩ := I1.list (SqL.of (K := X.K) hL)
      have hl : its.toArray.size = ns.length := by rw [List.size_toArray, ← rvs.length, List.length_map]
      refine call_set_list (I1.ok.hd hc) pl.isList (ns := ns) (by simpa using rvs.ints) (by unfold scanBound; omega) fun h' tk hS hk => ?_
      rw [hl, first_ded] at hS
      have hd := dedK_le ns
      refine PyProof.Rows.args_nil ?_
      obtain ⟨o, es, ep, t, ho, hex, hdd, _, _, _, hf, hn⟩ := hS
      have I2 : Inv X pins σ H1 { s1 with heap := h', toks := tk } := I1.kept fun b o e => hk b o (Heap.lt_size e) e
      refine call_len_set ho hex hdd hf (by rw [hn] <;> omega) ⟨.int (dedK ns).length, H1, I2.tok _, ⟨_, by rw [hn]⟩, q _ _ (Res.back (.int (S.ext res.keep res.src) _) res.keep res.src)⟩
  | tuple xs =>
    cases hi : tupsOf xs with
    | none => simp only [bltO, hi] at e2; cases e2
    | some ks =>
      simp only [bltO, hi] at e2
      obtain ⟨c, rfl⟩ := if_some e2
      have h64 : ks.length < 64 := of_decide_eq_true c
      obtain ⟨_, l, vs, rfl, _, hL, rL⟩ := res.vo.top.tup
      obtain ⟨ps, rfl, rfl, hps⟩ := tup_refs (K := X.K) hi rL
      cases r1
      obtain ⟨its, rvs, pl, hz⟩ := I1.tuple (hL.sq (K := X.K))
      rw [List.length_map] at h64
      refine set_tupT (P := X.prog) (w := X.w) ps (I1.ok.hd hc) pl (by simpa using refs_of_vals rvs) (fun p hp => I1.isT (hps p hp)) h64 (by omega) fun h' tk L es ep t R g k => ?_
      have hlen := got_len R.nd g
      obtain ⟨o, ho, hex, hdd⟩ := R.ob
      have I2 : Inv X pins σ H1 { s1 with heap := h', toks := tk } := I1.kept k
      have hsz := SetTR.size (s := { s1 with heap := h', toks := tk }) R
      have hfit := SetTR.fits (s := { s1 with heap := h', toks := tk }) R
      have hfew := R.few
      refine PyProof.Rows.args_nil ?_
      refine call_len_set ho hex hdd hfit (by rw [hsz] <;> omega) ⟨.int (dedK (ps.map (·.2))).length, H1, I2.tok _, ⟨_, by rw [hsz, hlen]⟩, q _ _ (Res.back (.int (S.ext res.keep res.src) _) res.keep res.src)⟩
  | _ => cases e2
theorem strict_ext : ∀ {xs ys : List Int}, xs.Pairwise (· < ·) → ys.Pairwise (· < ·) → (∀ k, k ∈ xs ↔ k ∈ ys) → xs = ys
  | [], [], _, _, _ => rfl
  | [], y :: ys, _, _, h => by
    have := (h y).mpr List.mem_cons_self
    cases this
  | x :: xs, [], _, _, h => by
    have := (h x).mp List.mem_cons_self
    cases this
  | x :: xs, y :: ys, hx, hy, h => by
    obtain ⟨hx1, hx2⟩ := List.pairwise_cons.mp hx
    obtain ⟨hy1, hy2⟩ := List.pairwise_cons.mp hy
    have e : x = y := by
      rcases List.mem_cons.mp ((h x).mp List.mem_cons_self) with z | z
      · exact z
      · rcases List.mem_cons.mp ((h y).mpr List.mem_cons_self) with w | w
        · exact w.symm
        · have a := hy1 x z
          have b := hx1 y w
          omega
    subst e
    rw [strict_ext hx2 hy2 fun k => ⟨fun z => ?_, fun z => ?_⟩]
    · rcases List.mem_cons.mp ((h k).mp (List.mem_cons_of_mem _ z)) with w | w
      · have := hx1 k z
        omega
      · exact w
    · rcases List.mem_cons.mp ((h k).mpr (List.mem_cons_of_mem _ z)) with w | w
      · have := hy1 k z
        omega
      · exact w
theorem sort_strict {l : List Int} (h : l.Nodup) : (l.mergeSort fun a b => decide (a ≤ b)).Pairwise (· < ·) := by
  have h1 := List.pairwise_mergeSort (le := fun a b : Int => decide (a ≤ b)) (fun a b c x y => decide_eq_true (Int.le_trans (of_decide_eq_true x) (of_decide_eq_true y))) (fun a b => by
    rcases Int.le_total a b with z | z
    · simp [z]
    · simp [z]) l
  have h2 : (l.mergeSort fun a b => decide (a ≤ b)).Nodup := (List.mergeSort_perm l _).nodup_iff.mpr h
  refine List.Pairwise.imp₂ (fun a b z w => ?_) h1 h2
  have z := of_decide_eq_true z
  omega
theorem pe_sortSetD {p p2 q : Pos} (hc : X.calm = true) (hg : Gl X "sorted") (hm : X.mg "sorted" = none) (hg2 : Gl X "set") (hm2 : X.mg "set" = none) (ha : PE X a (tX F xa))
    (na : starEach [a] X.env = (false, eval a X.env) :: starEach [] X.env) : PE X (.Call (.Name "sorted" p) [.Call (.Name "set" p2) [a] [] q] [] pos) (tX F (.blt .sortSet (.cons xa .nil))) := by
  refine ⟨fun pins s σ H Q I h => ?_⟩
  obtain ⟨M0, sa, N, ρ, g, d, g', S, e, q⟩ := h
  rw [ev] at e
  obtain ⟨ds, g1, e1, e⟩ := bnd_some e
  obtain ⟨e2, rfl⟩ := ofO_some e
  obtain ⟨x, e3, rfl⟩ := evs_one e1
  refine Call_ (ld_blt I hg hm PyProof.Rows.boot_sorted ?_)
  refine PyProof.Rows.callWith_builtin1 (PyProof.Rows.args_cons ?_ rfl) rfl rfl
  refine Call_ (ld_blt I hg2 hm2 PyProof.Rows.boot_set ?_)
  refine PyProof.Rows.callWith_type1 (PyProof.Rows.args_cons (thn (ha.run pins s σ H (fun v H1 => Res sa N ρ σ xa H _ x v H1) I ⟨M0, sa, N, ρ, g, x, _, S, e3, fun v H1 r => r⟩) fun v s1 ⟨y, H1, I1, r1, res⟩ => PyProof.Rows.args_nil ?_) na) na rfl
  cases x with
  | tuple xs =>
    cases hi : intsOf xs with
    | none => simp only [bltO, hi] at e2; cases e2
    | some ns =>
      simp only [bltO, hi] at e2
      obtain ⟨c, rfl⟩ := if_some e2
      have h60 : ns.length < 60 := of_decide_eq_true c
      obtain ⟨_, l, vs, rfl, _, hL, rL⟩ := res.vo.top.tup
      obtain ⟨rfl, _⟩ := rL.ints hi
      cases r1
      obtain ⟨its, rvs, pl, hz⟩ := I1.tuple (hL.sq (K := X.K))
      refine call_set_tupI ns (I1.ok.hd hc) pl (by simpa using rvs.ints) (by unfold scanBound; omega) fun h' tk c hS hcn hk => ?_
      have I2 : Inv X pins σ H1 { s1 with heap := h', toks := tk } := I1.kept hk
      refine PyProof.Rows.args_nil ?_
      have hS2 : SetR X.w ({ s1 with heap := h', toks := tk } : Shared).heap s1.heap.objs.size (fun j => decide (j ∈ ns)) c := hS
      generalize ({ s1 with heap := h', toks := tk } : Shared) = s2 at I2 hS2 ⊢
      refine sorted_set hS2 (I1.ok.hd hc) (by omega) fun s' p out c' ms k2 hg' ho' hp hat hit hpw hmem hlen => ?_
      have em : ms = (dedK ns).mergeSort fun a b => decide (a ≤ b) := strict_ext hpw (sort_strict (dedK_nodup ns)) fun k => (hmem k).trans (by
        rw [List.mem_mergeSort, dedK_mem]
        exact decide_eq_true_iff)
      subst em
      have hl2 : (((dedK ns).mergeSort fun a b => decide (a ≤ b)).map V.int).length ≤ sizeLine := by
        rw [List.length_map, hlen, sizeLine_eq]
        omega
      have hf : H1 p = none := I2.hok.fresh hp
      have J : Inv X pins σ (upd H1 p (.lst (((dedK ns).mergeSort fun a b => decide (a ≤ b)).map V.int))) { s2 with heap := s'.heap, gens := s'.gens, drawn := s'.drawn, toks := s'.toks } :=
        I2.call (ch := []) (Un.laid k2 hp hf) (I2.hok.laid k2 hp ⟨hl2, out.toList, c', vals_of_ints hit, hat⟩) (by rw [hg']; exact I2.bare) fun _ z => (by cases z)
      have es : s' = { s2 with heap := s'.heap, gens := s'.gens, drawn := s'.drawn, toks := s'.toks } := by
        cases s'
        cases s2
        cases ho'
        rfl
      rw [es]
      refine ⟨.ref p, _, J, rfl, q _ _ (Res.back (.lst (S.ext res.keep res.src) hf (repL_ints _) ?_) res.keep res.src)⟩
      have := List.length_map (f := V.int) (as := (dedK ns).mergeSort fun a b => decide (a ≤ b))
      rw [List.length_map]
      rw [this] at hl2
      rw [lineEq]
      exact hl2
  | _ => cases e2
end
end DT

/-! What a loop walks. -/
namespace DT
open PySem L2 PyProof.Rows
/-- a tuple that may be made just for the walk -/
def TupW (K : PySem.W.Frag) (N : Ms) (H : Hp) (ds : List D) (v : V) : Prop := ∃ a vs, v = .ref a ∧ SqT K H a vs ∧ RepL N H ds vs
/-- a turn's item; pr: only its parts will be looked at -/
def Itm (K : PySem.W.Frag) (pr : Bool) (N : Ms) (H : Hp) (x : D) (v : V) : Prop := if pr = true then ∃ ds, x = .tuple ds ∧ TupW K N H ds v else Rep N H x v
/-- more that no one is to hold: what did not stand then -/
def Ups (N : Ms) (H0 : Hp) (N' : Ms) : Prop := ∀ a, N' a → N a ∨ H0 a = none
/-- J goes through xs as long as what stood at H0 outside of N stands -/
def Walks (K : PySem.W.Frag) (N : Ms) (H0 : Hp) (pr : Bool) (J : It) (xs : List D) : Prop := ∀ N', Ups N H0 N' →
  (∀ H, Keep N' H0 H → J.stop xs.length H) ∧ ∀ (i : Nat) (x : D) (H : Hp), xs[i]? = some x → Keep N' H0 H → J.go i H ∧ ∀ v H', J.yld i H v H' → (∀ a o, H a = some o → H' a = some o) ∧ Itm K pr N' H' x v
theorem RepL.ups {N N' : Ms} {H : Hp} {ds : List D} {vs : List V} (r : RepL N H ds vs) (u : Ups N H N') : RepL N' H ds vs := r.tr fun a o e n => ⟨e, fun z => (u a z).elim n fun y => by rw [e] at y; cases y⟩
theorem Ups.not {N N' : Ms} {H : Hp} {a : Addr} {o : HO} (u : Ups N H N') (e : H a = some o) (n : ¬ N a) : ¬ N' a := fun z => (u a z).elim n fun y => by rw [e] at y; cases y
def pairK : ItK → Bool
  | .enum => true
  | .zip2 => true
  | _ => false
def tIt (K : PySem.W.Frag) (F : List Fn) (ik : ItK) (ss : Exs) : TI := fun σ H R => ∃ (M0 : Ms) (sa : Addr × Addr) (N : Ms) (ρ : Rho) (g : PState) (ds : List D) (g' : PState) (xs : List D), StOk M0 sa N H σ ρ g ∧ evs F ss ρ g = some (ds, g') ∧ itO ik ds = some xs ∧
  ∀ J H1, Keep (isS sa) H H1 → SrcOk H1 sa g' → xs.length ≤ LINE → Walks K (less N ρ σ (escs ss)) H1 (pairK ik) J xs → R J H1
section
variable {X : Cx} {F : List Fn} {M0 N : Ms} {sa : Addr × Addr} {H H1 : Hp} {σ τ : L2.St} {ρ : Rho} {g g1 g2 : PState} {tg a b : Expr} {es : List Expr} {xa xb : Ex} {xr : Exs} {x y : D} {pos : Pos} {K : PySem.W.Frag}
theorem Keep.lst {l : Addr} {vs : List V} {H0 H : Hp} (k : Keep N H0 H) (n : ¬ N l) (h : H0 l = some (.lst vs)) : H l = some (.lst vs) := k l _ h n
theorem TupAt.keep {l : Addr} {vs : List V} {H0 H : Hp} (h : TupAt H0 l vs) (k : Keep N H0 H) (n : ¬ N l) : TupAt H l vs := h.to fun o e => k l o e n
/-- a list or tuple that no one writes -/
theorem seq_rep {xs : List D} {d : D} {v : V} (h : Rep N H d v) (e : seqO d = some xs) : xs.length ≤ LINE ∧ ∃ l vs, v = .ref l ∧ ¬ N l ∧ RepL N H xs vs ∧ ((H l = some (.lst vs) ∧ d = .list xs) ∨ (TupAt H l vs ∧ d = .tuple xs)) := by
  cases d with
  | list ds =>
    obtain rfl := Option.some.inj e
    rw [Rep] at h
    obtain ⟨hz, l, vs, rfl, n, q, r⟩ := h
    exact ⟨hz, l, vs, rfl, n, r, .inl ⟨q, rfl⟩⟩
  | tuple ds =>
    obtain rfl := Option.some.inj e
    rw [Rep] at h
    obtain ⟨hz, l, vs, rfl, n, q, r⟩ := h
    exact ⟨hz, l, vs, rfl, n, r, .inr ⟨q, rfl⟩⟩
  | _ => cases e
theorem walks_list {xs : List D} {vs : List V} {l : Addr} (h : H l = some (.lst vs)) (n : ¬ N l) (r : RepL N H xs vs) (K' : PySem.W.Frag) : Walks K N H false (Itl K' l) xs := by
  intro N' up
  have n := up.not h n
  refine ⟨fun H' k => ⟨vs, .of (k.lst n h), by rw [r.length]; exact Nat.le_refl _⟩, fun i x H' e k => ?_⟩
  obtain ⟨v, e1, e2⟩ := (r.ups up).get e
  refine ⟨⟨vs, v, .of (k.lst n h), e1⟩, fun w H2 ⟨q1, q2⟩ => ?_⟩
  subst q1
  have e3 := q2 vs (.of (k.lst n h))
  rw [e1] at e3
  cases e3
  exact ⟨fun a o z => z, Rep.keep e2 k⟩
theorem walks_tup {xs : List D} {vs : List V} {l : Addr} (h : TupAt H l vs) (n : ¬ N l) (r : RepL N H xs vs) (K' : PySem.W.Frag) : Walks K N H false (Itt K' l) xs := by
  intro N' up
  obtain ⟨ob, hob⟩ := h.obj
  have n := up.not hob n
  refine ⟨fun H' k => ⟨vs, (h.keep k n).sq, by rw [r.length]; exact Nat.le_refl _⟩, fun i x H' e k => ?_⟩
  obtain ⟨v, e1, e2⟩ := (r.ups up).get e
  refine ⟨⟨vs, v, (h.keep k n).sq, e1⟩, fun w H2 ⟨q1, q2⟩ => ?_⟩
  subst q1
  have e3 := q2 vs (h.keep k n).sq
  rw [e1] at e3
  cases e3
  exact ⟨fun a o z => z, Rep.keep e2 k⟩
theorem rngL_get {a b : Int} {i : Nat} {x : D} (h : (rngL a b)[i]? = some x) : i < (b - a).toNat ∧ x = .int (a + (i : Nat)) := by
  unfold rngL at h
  rw [List.getElem?_map] at h
  obtain ⟨j, e1, e2⟩ := Option.map_eq_some_iff.mp h
  obtain ⟨h1, h2⟩ := List.getElem?_eq_some_iff.mp e1
  rw [List.length_range] at h1
  rw [List.getElem_range] at h2
  subst h2
  exact ⟨h1, e2.symm⟩
theorem walks_rng (lo hi : Int) : Walks K N H false (Itr lo (hi - lo).toNat) (rngL lo hi) := by
  intro N' up
  refine ⟨fun H' k => ?_, fun i x H' e k => ?_⟩
  · show _ ≤ _
    unfold rngL
    rw [List.length_map, List.length_range]
    exact Nat.le_refl _
  · obtain ⟨h1, rfl⟩ := rngL_get e
    refine ⟨h1, fun v H2 ⟨q1, q2⟩ => ?_⟩
    subst q1 q2
    exact ⟨fun a o z => z, by show Rep _ _ _ _; rw [Rep]⟩

/-! ### the forms -/
theorem pi_seqD (ha : PE X a (tX F xa)) : PI X tg a (tIt X.K F .seq (.cons xa .nil)) := by
  refine ⟨fun pins s σ H R I h => ?_⟩
  obtain ⟨M0, sa, N, ρ, g, ds, g', xs, S, e, ei, q⟩ := h
  obtain ⟨x, e1, rfl⟩ := evs_one e
  refine thn (ha.run pins s σ H (fun u H1 => Vo sa N ρ σ xa H1 x u ∧ Keep (isS sa) H H1 ∧ SrcOk H1 sa g') I ⟨M0, sa, N, ρ, g, x, g', S, e1, fun u H1 r => ⟨r.vo, r.keep, r.src⟩⟩) fun v s1 ⟨z, H1, I1, r1, o, k1, q1⟩ => ?_
  have rp : Rep (less N ρ σ (escs (.cons xa .nil))) H1 x z := o.rep.anti fun c hc => less_mono (fun i hi => List.mem_append_left _ hi) hc
  obtain ⟨hz0, l, vs, rfl, n, r, hh⟩ := seq_rep rp ei
  cases r1
  rcases hh with ⟨hl, _⟩ | ⟨hl, _⟩
  · obtain ⟨its, rv, p, hz⟩ := I1.list (.of hl)
    refine wpAny_pyIter_list p.isList ?_
    refine ⟨s1.heap.objs.size, [s1.heap.objs.size], _, _, H1, rfl, I1.kept (t' := s1.toks) fun b o e => Heap.get?_push_of_some _ e, turn_list l _, ⟨_, Heap.get?_push_size _ rfl, rfl, rfl⟩, fun b hb => ?_, q _ H1 k1 q1 hz0 (walks_list hl n r _)⟩
    obtain rfl := List.mem_singleton.mp hb
    exact I1.fpOk (Nat.le_refl _) (I1.hok.fresh (Nat.le_refl _))
  · obtain ⟨its, rv, p, hz⟩ := I1.tuple hl.sq
    refine wpAny_pyIter_tuple (show s1.heap.IsTuple l its.toArray from p) ?_
    refine ⟨s1.heap.objs.size, [s1.heap.objs.size], _, _, H1, rfl, I1.kept (t' := s1.toks) fun b o e => Heap.get?_push_of_some _ e, turn_tuple l _, ⟨_, Heap.get?_push_size _ rfl, rfl, rfl⟩, fun b hb => ?_, q _ H1 k1 q1 hz0 (walks_tup hl n r _)⟩
    obtain rfl := List.mem_singleton.mp hb
    exact I1.fpOk (Nat.le_refl _) (I1.hok.fresh (Nat.le_refl _))
theorem pi_rng1D {p : Pos} (hg : Gl X "range") (hm : X.mg "range" = none) (ha : PA X [a] (tA F (.cons xa .nil))) (hs : starEach [a] X.env = [(false, eval a X.env)]) : PI X tg (.Call (.Name "range" p) [a] [] pos) (tIt X.K F .rng1 (.cons xa .nil)) := by
  refine ⟨fun pins s σ H R I h => ?_⟩
  obtain ⟨M0, sa, N, ρ, g, ds, g', xs, S, e, ei, q⟩ := h
  refine (pi_range1 hg hm ha hs).run pins s σ H R I ⟨M0, sa, N, ρ, g, ds, g', S, e, fun vs H1 k r o => ?_⟩
  obtain ⟨x, e1, rfl⟩ := evs_one e
  cases x with
  | int n =>
    obtain ⟨ok, rfl, hl⟩ := rngO_some (show rngO 0 n = some xs from ei)
    obtain ⟨e', v, e2, rfl, ov⟩ := o.one
    obtain rfl := ov.top.int
    obtain ⟨b1, b2, b3, b4, b5⟩ := ok
    refine ⟨n, rfl, b3, b4, q _ H1 k r hl ?_⟩
    have := walks_rng (K := X.K) (N := less N ρ σ (escs (.cons xa .nil))) (H := H1) 0 n
    rw [Int.sub_zero] at this
    exact this
  | _ => cases ei
theorem pi_rng2D {p : Pos} (hg : Gl X "range") (hm : X.mg "range" = none) (ha : PA X [a, b] (tA F (.cons xa (.cons xb .nil)))) (hs : starEach [a, b] X.env = [(false, eval a X.env), (false, eval b X.env)]) (hs2 : starEach [b] X.env = [(false, eval b X.env)]) : PI X tg (.Call (.Name "range" p) [a, b] [] pos) (tIt X.K F .rng2 (.cons xa (.cons xb .nil))) := by
  refine ⟨fun pins s σ H R I h => ?_⟩
  obtain ⟨M0, sa, N, ρ, g, ds, g', xs, S, e, ei, q⟩ := h
  refine (pi_range2 hg hm ha hs hs2).run pins s σ H R I ⟨M0, sa, N, ρ, g, ds, g', S, e, fun vs H1 k r o => ?_⟩
  obtain ⟨x, y, g2, e1, e2, rfl⟩ := evs_two e
  cases x with
  | int n =>
    cases y with
    | int m =>
      obtain ⟨ok, rfl, hl⟩ := rngO_some (show rngO n m = some xs from ei)
      obtain ⟨_, _, v, v', e3, rfl, ov, ow⟩ := o.two
      obtain rfl := ov.top.int
      obtain rfl := ow.top.int
      obtain ⟨b1, b2, b3, b4, b5⟩ := ok
      exact ⟨n, m, rfl, ⟨b1, b2, b3, b4⟩, q _ H1 k r hl (walks_rng n m)⟩
    | _ => cases ei
  | _ => cases ei

/-! ### enumerate, zip -/
/-- what a walk that makes tuples hands out, by the data -/
theorem walks_pairs {xs : List D} {n : Nat} {Sh : Hp → Prop} {Yv : Nat → List V → Prop} (hn : xs.length = n) (sh : ∀ N' H', Ups N H N' → Keep N' H H' → Sh H')
    (hy : ∀ i x ys, xs[i]? = some x → Yv i ys → ∃ ds, x = .tuple ds ∧ RepL N H ds ys) : Walks K N H true (ItP n Sh Yv) xs := by
  intro N' up
  refine ⟨fun H' k => ⟨hn, sh N' H' up k⟩, fun i x H' e k => ?_⟩
  have hi : i < n := by
    rw [← hn]
    exact (List.getElem?_eq_some_iff.mp e).1
  refine ⟨⟨hi, sh N' H' up k⟩, fun v H2 ⟨T, ys, e1, e2, e3, e4⟩ => ?_⟩
  subst e1 e3
  obtain ⟨ds, rfl, r⟩ := hy i x ys e e4
  exact ⟨fun a o z => by rw [upd_ne (ne_of_none z e2)]; exact z, ds, rfl, T, ys, rfl, .of upd_same, ((r.ups up).keep k).keep (.new e2)⟩
theorem enumL_get {xs : List D} {i : Nat} {z : D} (h : (enumL xs)[i]? = some z) : ∃ x, xs[i]? = some x ∧ z = .tuple [.int (i : Nat), x] := by
  unfold enumL at h
  rw [List.getElem?_map] at h
  obtain ⟨p, e1, e2⟩ := Option.map_eq_some_iff.mp h
  rw [List.getElem?_zipIdx] at e1
  obtain ⟨x, e3, e4⟩ := Option.map_eq_some_iff.mp e1
  subst e4
  refine ⟨x, e3, ?_⟩
  rw [← e2]
  simp
theorem enumL_len (xs : List D) : (enumL xs).length = xs.length := by
  unfold enumL
  rw [List.length_map, List.length_zipIdx]
theorem shOn_of {l : Addr} {vs : List V} {xs : List D} {d : D} (hh : (H l = some (.lst vs) ∧ d = .list xs) ∨ (TupAt H l vs ∧ d = .tuple xs)) (n : ¬ N l) : ∃ b, ∀ N' H', Ups N H N' → Keep N' H H' → ShOn H' l vs b := by
  rcases hh with ⟨h, _⟩ | ⟨h, _⟩
  · exact ⟨true, fun N' H' up k => k.lst (up.not h n) h⟩
  · obtain ⟨ob, hob⟩ := h.obj
    exact ⟨false, fun N' H' up k => h.keep k (up.not hob n)⟩
end
set_option maxHeartbeats 1000000 in
theorem meets_enumB1 {v : Value} {o : Obj} {H : Heap → Prop} (B : Begins v o H) :
    Meets (Builtin.«enumerate.__new__» ⟨[.type "enumerate", v], []⟩) (fun _ R s => H s.heap ∧
      R (.ok (.ret (.ref (s.heap.push o).objs.size))) { s with heap := (s.heap.push o).push { cls := .type "enumerate", data := .fields #[.none, .bool false, .ref s.heap.objs.size, rawInt 0, .none, .none] } }) :=
  .of_wp fun prog w A R s h => by
    obtain ⟨hp, gg, dd, tk, os⟩ := s
    obtain ⟨h1, h⟩ := h
    have hsub := sub_enumerate
    have it1 : ∀ {A' : Around} {E : Value → Shared → Prop} {Q : Value → Shared → Prop}, Q (.ref hp.objs.size) ⟨hp.push o, gg, dd, tk, os⟩ → wpAny (model prog w) A' (pyIter v) Q E ⟨hp, gg, dd, tk, os⟩ :=
      fun z => B.iter prog w _ _ ⟨hp, gg, dd, tk, os⟩ _ h1 z
    wp_walk using it1
    refine wpAny_stack_any fun st => wpAny_pure ?_
    split
    · rename_i c _ _ _ _ _
      cases (c == Value.type "enumerate") <;> (wp_walk using it1; exact ⟨_, rfl, h⟩)
    · wp_walk using it1
      exact ⟨_, rfl, h⟩
theorem enum_begin1 {prog : Program} {w : World} {A : Around} {E : Value → Shared → Prop} {s : Shared} {v : Value} {o : Obj} {H : Heap → Prop} {Q : Value → Shared → Prop} (B : Begins v o H) (h1 : H s.heap)
    (h : ∀ h', IsEnum h' (s.heap.objs.size + 1) s.heap.objs.size 0 .none → h'.get? s.heap.objs.size = some o → (∀ b o, s.heap.get? b = some o → h'.get? b = some o) → Q (.ref (s.heap.objs.size + 1)) { s with heap := h' }) :
    wpAny (model prog w) A (PySem.call (.type "enumerate") [v]) Q E s := by
  refine callType_new F.called_enumerate (by decide) (F.typeCall_enumerate_1 _) (F.newCall_enumerate_1 _) (fun obj => F.args_object_init_2 obj _) F.entry_enumerate_new (meets_enumB1 B) ⟨h1, ?_⟩
  have hz : (s.heap.push o).objs.size = s.heap.objs.size + 1 := Heap.size_push ..
  show _ ∧ _
  rw [hz]
  have he : IsEnum ((s.heap.push o).push { cls := .type "enumerate", data := .fields #[.none, .bool false, .ref s.heap.objs.size, rawInt 0, .none, .none] }) (s.heap.objs.size + 1) s.heap.objs.size 0 .none := by
    have z := Heap.get?_push_size (s.heap.push o) (o := { cls := .type "enumerate", data := .fields #[.none, .bool false, .ref s.heap.objs.size, rawInt 0, .none, .none] }) rfl
    rw [hz] at z
    exact z
  exact ⟨⟨_, he, rfl⟩, h _ he (Heap.get?_push_of_some _ (Heap.get?_push_size _ B.free)) fun b o z => Heap.get?_push_of_some _ (Heap.get?_push_of_some _ z)⟩
section
variable {X : Cx} {F : List Fn} {M0 N : Ms} {sa : Addr × Addr} {H H1 : Hp} {σ τ : L2.St} {ρ : Rho} {g g1 g2 : PState} {tg a b : Expr} {es elts : List Expr} {xa xb : Ex} {xr : Exs} {x y : D} {pos tpos : Pos} {K : PySem.W.Frag} {kk : Nat}
theorem pi_enumD {p : Pos} (hg : Gl X "enumerate") (hm : X.mg "enumerate" = none) (ha : PA X [a] (tA F (.cons xa .nil))) (hs : starEach [a] X.env = [(false, eval a X.env)]) : PI X (.Tuple elts kk tpos) (.Call (.Name "enumerate" p) [a] [] pos) (tIt X.K F .enum (.cons xa .nil)) := by
  refine ⟨fun pins s σ H R I h => ?_⟩
  obtain ⟨M0, sa, N, ρ, g, ds, g', xs, S, e, ei, q⟩ := h
  refine Call_ (ld_blt I hg hm boot_enumerate (PyProof.Rows.callWith_type1 (thn (ha.run pos pins s σ H (fun vs H1 => Keep (isS sa) H H1 ∧ SrcOk H1 sa g' ∧ VoL sa N ρ σ H1 (.cons xa .nil) ds vs) I ⟨M0, sa, N, ρ, g, ds, g', S, e, fun vs H1 k r o => ⟨k, r, o⟩⟩) fun us s1 ⟨vs, H1, I1, r1, k1, q1, o⟩ => ?_) hs rfl))
  obtain ⟨x, e1, rfl⟩ := evs_one e
  obtain ⟨ys, e2, rfl⟩ := Option.map_eq_some_iff.mp ei
  have rl := o.reps
  obtain ⟨_, z, _, rfl, _⟩ := o.one
  obtain ⟨u, rfl, rz⟩ := vals_one r1
  rw [RepL] at rl
  obtain ⟨_, _, ez, rp, _⟩ := rl
  cases ez
  obtain ⟨hz0, l, ws, rfl, n, r, hh⟩ := seq_rep rp e2
  cases rz
  obtain ⟨b, sh⟩ := shOn_of hh n
  obtain ⟨zl, us, rv, so⟩ := shOn_items I1 (sh _ H1 (fun _ z => .inl z) .refl)
  have hlt : l < s1.heap.objs.size := by
    cases b with
    | true =>
      obtain ⟨ob, h1, _⟩ := (show s1.heap.IsList l us.toArray from so)
      exact Heap.lt_size h1
    | false =>
      obtain ⟨ob, h1, _⟩ := (show s1.heap.IsTuple l us.toArray from so)
      exact Heap.lt_size h1
  refine enum_begin1 (begins_on l us b) so fun h' he hit hk => wpAny_pyIter_enum he ?_
  have I2 : Inv X pins σ H1 { s1 with heap := h' } := I1.kept (t' := s1.toks) hk
  refine ⟨s1.heap.objs.size + 1, [s1.heap.objs.size + 1, s1.heap.objs.size], _, _, H1, rfl, I2, turn_enumD (s1.heap.objs.size + 1) s1.heap.objs.size l (Nat.succ_ne_self _) (Nat.ne_of_lt hlt) (Nat.ne_of_gt (Nat.lt_succ_of_lt hlt)) ws b, ⟨⟨.none, he⟩, itOn_new hit⟩, fun c hc => ?_, q _ H1 k1 q1 (by rw [enumL_len]; exact hz0) (walks_pairs (by rw [enumL_len, r.length]) sh ?_)⟩
  · have hle : s1.heap.objs.size ≤ c := by
      rcases List.mem_cons.mp hc with z | z
      · rw [z]; exact Nat.le_add_right _ _
      · rw [List.mem_singleton.mp z]; exact Nat.le_refl _
    exact I1.fpOk hle (I1.hok.fresh hle)
  · rintro i x' ys' e3 ⟨w, e4, rfl⟩
    obtain ⟨x0, e5, rfl⟩ := enumL_get e3
    obtain ⟨w', e6, e7⟩ := r.get e5
    rw [e4] at e6
    cases e6
    exact ⟨_, rfl, .cons (by rw [Rep]) (.cons e7 .nil)⟩
theorem pi_zip2D {p : Pos} (hg : Gl X "zip") (hm : X.mg "zip" = none) (ha : PA X [a, b] (tA F (.cons xa (.cons xb .nil)))) (hs : starEach [a, b] X.env = (false, eval a X.env) :: starEach [b] X.env) (hpl : (backTo pos (starEach [b] X.env)).any (·.1) = false) :
    PI X (.Tuple elts kk tpos) (.Call (.Name "zip" p) [a, b] [] pos) (tIt X.K F .zip2 (.cons xa (.cons xb .nil))) := by
  refine ⟨fun pins s σ H R I h => ?_⟩
  obtain ⟨M0, sa, N, ρ, g, ds, g', xs, S, e, ei, q⟩ := h
  refine Call_ (ld_blt I hg hm PyProof.Rows.boot_zip (PyProof.Rows.callWith_type1 (thn (ha.run pos pins s σ H (fun vs H1 => Keep (isS sa) H H1 ∧ SrcOk H1 sa g' ∧ VoL sa N ρ σ H1 (.cons xa (.cons xb .nil)) ds vs) I ⟨M0, sa, N, ρ, g, ds, g', S, e, fun vs H1 k r o => ⟨k, r, o⟩⟩) fun us s1 ⟨vs, H1, I1, r1, k1, q1, o⟩ => ?_) hs hpl))
  obtain ⟨x, y, g2, e1, e2, rfl⟩ := evs_two e
  have rl := o.reps
  obtain ⟨_, _, z, z', _, rfl, _⟩ := o.two
  obtain ⟨u, u', rfl, rz, rz'⟩ := vals2 r1
  rw [RepL] at rl
  obtain ⟨_, _, ez, rp, rl⟩ := rl
  cases ez
  rw [RepL] at rl
  obtain ⟨_, _, ez, rp', _⟩ := rl
  cases ez
  have ei' : (match seqO x, seqO y with
    | some xs, some ys => some (List.zipWith (fun a b => PyData.tuple [a, b]) xs ys)
    | _, _ => none) = some xs := ei
  cases s1' : seqO x with
  | none =>
    rw [s1'] at ei'
    cases ei'
  | some p1 =>
    cases s2' : seqO y with
    | none =>
      rw [s1', s2'] at ei'
      cases ei'
    | some p2 =>
      rw [s1', s2'] at ei'
      obtain rfl := Option.some.inj ei'
      obtain ⟨hz1, l1, w1, rfl, n1, rr1, hh1⟩ := seq_rep rp s1'
      obtain ⟨hz2, l2, w2, rfl, n2, r2, hh2⟩ := seq_rep rp' s2'
      cases rz
      cases rz'
      obtain ⟨b1, sh1⟩ := shOn_of hh1 n1
      obtain ⟨b2, sh2⟩ := shOn_of hh2 n2
      obtain ⟨zl, us1, rv1, so1⟩ := shOn_items I1 (sh1 _ H1 (fun _ z => .inl z) .refl)
      obtain ⟨zl2, us2, rv2, so2⟩ := shOn_items I1 (sh2 _ H1 (fun _ z => .inl z) .refl)
      have lt : ∀ {l : Addr} {us : List Value} {b : Bool}, SoOn s1.heap l us b → l < s1.heap.objs.size := fun {l us b} so => by
        cases b with
        | true =>
          obtain ⟨ob, h1, _⟩ := (show s1.heap.IsList l us.toArray from so)
          exact Heap.lt_size h1
        | false =>
          obtain ⟨ob, h1, _⟩ := (show s1.heap.IsTuple l us.toArray from so)
          exact Heap.lt_size h1
      have h1 := lt so1
      have h2 := lt so2
      refine zip_begins2 (begins_on l1 us1 b1) (begins_on l2 us2 b2) so1 so2 fun h' hz hTI hTO hi1 hi2 hsz hk => wpAny_pyIter_zip hz ?_
      have I2 : Inv X pins σ H1 { s1 with heap := h' } := I1.kept (t' := s1.toks) hk
      have sep := zip_sep2 (N := s1.heap.objs.size) (fp1 := [l1]) (fp2 := [l2]) (fun c hc => by rw [List.mem_singleton.mp hc]; exact h1) (fun c hc => by rw [List.mem_singleton.mp hc]; exact h2)
      refine ⟨s1.heap.objs.size + 4, [s1.heap.objs.size + 4, s1.heap.objs.size + 2, s1.heap.objs.size + 3, s1.heap.objs.size, s1.heap.objs.size + 1], _, _, H1, rfl, I2, turn_zipD sep (Nat.ne_of_lt h1) (Nat.ne_of_lt (Nat.lt_succ_of_lt h2)) w1 w2 b1 b2, ⟨hz, hTI, ⟨_, _, hTO⟩, itOn_new hi1, itOn_new hi2⟩, fun c hc => ?_, q _ H1 k1 q1 (by rw [List.length_zipWith]; omega) (walks_pairs ?_ (fun N' H' up k => ⟨sh1 N' H' up k, sh2 N' H' up k⟩) ?_)⟩
      · have hle : s1.heap.objs.size ≤ c := by
          rcases List.mem_cons.mp hc with z | hc
          · rw [z]; exact Nat.le_add_right _ _
          rcases List.mem_cons.mp hc with z | hc
          · rw [z]; exact Nat.le_add_right _ _
          rcases List.mem_cons.mp hc with z | hc
          · rw [z]; exact Nat.le_add_right _ _
          rcases List.mem_cons.mp hc with z | hc
          · rw [z]; exact Nat.le_refl _
          · rw [List.mem_singleton.mp hc]; exact Nat.le_add_right _ _
        exact I1.fpOk hle (I1.hok.fresh hle)
      · rw [List.length_zipWith, rr1.length, r2.length]
      · rintro i x' ys' e3 ⟨w, w', e4, e5, rfl⟩
        rw [List.getElem?_zipWith] at e3
        cases g1' : p1[i]? with
        | none => rw [g1'] at e3; cases e3
        | some c1 =>
          cases g2' : p2[i]? with
          | none => rw [g1', g2'] at e3; cases e3
          | some c2 =>
            rw [g1', g2'] at e3
            obtain rfl := Option.some.inj e3
            obtain ⟨v1, f1, f2⟩ := rr1.get g1'
            obtain ⟨v2, f3, f4⟩ := r2.get g2'
            rw [e4] at f1
            rw [e5] at f3
            cases f1
            cases f3
            exact ⟨_, rfl, .cons f2 (.cons f4 .nil)⟩
end
end DT

/-! Targets. -/
namespace DT
open PySem L2 PyProof.Rows
/-! ### slots frozen, forgotten, stored -/
theorem own_len {ρ : Rho} {σ : L2.St} {i : Nat} {a : Addr} (h : Own ρ σ i a) : i < ρ.length ∧ i < σ.length := by
  obtain ⟨x, h1, _, h3⟩ := h
  exact ⟨(List.getElem?_eq_some_iff.mp h1).1, (List.getElem?_eq_some_iff.mp h3).1⟩
theorem freeze_len : ∀ (is : List Nat) (ρ : Rho), (freeze is ρ).length = ρ.length
  | [], _ => rfl
  | i :: is, ρ => by
    unfold freeze
    rw [List.length_set, freeze_len is ρ]
theorem freeze_get : ∀ (is : List Nat) (ρ : Rho) (j : Nat), (freeze is ρ)[j]? = (if j ∈ is then (ρ[j]?).map frz1 else ρ[j]?)
  | [], _, _ => by simp [freeze]
  | i :: is, ρ, j => by
    have ih := freeze_get is ρ j
    unfold freeze
    by_cases hij : i = j
    · subst hij
      rw [if_pos List.mem_cons_self]
      by_cases hl : i < (freeze is ρ).length
      · rw [List.getElem?_set_self hl, ih]
        have hl' : i < ρ.length := by rw [← freeze_len is ρ]; exact hl
        have e : ρ[i]? = some ρ[i] := List.getElem?_eq_getElem hl'
        rw [e]
        split
        · show some (frz1 (frz1 ρ[i])) = some (frz1 ρ[i])
          congr 1
          cases ρ[i] with
          | none => rfl
          | some s => cases s <;> rfl
        · rfl
      · have hl' : ρ.length ≤ i := by rw [← freeze_len is ρ]; omega
        rw [List.getElem?_eq_none (by rw [List.length_set]; omega), List.getElem?_eq_none hl']
        rfl
    · rw [List.getElem?_set_ne hij, ih]
      by_cases hj : j ∈ is
      · rw [if_pos hj, if_pos (List.mem_cons_of_mem _ hj)]
      · rw [if_neg hj, if_neg (fun z => (List.mem_cons.mp z).elim (fun y => hij y.symm) hj)]
theorem own_freeze {is : List Nat} {ρ : Rho} {σ : L2.St} {i : Nat} {a : Addr} (h : Own (freeze is ρ) σ i a) : Own ρ σ i a ∧ i ∉ is := by
  obtain ⟨x, h1, h2, h3⟩ := h
  rw [freeze_get] at h1
  by_cases hi : i ∈ is
  · rw [if_pos hi] at h1
    cases e : ρ[i]? with
    | none => rw [e] at h1; cases h1
    | some o =>
      rw [e] at h1
      have h1' : frz1 o = some (.d true x) := Option.some.inj h1
      cases o with
      | none => cases h1'
      | some s => cases s <;> cases h1'
  · rw [if_neg hi] at h1
    exact ⟨⟨x, h1, h2, h3⟩, hi⟩
theorem freeze_slot {is : List Nat} {ρ : Rho} {i : Nat} {s : Sl} (h : (freeze is ρ)[i]? = some (some s)) : (i ∉ is ∧ ρ[i]? = some (some s)) ∨ (i ∈ is ∧ ∃ s0, ρ[i]? = some (some s0) ∧ frz1 (some s0) = some s) := by
  rw [freeze_get] at h
  by_cases hi : i ∈ is
  · rw [if_pos hi] at h
    cases e : ρ[i]? with
    | none => rw [e] at h; cases h
    | some o =>
      rw [e] at h
      have h' : frz1 o = some s := Option.some.inj h
      cases o with
      | none => cases h'
      | some s0 => exact .inr ⟨hi, s0, rfl, h'⟩
  · rw [if_neg hi] at h
    exact .inl ⟨hi, h⟩
section
variable {M0 N : Ms} {sa : Addr × Addr} {H H' : Hp} {σ : L2.St} {ρ : Rho} {g g' : PState} {x : D} {v : V}
theorem StOk.freeze (S : StOk M0 sa N H σ ρ g) (is : List Nat) : StOk M0 sa (less N ρ σ is) H σ (freeze is ρ) g := by
  refine ⟨by rw [freeze_len, S.len], fun i s h => ?_, fun i j a o o' => S.inj i j a (own_freeze o).1 (own_freeze o').1, fun a h => S.lessSub h, S.srcIn, fun a h => S.mt a h.1, S.src⟩
  rcases freeze_slot h with ⟨hi, e⟩ | ⟨hi, s0, e, ef⟩
  · obtain ⟨v, e1, e2⟩ := S.slot i s e
    refine ⟨v, e1, ?_⟩
    cases s with
    | src => exact e2
    | d b x =>
      cases b with
      | false => exact Rep.anti e2 fun _ z => z.1
      | true =>
        refine ⟨e2.1.anti fun _ z => z.1, fun m => ?_⟩
        obtain ⟨a, ev, ha, hm⟩ := e2.2 m
        refine ⟨a, ev, ⟨ha, fun ⟨j, hj, o⟩ => ?_⟩, hm⟩
        have : i = j := S.inj i j a ⟨x, e, m, by rw [e1, ev]⟩ o
        exact hi (this ▸ hj)
  · obtain ⟨v, e1, e2⟩ := S.slot i s0 e
    refine ⟨v, e1, ?_⟩
    cases s0 with
    | src =>
      cases ef
      exact e2
    | d b x =>
      cases ef
      cases b with
      | false => exact Rep.anti e2 fun _ z => z.1
      | true => exact e2.1.rep (fun _ z => z.1) fun m a ev z => z.2 ⟨i, hi, x, e, m, by rw [e1, ev]⟩
theorem wipeR_len : ∀ (is : List Nat) (ρ : Rho), (wipeR ρ is).length = ρ.length
  | [], _ => rfl
  | i :: is, ρ => by
    unfold wipeR
    rw [List.length_set, wipeR_len is ρ]
theorem wipeR_get {is : List Nat} {ρ : Rho} {i : Nat} {s : Sl} (h : (wipeR ρ is)[i]? = some (some s)) : i ∉ is ∧ ρ[i]? = some (some s) := by
  induction is with
  | nil => exact ⟨List.not_mem_nil, h⟩
  | cons j is ih =>
    unfold wipeR at h
    by_cases hj : j = i
    · subst hj
      by_cases hl : j < (wipeR ρ is).length
      · rw [List.getElem?_set_self hl] at h
        cases h
      · rw [List.getElem?_eq_none (by rw [List.length_set]; omega)] at h
        cases h
    · rw [List.getElem?_set_ne hj] at h
      obtain ⟨h1, h2⟩ := ih h
      exact ⟨fun z => (List.mem_cons.mp z).elim (fun y => hj y.symm) h1, h2⟩
theorem wipe_get : ∀ {is : List Nat} {σ : L2.St} {i : Nat}, i ∉ is → (wipe σ is)[i]? = σ[i]?
  | [], _, _, _ => rfl
  | j :: is, σ, i, h => by
    unfold wipe
    have hj : j ≠ i := fun z => h (List.mem_cons.mpr (.inl z.symm))
    rw [List.getElem?_set_ne hj, wipe_get (fun z => h (List.mem_cons_of_mem _ z))]
theorem own_wipe {is : List Nat} {i : Nat} {a : Addr} (h : Own (wipeR ρ is) (wipe σ is) i a) : Own ρ σ i a := by
  obtain ⟨x, h1, h2, h3⟩ := h
  obtain ⟨n, h4⟩ := wipeR_get h1
  rw [wipe_get n] at h3
  exact ⟨x, h4, h2, h3⟩
theorem StOk.wipe (S : StOk M0 sa N H σ ρ g) (is : List Nat) : StOk M0 sa N H (L2.wipe σ is) (wipeR ρ is) g := by
  refine ⟨by rw [wipeR_len, wipe_length, S.len], fun i s h => ?_, fun i j a o o' => S.inj i j a (own_wipe o) (own_wipe o'), S.sub, S.srcIn, S.mt, S.src⟩
  obtain ⟨n, e⟩ := wipeR_get h
  obtain ⟨v, e1, e2⟩ := S.slot i s e
  exact ⟨v, by rw [wipe_get n]; exact e1, e2⟩
/-- one more object that is not to be touched -/
theorem StOk.plus {D : Addr} {o : HO} (S : StOk M0 sa N H σ ρ g) (hD : H D = none) : StOk (addM M0 D) sa (addM N D) (upd H D o) σ ρ g := by
  have k : Keep (fun _ => False) H (upd H D o) := fun a u e _ => by
    rw [upd_ne (ne_of_none e hD)]
    exact e
  refine ⟨S.len, fun i s h => ?_, S.inj, fun a h => h.elim (fun z => .inl (S.sub a z)) .inr, fun a h => .inl (S.srcIn a h), fun a h => ?_, ?_⟩
  · obtain ⟨v, e1, e2⟩ := S.slot i s h
    refine ⟨v, e1, ?_⟩
    have tr : ∀ a u, H a = some u → ¬ N a → upd H D o a = some u ∧ ¬ addM N D a := fun a u e n => ⟨k a u e id, fun z => z.elim n (ne_of_none e hD)⟩
    cases s with
    | src => exact e2
    | d b x =>
      cases b with
      | false => exact Rep.tr tr e2
      | true =>
        refine ⟨e2.1.tr tr fun _ a u _ e => k a u e id, fun m => ?_⟩
        obtain ⟨a, ev, ha, hm⟩ := e2.2 m
        exact ⟨a, ev, .inl ha, fun z => z.elim hm fun y => S.mt a ha (by rw [y]; exact hD)⟩
  · rcases h with h | h
    · cases e : H a with
      | none => exact (S.mt a h e).elim
      | some u =>
        rw [k a u e id]
        exact fun z => by cases z
    · rw [h, upd_same]
      exact fun z => by cases z
  · exact S.src.upd hD
theorem set_slot {σ : L2.St} {i j : Nat} {v : Option V} (h : i < σ.length) : (σ.set i v)[j]? = if i = j then some v else σ[j]? := by
  by_cases e : i = j
  · subst e
    rw [List.getElem?_set_self h, if_pos rfl]
  · rw [List.getElem?_set_ne e, if_neg e]
theorem own_set {i j : Nat} {a : Addr} (h : Own (ρ.set i (some (.d false x))) (σ.set i (some v)) j a) : Own ρ σ j a := by
  obtain ⟨y, h1, h2, h3⟩ := h
  by_cases e : i = j
  · subst e
    by_cases hl : i < ρ.length
    · rw [List.getElem?_set_self hl] at h1
      cases h1
    · rw [List.getElem?_eq_none (by rw [List.length_set]; omega)] at h1
      cases h1
  · rw [List.getElem?_set_ne e] at h1 h3
    exact ⟨y, h1, h2, h3⟩
theorem StOk.set (S : StOk M0 sa N H σ ρ g) (i : Nat) (r : Rep N H x v) : StOk M0 sa N H (σ.set i (some v)) (ρ.set i (some (.d false x))) g := by
  refine ⟨by rw [List.length_set, List.length_set, S.len], fun j s h => ?_, fun j k a o o' => S.inj j k a (own_set o) (own_set o'), S.sub, S.srcIn, S.mt, S.src⟩
  by_cases e : i = j
  · subst e
    by_cases hl : i < ρ.length
    · rw [List.getElem?_set_self hl] at h
      cases h
      exact ⟨v, by rw [List.getElem?_set_self (by rw [← S.len]; exact hl)], r⟩
    · rw [List.getElem?_eq_none (by rw [List.length_set]; omega)] at h
      cases h
  · rw [List.getElem?_set_ne e] at h ⊢
    exact S.slot j s h
end
/-! ### targets -/
def SameBut (σ σ' : L2.St) (is : List Nat) : Prop := σ'.length = σ.length ∧ ∀ i, i ∉ is → σ'[i]? = σ[i]?
theorem SameBut.trans {σ σ1 σ2 : L2.St} {is js : List Nat} (a : SameBut σ σ1 is) (b : SameBut σ1 σ2 js) : SameBut σ σ2 (is ++ js) :=
  ⟨b.1.trans a.1, fun i h => (b.2 i fun z => h (List.mem_append_right _ z)).trans (a.2 i fun z => h (List.mem_append_left _ z))⟩
theorem wipe_at : ∀ {is : List Nat} {σ : L2.St} {i : Nat}, i ∈ is → (wipe σ is)[i]? = (σ[i]?).map fun _ => none
  | [], _, _, h => by cases h
  | j :: is, σ, i, h => by
    unfold wipe
    by_cases e : j = i
    · subst e
      by_cases hl : j < σ.length
      · rw [List.getElem?_set_self (by rw [wipe_length]; exact hl), List.getElem?_eq_getElem hl]
        rfl
      · rw [List.getElem?_eq_none (by rw [List.length_set, wipe_length]; omega), List.getElem?_eq_none (by omega)]
        rfl
    · rw [List.getElem?_set_ne e]
      exact wipe_at ((List.mem_cons.mp h).resolve_left fun z => e z.symm)
theorem wipe_same {σ σ' : L2.St} {is : List Nat} (h : SameBut (wipe σ is) σ' is) : wipe σ' is = wipe σ is := by
  apply List.ext_getElem?
  intro i
  have hl : σ'.length = σ.length := h.1.trans (wipe_length σ is)
  by_cases hi : i ∈ is
  · rw [wipe_at hi, wipe_at hi]
    by_cases hil : i < σ.length
    · rw [List.getElem?_eq_getElem hil, List.getElem?_eq_getElem (by omega)]
      rfl
    · rw [List.getElem?_eq_none (by omega), List.getElem?_eq_none (by omega)]
  · rw [wipe_get hi, h.2 i hi]
def isT : Tg → Bool
  | .t _ => true
  | _ => false
def gD (K : PySem.W.Frag) (tg : Tg) : TG := fun v σ H Q => ∃ (M0 : Ms) (sa : Addr × Addr) (N : Ms) (ρ : Rho) (g : PState) (x : D) (pr : Bool) (ρ' : Rho), StOk M0 sa N H σ ρ g ∧ Itm K pr N H x v ∧ (pr = true → isT tg = true) ∧ bindT tg x ρ = some ρ' ∧
  ∀ σ', StOk M0 sa N H σ' ρ' g → SameBut σ σ' (slotsT tg) → (∀ i a, Own ρ' σ' i a → Own ρ σ i a) → Q σ' H
def gDs (K : PySem.W.Frag) (ts : List Tg) : TGs := fun vs σ H Q => ∃ (M0 : Ms) (sa : Addr × Addr) (N : Ms) (ρ : Rho) (g : PState) (ds : List D) (ρ' : Rho), StOk M0 sa N H σ ρ g ∧ RepL N H ds vs ∧ bindTs ts ds ρ = some ρ' ∧
  ∀ σ', StOk M0 sa N H σ' ρ' g → SameBut σ σ' (slotsTs ts) → (∀ i a, Own ρ' σ' i a → Own ρ σ i a) → Q σ' H
section
variable {X : Cx} {pos : Pos} {K : PySem.W.Frag}
theorem pg_nameD {i : Nat} {nm : Str} (hN : X.N.Nodup) (hi : X.N[i]? = some nm) (hx : Loc X.env.scope nm) (hf : X.fn nm = true ∨ X.env.scope.names.lookup nm = some .local) : PG X (.Name nm pos) (gD K (.n i)) := by
  refine ⟨fun pins s σ H v u Q I r h => ?_⟩
  obtain ⟨M0, sa, N, ρ, g, x, pr, ρ', S, im, hp, e, q⟩ := h
  refine (pg_name hN hi hx hf).run pins s σ H v u Q I r ?_
  rw [bindT] at e
  obtain rfl := Option.some.inj e
  cases pr with
  | true => cases hp rfl
  | false =>
    have rp : Rep N H x v := im
    exact q _ (S.set i rp) ⟨List.length_set, fun j hj => List.getElem?_set_ne fun z => hj (by rw [slotsT]; exact List.mem_singleton.mpr z.symm)⟩ fun j a o => own_set o
theorem pgs_nilD : PGs X [] (gDs K []) := by
  refine ⟨fun pins s σ H vs us Q I r h => ?_⟩
  obtain ⟨M0, sa, N, ρ, g, ds, ρ', S, rl, e, q⟩ := h
  refine pgs_nil.run pins s σ H vs us Q I r ?_
  cases ds with
  | nil =>
    rw [bindTs] at e
    obtain rfl := Option.some.inj e
    rw [RepL] at rl
    exact ⟨rl, q σ S ⟨rfl, fun _ _ => rfl⟩ fun _ _ o => o⟩
  | cons d ds => simp [bindTs] at e
theorem pgs_consD {t : Tg} {ts : List Tg} {e : Expr} {es : List Expr} (h1 : PG X e (gD K t)) (h2 : PGs X es (gDs K ts)) (hs : (assignEach (e :: es) X.env).map (·.2) = assign e X.env :: (assignEach es X.env).map (·.2)) : PGs X (e :: es) (gDs K (t :: ts)) := by
  refine ⟨fun pins s σ H vs us Q I r h => ?_⟩
  obtain ⟨M0, sa, N, ρ, g, ds, ρ', S, rl, e, q⟩ := h
  refine (pgs_cons h1 h2 hs).run pins s σ H vs us Q I r ?_
  cases ds with
  | nil => simp [bindTs] at e
  | cons d ds =>
    rw [bindTs] at e
    cases e1 : bindT t d ρ with
    | none => rw [e1] at e; cases e
    | some ρ1 =>
      rw [e1] at e
      rw [RepL] at rl
      obtain ⟨v, rv, rfl, rd, rr⟩ := rl
      refine ⟨v, rv, rfl, M0, sa, N, ρ, g, d, false, ρ1, S, rd, (fun z => by cases z), e1, fun σ1 S1 sb1 o1 => ⟨M0, sa, N, ρ1, g, ds, ρ', S1, rr, e, fun σ2 S2 sb2 o2 => ?_⟩⟩
      refine q σ2 S2 ?_ fun i a o => o1 i a (o2 i a o)
      rw [slotsTs]
      exact sb1.trans sb2
theorem pg_tupD {ts : List Tg} {es : List Expr} {k : Nat} (hc : X.calm = true) (h : PGs X es (gDs X.K ts)) (hn : (assignEach es X.env).length = ts.length) (hst : (assignEach es X.env).findIdx? (·.1) = none) : PG X (.Tuple es k pos) (gD X.K (.t ts)) := by
  refine ⟨fun pins s σ H v u Q I r hh => ?_⟩
  obtain ⟨M0, sa, N, ρ, g, x, pr, ρ', S, im, hp, e, q⟩ := hh
  have len : ∀ (ts : List Tg) (ds : List D) (ρ ρ' : Rho), bindTs ts ds ρ = some ρ' → ds.length = ts.length := by
    intro ts
    induction ts with
    | nil =>
      intro ds ρ ρ' e
      cases ds with
      | nil => rfl
      | cons d ds => simp [bindTs] at e
    | cons t ts ih =>
      intro ds ρ ρ' e
      cases ds with
      | nil => simp [bindTs] at e
      | cons d ds =>
        rw [bindTs] at e
        cases e1 : bindT t d ρ with
        | none => rw [e1] at e; cases e
        | some ρ1 =>
          rw [e1] at e
          rw [List.length_cons, List.length_cons, ih ds ρ1 ρ' e]
  have wk : (∃ ds, x = .tuple ds ∧ TupW X.K N H ds v) ∨ ∃ ds a vs, x = .list ds ∧ v = .ref a ∧ H a = some (.lst vs) ∧ RepL N H ds vs := by
    cases pr with
    | true => exact .inl im
    | false =>
      have rp : Rep N H x v := im
      cases x with
      | tuple ds =>
        rw [Rep] at rp
        obtain ⟨_, a, vs, e1, _, e2, e3⟩ := rp
        exact .inl ⟨ds, rfl, a, vs, e1, e2.sq, e3⟩
      | list ds =>
        rw [Rep] at rp
        obtain ⟨_, a, vs, e1, _, e2, e3⟩ := rp
        exact .inr ⟨ds, a, vs, rfl, e1, e2, e3⟩
      | _ => simp [bindT] at e
  rcases wk with ⟨ds, rfl, a, vs, rfl, sq, rl⟩ | ⟨ds, a, vs, rfl, rfl, hL, rl⟩
  · rw [bindT] at e
    refine (pg_tup hc h hn hst).run pins s σ H _ u Q I r ⟨a, vs, rfl, sq, ?_, M0, sa, N, ρ, g, ds, ρ', S, rl, e, fun σ' S' sb o => q σ' S' ?_ o⟩
    · rw [rl.length, len ts ds ρ ρ' e]
    · rw [slotsT]
      exact sb
  · rw [bindT] at e
    cases r
    obtain ⟨its, rv, pl, hz⟩ := I.list (SqL.of (K := X.K) hL)
    have hlen : (assignEach es X.env).length = its.toArray.size := by
      rw [hn, ← len ts ds ρ ρ' e, ← rl.length, rv.length, List.size_toArray]
    rw [arm_assign_Tuple]
    refine wpAny_bind (wpAny_standAt ?_)
    unfold unpack
    rw [hlen, hst]
    refine wpAny_bind (wpAny_holding (PySem.W.kun_itemsOf (I.ok.hd hc) pl.isList fun h' hx => ?_))
    have I1 : Inv X pins σ H { s with heap := h' } := I.kept (t' := s.toks) fun b o e => hx b o (Nat.ne_of_lt (Heap.lt_size e)) e
    refine h.run pins _ σ H vs _ Q I1 (by simpa using rv) ⟨M0, sa, N, ρ, g, ds, ρ', S, rl, e, fun σ' S' sb o => q σ' S' ?_ o⟩
    rw [slotsT]
    exact sb
end
end DT

/-! Comprehensions. -/
namespace DT
open PySem L2 PyProof.Rows
def tIf (F : List Fn) (xi : Exs) : TT := fun σ H Q => ∃ (M0 : Ms) (sa : Addr × Addr) (N : Ms) (ρ : Rho) (g : PState) (b : Bool) (g' : PState), StOk M0 sa N H σ ρ g ∧ evI F xi ρ g = some (b, g') ∧ ∀ H', Keep (isS sa) H H' → SrcOk H' sa g' → Q b H'
def compF (F : List Fn) (xe : Ex) (t : Tg) (xi : Exs) (ρ : Rho) : D → M (Option D) := fun d => bnd (ofO (bindT t d ρ)) fun ρ' => bnd (evI F xi ρ') fun b => if b then bnd (ev F xe ρ') fun y => ret (some y) else ret none
section
variable {X : Cx} {F : List Fn} {M0 N : Ms} {sa : Addr × Addr} {H H1 : Hp} {σ τ : L2.St} {ρ : Rho} {g g1 g2 : PState} {tg a b c : Expr} {xa xe : Ex} {xi ss : Exs} {x y : D} {pos : Pos} {t : Tg} {ik : ItK}
theorem pts_nilD : PTs X [] (tIf F .nil) := by
  refine ⟨fun pins s σ H Q I h => ?_⟩
  obtain ⟨M0, sa, N, ρ, g, b, g', S, e, q⟩ := h
  rw [evI] at e
  obtain ⟨rfl, rfl⟩ := ret_some e
  exact pts_nil.run pins s σ H Q I (q H .refl S.src)
theorem pts_oneD (hc : PT X c (tC F xa)) : PTs X [c] (tIf F (.cons xa .nil)) := by
  refine ⟨fun pins s σ H Q I h => ?_⟩
  obtain ⟨M0, sa, N, ρ, g, b, g', S, e, q⟩ := h
  rw [evI] at e
  obtain ⟨x, g1, e1, f1⟩ := bnd_some e
  obtain ⟨d, g2, e2, f2⟩ := bnd_some f1
  clear e f1
  obtain ⟨rfl, rfl⟩ := toB_some e2
  refine (pts_one hc).run pins s σ H Q I ⟨M0, sa, N, ρ, g, d, _, S, e1, fun H' k r => ?_⟩
  cases d with
  | true =>
    rw [if_pos rfl, evI] at f2
    obtain ⟨rfl, rfl⟩ := ret_some f2
    exact q H' k r
  | false =>
    rw [if_neg Bool.false_ne_true] at f2
    obtain ⟨rfl, rfl⟩ := ret_some f2
    exact q H' k r
def oCons : Option D → List D → List D
  | none, r => r
  | some y, r => y :: r
def oSnoc : List D → Option D → List D
  | r, none => r
  | r, some y => r ++ [y]
theorem oCons_snoc (d r : List D) (o : Option D) : d ++ oCons o r = oSnoc d o ++ r := by
  cases o with
  | none => rfl
  | some y => simp [oCons, oSnoc]
theorem compL_cons {f : D → M (Option D)} {x : D} {xs : List D} {g : PState} {ys : List D} {g' : PState} (h : compL f (x :: xs) g = some (ys, g')) : ∃ o g1 rest, f x g = some (o, g1) ∧ compL f xs g1 = some (rest, g') ∧ ys = oCons o rest := by
  unfold compL at h
  obtain ⟨o, g1, e1, h⟩ := bnd_some h
  obtain ⟨rest, g2, e2, h⟩ := bnd_some h
  obtain ⟨rfl, rfl⟩ := ret_some h
  exact ⟨o, g1, rest, e1, e2, by cases o <;> rfl⟩
theorem RepL.snoc {N : Ms} {H : Hp} {ds : List D} {vs : List V} {d : D} {v : V} (r : RepL N H ds vs) (h : Rep N H d v) : RepL N H (ds ++ [d]) (vs ++ [v]) := RepL.append (.cons h .nil) r
theorem tLc_of (hc : (∀ d : Bool, pairK ik = true → isT t = true)) {σ : L2.St} {H : Hp} {Q : VK} (h : tX F (.comp xe t ik ss xi) σ H Q) : tLc (tIt X.K F ik ss) (gD X.K t) (tIf F xi) (tX F xe) (slotsT t) σ H Q := by
  obtain ⟨M0, sa, N, ρ, g, d, g', S, e, q⟩ := h
  rw [ev] at e
  obtain ⟨ds, g1, e1, f1⟩ := bnd_some e
  obtain ⟨xs, g2, e2, f2⟩ := bnd_some f1
  obtain ⟨ys, g3, e3, f3⟩ := bnd_some f2
  clear e f1 f2
  obtain ⟨e4, rfl⟩ := ofO_some e2
  obtain ⟨rfl, rfl⟩ := ret_some f3
  refine ⟨M0, sa, N, ρ, g, ds, _, xs, S, e1, e4, fun J H1 k1 q1 hl wk => fun D hD => ?_⟩
  have S1 := S.ext k1 q1
  have S2 := ((S1.freeze (escs ss)).plus (o := .lst []) hD).wipe (slotsT t)
  have hDs : ¬ isS sa D := fun z => q1.there z hD
  have hDN : ¬ N D := S1.noN hD
  have base : Ups (less N ρ σ (escs ss)) H1 (addM (less N ρ σ (escs ss)) D) := fun a z => z.elim .inl fun y => .inr (y ▸ hD)
  obtain ⟨wstop, wgo⟩ := wk _ base
  have f3 : compL (compF F xe t xi (wipeR (freeze (escs ss) ρ) (slotsT t))) xs g2 = some (ys, g') := e3
  -- what stands at each turn
  refine ⟨fun i m H' => m = xs.length - i ∧ i ≤ xs.length ∧ ∃ gi done acc rest, compL (compF F xe t xi (wipeR (freeze (escs ss) ρ) (slotsT t))) (xs.drop i) gi = some (rest, g') ∧ ys = done ++ rest ∧ done.length ≤ i ∧
    Keep (isS sa) H1 H' ∧ SrcOk H' sa gi ∧ H' D = some (.lst acc) ∧ RepL (addM (less N ρ σ (esi (.comp xe t ik ss xi))) D) H' done acc,
    ⟨xs.length, rfl, Nat.zero_le _, g2, [], [], ys, by rw [List.drop_zero]; exact f3, rfl, Nat.le_refl _, .new hD, q1.upd hD, upd_same, .nil⟩, ?_⟩
  rintro i m H' ⟨rfl, hi, gi, done, acc, rest, c1, c2, c3, c4, c5, c6, c7⟩
  have kN : Keep (addM (less N ρ σ (escs ss)) D) H1 H' := c4.wide fun a z => .inl ⟨S.sS a z, fun ⟨j, _, o⟩ => S.nos j a o z⟩
  by_cases hlt : i < xs.length
  · have hx : xs[i]? = some xs[i] := List.getElem?_eq_getElem hlt
    obtain ⟨go, yl⟩ := wgo i xs[i] H' hx kN
    rw [List.drop_eq_getElem_cons hlt] at c1
    obtain ⟨o, gj, rest', d1, d2, rfl⟩ := compL_cons c1
    unfold compF at d1
    obtain ⟨ρ', g4, d3, h1⟩ := bnd_some d1
    obtain ⟨bb, g5, d4, h2⟩ := bnd_some h1
    clear d1 h1
    obtain ⟨d6, rfl⟩ := ofO_some d3
    refine .inr ⟨go, fun H5 => Keep (isS sa) H1 H5 ∧ SrcOk H5 sa gj ∧ ∃ acc', H5 D = some (.lst acc') ∧ RepL (addM (less N ρ σ (esi (.comp xe t ik ss xi))) D) H5 (oSnoc done o) acc', fun H5 ⟨k5, q5, acc', a5, r5⟩ => ⟨xs.length - (i + 1), by omega, rfl, hlt, gj, (oSnoc done o), acc', rest', d2, ?_, ?_, k5, q5, a5, r5⟩, fun v H2 y2 => ?_⟩
    · rw [c2, oCons_snoc]
    · cases o with
      | none => exact Nat.le_succ_of_le c3
      | some y =>
        show (done ++ [y]).length ≤ i + 1
        rw [List.length_append]
        exact Nat.succ_le_succ c3
    obtain ⟨kk, im⟩ := yl v H2 y2
    have c5' : SrcOk H2 sa g4 := ⟨kk _ _ c5.1, kk _ _ c5.2.1, c5.2.2⟩
    have k12 : Keep (isS sa) H1 H2 := c4.trans fun a u e _ => kk a u e
    -- the state of the block
    have S3 : StOk (addM M0 D) sa (addM (less N ρ σ (escs ss)) D) H2 (L2.wipe σ (slotsT t)) (wipeR (freeze (escs ss) ρ) (slotsT t)) g4 := by
      have kD : Keep (isS sa) (upd H1 D (.lst [])) (upd H2 D (.lst [])) := fun a u e n => by
        by_cases z : a = D
        · subst z
          rw [upd_same] at e ⊢
          exact e
        · rw [upd_ne z] at e ⊢
          exact k12 a u e n
      refine ⟨S2.len, fun j s e => ?_, S2.inj, S2.sub, S2.srcIn, fun a z => ?_, c5'⟩
      · obtain ⟨w, w1, w2⟩ := S2.slot j s e
        refine ⟨w, w1, ?_⟩
        have tr : ∀ a u, upd H1 D (.lst []) a = some u → ¬ addM (less N ρ σ (escs ss)) D a → H2 a = some u ∧ ¬ addM (less N ρ σ (escs ss)) D a := fun a u e n => by
          have z : a ≠ D := fun z => n (.inr z)
          rw [upd_ne z] at e
          exact ⟨k12 a u e fun y => n (.inl ⟨S.sS a y, fun ⟨j, _, o⟩ => S.nos j a o y⟩), n⟩
        cases s with
        | src => exact w2
        | d bq x =>
          cases bq with
          | false => exact Rep.tr tr w2
          | true =>
            refine ⟨w2.1.tr tr fun m a u ev hu => ?_, w2.2⟩
            obtain ⟨a', ev', h1, h2⟩ := w2.2 m
            rw [ev] at ev'
            cases ev'
            have z : a ≠ D := fun z => h2 (.inr z)
            rw [upd_ne z] at hu
            exact k12 a u hu fun y => h2 (.inl (S.srcIn a y))
      · rcases z with z | z
        · by_cases hs : isS sa a
          · exact c5'.there hs
          · cases e : H1 a with
            | none => exact (S1.mt a z.1 e).elim
            | some u =>
              rw [k12 a u e hs]
              exact fun y => by cases y
        · rw [z, kk D _ c6]
          exact fun y => by cases y
    refine ⟨addM M0 D, sa, addM (less N ρ σ (escs ss)) D, _, g4, xs[i], pairK ik, ρ', S3, im, hc true, d6, fun σ' S4 sb own => ⟨wipe_same sb, addM M0 D, sa, addM (less N ρ σ (escs ss)) D, ρ', g4, bb, g5, S4, d4, fun H3 k3 q3 => ?_⟩⟩
    have acc3 : H3 D = some (.lst acc) := k3 D _ (kk D _ c6) hDs
    have r3 : RepL (addM (less N ρ σ (esi (.comp xe t ik ss xi))) D) H3 done acc := (c7.keep (fun a u e _ => kk a u e)).keep (k3.wide fun a z => .inl ⟨S.sS a z, fun ⟨j, _, o⟩ => S.nos j a o z⟩)
    cases bb with
    | false =>
      rw [if_neg Bool.false_ne_true] at h2
      obtain ⟨rfl, rfl⟩ := ret_some h2
      refine iteF ?_
      exact ⟨k12.trans k3, q3, acc, acc3, r3⟩
    | true =>
      rw [if_pos rfl] at h2
      refine iteT ?_
      obtain ⟨y, g6, d5, h3⟩ := bnd_some h2
      clear h2
      obtain ⟨rfl, rfl⟩ := ret_some h3
      refine ⟨addM M0 D, sa, addM (less N ρ σ (escs ss)) D, ρ', g5, y, _, S4.ext k3 q3, d5, fun w H4 r4 => ?_⟩
      have acc4 : H4 D = some (.lst acc) := r4.keep D _ acc3 hDs
      have r4' : RepL (addM (less N ρ σ (esi (.comp xe t ik ss xi))) D) H4 done acc := r3.keep (r4.keep.wide fun a z => .inl ⟨S.sS a z, fun ⟨j, _, o⟩ => S.nos j a o z⟩)
      have ry : Rep (addM (less N ρ σ (esi (.comp xe t ik ss xi))) D) H4 y w := by
        refine r4.vo.rep.anti fun a z => ?_
        have ow : ∀ j, Own ρ' σ' j a → Own ρ σ j a ∧ a ≠ D := fun j o => by
          have o1 := own_wipe (own j a o)
          exact ⟨(own_freeze o1).1, fun z => (S4.own o).2 (.inr z)⟩
        rcases z with z | z
        · refine ⟨.inl ⟨z.1, fun ⟨j, hj, o⟩ => z.2 ⟨j, List.mem_append_left _ hj, o⟩⟩, fun ⟨j, hj, o⟩ => z.2 ⟨j, ?_, (ow j o).1⟩⟩
          exact List.mem_append_right _ hj
        · exact ⟨.inr z, fun ⟨j, hj, o⟩ => (ow j o).2 z⟩
      have hz : acc.length < sizeLine := by
        rw [r4'.length, ← lineEq]
        omega
      have kU : Keep (addM (less N ρ σ (esi (.comp xe t ik ss xi))) D) H4 (upd H4 D (.lst (acc ++ [w]))) := .mut (.inr rfl)
      refine ⟨acc, acc4, hz, fun a u e n => ?_, ?_, acc ++ [w], upd_same, (r4'.snoc ry).keep kU⟩
      · have z : a ≠ D := fun z => by
          rw [z, hD] at e
          cases e
        rw [upd_ne z]
        exact r4.keep a u (k3 a u (k12 a u e n) n) n
      · have s1 : sa.1 ≠ D := fun z => hDs (.inl z.symm)
        have s2 : sa.2 ≠ D := fun z => hDs (.inr z.symm)
        exact ⟨by rw [upd_ne s1]; exact r4.src.1, by rw [upd_ne s2]; exact r4.src.2.1, r4.src.2.2⟩
  · have ei : i = xs.length := by omega
    subst ei
    rw [List.drop_length] at c1
    unfold compL at c1
    obtain ⟨rfl, rfl⟩ := ret_some c1
    rw [List.append_nil] at c2
    subst c2
    have kk := k1.trans c4
    have lenD : ys.length ≤ LINE := by omega
    have hD0 : H D = none := k1.free hD hDs
    have top : Top (addM (less N ρ σ (esi (.comp xe t ik ss xi))) D) H' (.list ys) (.ref D) := ⟨lenD, D, acc, rfl, c6, c7⟩
    exact .inl ⟨wstop H' kN, q _ H' ⟨kk, c5, ⟨top.anti fun a z => .inl z, fun _ a ev n => by cases ev; exact (hDN n).elim, fun _ a ev => by cases ev; exact hDs⟩, fun _ _ => ⟨D, rfl, hD0, top⟩⟩⟩
theorem pe_lcD {elt iter : Expr} {ifs : List Expr} {scope : Scope} {own : List (Str × Nat)} (hcp : ∀ d : Bool, pairK ik = true → isT t = true) (hc : X.calm = true) (hN : X.N.Nodup) (hi : PI X tg iter (tIt X.K F ik ss)) (ok : BlkOk X.N X.env.scope scope own) (hown : own.map (·.2) = slotsT t)
    (hg : ∀ (s : Shared) (H : Hp) (C : Addr) (cl : List (Str × Addr)) (fp : List Addr), PG (X.blk s H scope (compEnvC scope cl C X.env) fp) tg (gD X.K t)) (ht : ∀ (s : Shared) (H : Hp) (C : Addr) (cl : List (Str × Addr)) (fp : List Addr), PTs (X.blk s H scope (compEnvC scope cl C X.env) fp) ifs (tIf F xi))
    (he : ∀ (s : Shared) (H : Hp) (C : Addr) (cl : List (Str × Addr)) (fp : List Addr), PE (X.blk s H scope (compEnvC scope cl C X.env) fp) elt (tX F xe)) (hs : ∀ x, foldedSetIterable iter X.env x = pure x) :
    PE X (.ListComp elt [⟨tg, iter, ifs, 0⟩] scope pos) (tX F (.comp xe t ik ss xi)) :=
  ⟨fun pins s σ H Q I h => (pe_lc hc hN hi ok hg ht he hs).run pins s σ H Q I (by rw [hown]; exact tLc_of hcp h)⟩
end
end DT

/-! Statements. -/
namespace DT
open PySem L2 PyProof.Rows
/-- what a statement may change of what stood ahead of it -/
def Mv (M0 : Ms) (sa : Addr × Addr) (N : Ms) : Ms := fun a => N a ∧ (M0 a → isS sa a)
structure Nxt (M0 : Ms) (sa : Addr × Addr) (N : Ms) (H : Hp) (N' : Ms) (H' : Hp) : Prop where
  keep : Keep (Mv M0 sa N) H H'
  ups : Ups N H N'
def Fin (D : Ends) (M0 : Ms) : Fl → L2.St → Hp → Prop
  | .nx, σ, H => D.nx σ H
  | .ct, σ, H => D.ct σ H
  | .rt d, _, H => ∀ v, Rep M0 H d v → D.rt v H
/-- the end, and for a return its value -/
def Out (D : Ends) (M0 : Ms) (sa : Addr × Addr) (N : Ms) (H : Hp) (f : Fl) (ρ' : Rho) (g' : PState) : Prop := match f with
  | .nx => ∀ σ' H' N', Nxt M0 sa N H N' H' → StOk M0 sa N' H' σ' ρ' g' → D.nx σ' H'
  | .ct => ∀ σ' H' N', Nxt M0 sa N H N' H' → StOk M0 sa N' H' σ' ρ' g' → D.ct σ' H'
  | .rt d => ∀ v H', Keep (Mv M0 sa N) H H' → SrcOk H' sa g' → Rep M0 H' d v → D.rt v H'
def tS (F : List Fn) (x : Sx) : TS := fun D σ H => ∃ (M0 : Ms) (sa : Addr × Addr) (N : Ms) (ρ : Rho) (g : PState) (f : Fl) (ρ' : Rho) (g' : PState), StOk M0 sa N H σ ρ g ∧ ex F x ρ g = some ((f, ρ'), g') ∧ Out D M0 sa N H f ρ' g'
def tSs (F : List Fn) (x : Sxs) : TS := fun D σ H => ∃ (M0 : Ms) (sa : Addr × Addr) (N : Ms) (ρ : Rho) (g : PState) (f : Fl) (ρ' : Rho) (g' : PState), StOk M0 sa N H σ ρ g ∧ exs F x ρ g = some ((f, ρ'), g') ∧ Out D M0 sa N H f ρ' g'
section
variable {X : Cx} {F : List Fn} {M0 N N1 N2 : Ms} {sa : Addr × Addr} {H H1 H2 : Hp} {σ σ' : L2.St} {ρ ρ' : Rho} {g g1 g2 g' : PState} {tg a b c e : Expr} {xa xe : Ex} {x y d : D} {pos : Pos} {D : Ends} {f : Fl}
theorem Nxt.refl : Nxt M0 sa N H N H := ⟨.refl, fun _ z => .inl z⟩
theorem Mv.back (u : Ups N H N1) {a : Addr} {o : HO} (e : H a = some o) (m : Mv M0 sa N1 a) : Mv M0 sa N a := ⟨(u a m.1).elim id fun z => (by rw [e] at z; cases z), m.2⟩
theorem Nxt.keepOn (a : Nxt M0 sa N H N1 H1) (k : Keep (Mv M0 sa N1) H1 H2) : Keep (Mv M0 sa N) H H2 := fun p o e n => k p o (a.keep p o e n) fun m => n (m.back a.ups e)
theorem Nxt.free (a : Nxt M0 sa N H N1 H1) (S : StOk M0 sa N H σ ρ g) {p : Addr} (e : H1 p = none) : N p ∨ H p = none := by
  by_cases n : N p
  · exact .inl n
  · refine .inr ?_
    cases q : H p with
    | none => rfl
    | some o =>
      rw [a.keep p o q fun m => n m.1] at e
      cases e
theorem Nxt.trans (a : Nxt M0 sa N H N1 H1) (S : StOk M0 sa N H σ ρ g) (b : Nxt M0 sa N1 H1 N2 H2) : Nxt M0 sa N H N2 H2 :=
  ⟨a.keepOn b.keep, fun p z => (b.ups p z).elim (a.ups p) (a.free S)⟩
theorem Out.from (a : Nxt M0 sa N H N1 H1) (S : StOk M0 sa N H σ ρ g) (o : Out D M0 sa N H f ρ' g') : Out D M0 sa N1 H1 f ρ' g' := by
  cases f with
  | nx => exact fun σ' H' N' n => o σ' H' N' (a.trans S n)
  | ct => exact fun σ' H' N' n => o σ' H' N' (a.trans S n)
  | rt d => exact fun v H' k => o v H' (a.keepOn k)
theorem StOk.mv (S : StOk M0 sa N H σ ρ g) {a : Addr} (h : isS sa a) : Mv M0 sa N a := ⟨S.sS a h, fun _ => h⟩
/-- behind an expression -/
theorem StOk.nxt (S : StOk M0 sa N H σ ρ g) (k : Keep (isS sa) H H1) (is : List Nat) : Nxt M0 sa N H (less N ρ σ is) H1 := ⟨k.wide fun _ => S.mv, fun _ z => .inl z.1⟩

/-! ### blocks -/
theorem pss_nilD : PSs X [] (tSs F .nil) := by
  refine ⟨fun pins s σ H D I h => ?_⟩
  obtain ⟨M0, sa, N, ρ, g, f, ρ', g', S, e, o⟩ := h
  rw [exs] at e
  obtain ⟨e1, rfl⟩ := ret_some e
  cases e1
  exact pss_nil.run pins s σ H D I (o σ H N .refl S)
theorem seq_of {xs : Sx} {xr : Sxs} (h : tSs F (.cons xs xr) D σ H) : tSeq (tS F xs) (tSs F xr) D σ H := by
  obtain ⟨M0, sa, N, ρ, g, f, ρ', g', S, e, o⟩ := h
  rw [exs] at e
  obtain ⟨⟨f1, ρ1⟩, g1, e1, e2⟩ := bnd_some e
  clear e
  refine ⟨M0, sa, N, ρ, g, f1, ρ1, g1, S, e1, ?_⟩
  cases f1 with
  | nx => exact fun σ' H' N' n S' => ⟨M0, sa, N', ρ1, g1, f, ρ', g', S', e2, o.from n S⟩
  | ct =>
    obtain ⟨e3, rfl⟩ := ret_some e2
    cases e3
    exact o
  | rt d =>
    obtain ⟨e3, rfl⟩ := ret_some e2
    cases e3
    exact o
theorem pss_consD {st : Stmt} {rest : List Stmt} {xs : Sx} {xr : Sxs} (h1 : PS X st (tS F xs)) (h2 : PSs X rest (tSs F xr)) : PSs X (st :: rest) (tSs F (.cons xs xr)) :=
  ⟨fun pins s σ H D I h => (pss_cons h1 h2).run pins s σ H D I (seq_of h)⟩
theorem ps_passD : PS X (.Pass pos) (tS F .pass) := by
  refine ⟨fun pins s σ H D I h => ?_⟩
  obtain ⟨M0, sa, N, ρ, g, f, ρ', g', S, e, o⟩ := h
  rw [ex] at e
  obtain ⟨e1, rfl⟩ := ret_some e
  cases e1
  exact ps_pass.run pins s σ H D I (o σ H N .refl S)
theorem ps_contD : PS X (.Continue pos) (tS F .cont) := by
  refine ⟨fun pins s σ H D I h => ?_⟩
  obtain ⟨M0, sa, N, ρ, g, f, ρ', g', S, e, o⟩ := h
  rw [ex] at e
  obtain ⟨e1, rfl⟩ := ret_some e
  cases e1
  exact ps_continue.run pins s σ H D I (o σ H N .refl S)
theorem ps_neverD {st : Stmt} : PS X st (tS F .never) := by
  refine ⟨fun pins s σ H D I h => ?_⟩
  obtain ⟨M0, sa, N, ρ, g, f, ρ', g', S, e, o⟩ := h
  rw [ex] at e
  cases e
theorem ps_retD (he : PE X e (tX F xe)) : PS X (.Return (some e) pos) (tS F (.ret xe)) := by
  refine ⟨fun pins s σ H D I h => ?_⟩
  obtain ⟨M0, sa, N, ρ, g, f, ρ', g', S, e, o⟩ := h
  rw [ex] at e
  obtain ⟨d, g1, e1, e2⟩ := bnd_some e
  clear e
  obtain ⟨e3, rfl⟩ := ret_some e2
  cases e3
  refine (ps_ret he).run pins s σ H D I ⟨M0, sa, N, ρ, g, d, _, S, e1, fun v H1 r => o v H1 (r.keep.wide fun _ => S.mv) r.src (r.vo.rep.anti fun _ z => S.lessSub z)⟩
theorem ps_ifD {t : Expr} {p q : List Stmt} {xt : Ex} {xp xq : Sxs} (ht : PT X t (tC F xt)) (hp : PSs X p (tSs F xp)) (hq : PSs X q (tSs F xq)) : PS X (.If t p q pos) (tS F (.iff xt xp xq)) := by
  refine ⟨fun pins s σ H D I h => ?_⟩
  obtain ⟨M0, sa, N, ρ, g, f, ρ', g', S, e, o⟩ := h
  rw [ex] at e
  obtain ⟨x, g1, e1, f1⟩ := bnd_some e
  obtain ⟨b, g2, e2, f2⟩ := bnd_some f1
  clear e f1
  obtain ⟨rfl, rfl⟩ := toB_some e2
  refine (ps_if ht hp hq).run pins s σ H D I ⟨M0, sa, N, ρ, g, b, _, S, e1, fun H1 k r => ?_⟩
  have n : Nxt M0 sa N H N H1 := ⟨k.wide fun _ => S.mv, fun _ z => .inl z⟩
  cases b with
  | true => exact iteT ⟨M0, sa, N, ρ, _, f, ρ', g', S.ext k r, f2, o.from n S⟩
  | false => exact iteF ⟨M0, sa, N, ρ, _, f, ρ', g', S.ext k r, f2, o.from n S⟩

/-! ### stores -/
theorem own_setT {i j : Nat} {p : Addr} {bq : Bool} {v : V} (h : Own (ρ.set i (some (.d bq d))) (σ.set i (some v)) j p) (ne : j ≠ i) : Own ρ σ j p := by
  obtain ⟨y, h1, h2, h3⟩ := h
  rw [List.getElem?_set_ne (Ne.symm ne)] at h1 h3
  exact ⟨y, h1, h2, h3⟩
theorem own_setI {i : Nat} {p : Addr} {bq : Bool} {v : V} (h : Own (ρ.set i (some (.d bq d))) (σ.set i (some v)) i p) : bq = true ∧ isMut d = true ∧ v = .ref p := by
  obtain ⟨hl, hl'⟩ := own_len h
  rw [List.length_set] at hl hl'
  obtain ⟨y, h1, h2, h3⟩ := h
  rw [List.getElem?_set_self hl] at h1
  rw [List.getElem?_set_self hl'] at h3
  cases h1
  cases h3
  exact ⟨rfl, h2, rfl⟩
/-- a slot takes a value: one of the others, or a new one of its own -/
theorem StOk.put (S : StOk M0 sa N H σ ρ g) (i : Nat) {bq : Bool} {v : V} (h : if (bq && isMut d) = true then Top N H d v ∧ ∃ p, v = .ref p ∧ N p ∧ ¬ M0 p ∧ ∀ j, ¬ Own ρ σ j p else Rep N H d v) : StOk M0 sa N H (σ.set i (some v)) (ρ.set i (some (.d bq d))) g := by
  have ok : SlOk M0 sa N H (.d bq d) v := by
    cases bq with
    | false => exact h
    | true =>
      cases m : isMut d with
      | true =>
        rw [if_pos (by rw [m]; rfl)] at h
        obtain ⟨t, p, e, h1, h2, _⟩ := h
        exact ⟨t, fun _ => ⟨p, e, h1, h2⟩⟩
      | false =>
        rw [if_neg (by rw [m]; exact Bool.false_ne_true)] at h
        exact ⟨h.top, fun z => by rw [m] at z; cases z⟩
  have alone : ∀ (j : Nat) (p : Addr), j ≠ i → Own ρ σ j p → ¬ (bq = true ∧ isMut d = true ∧ v = .ref p) := fun j p ne o ⟨z1, z2, z3⟩ => by
    subst z1
    rw [if_pos (by rw [z2]; rfl)] at h
    obtain ⟨_, p', e, _, _, no⟩ := h
    rw [z3] at e
    cases e
    exact no j o
  refine ⟨by rw [List.length_set, List.length_set, S.len], fun j s hs => ?_, fun j k p o o' => ?_, S.sub, S.srcIn, S.mt, S.src⟩
  · by_cases e : i = j
    · subst e
      by_cases hl : i < ρ.length
      · rw [List.getElem?_set_self hl] at hs
        cases hs
        exact ⟨v, by rw [List.getElem?_set_self (by rw [← S.len]; exact hl)], ok⟩
      · rw [List.getElem?_eq_none (by rw [List.length_set]; omega)] at hs
        cases hs
    · rw [List.getElem?_set_ne e] at hs ⊢
      exact S.slot j s hs
  · by_cases ej : j = i
    · by_cases ek : k = i
      · rw [ej, ek]
      · subst ej
        exact (alone k p ek (own_setT o' ek) (own_setI o)).elim
    · by_cases ek : k = i
      · subst ek
        exact (alone j p ej (own_setT o ej) (own_setI o')).elim
      · exact S.inj j k p (own_setT o ej) (own_setT o' ek)
/-- new objects come under N -/
def addL (N : Ms) (l : List Addr) : Ms := fun b => N b ∨ b ∈ l
theorem StOk.grow (S : StOk M0 sa N H σ ρ g) (k : Keep (isS sa) H H1) (q : SrcOk H1 sa g') {l : List Addr} (hl : ∀ p, p ∈ l → H p = none ∧ H1 p ≠ none) : StOk M0 sa (addL N l) H1 σ ρ g' := by
  have tr : ∀ p u, H p = some u → ¬ N p → H1 p = some u ∧ ¬ addL N l p := fun p u e n => ⟨k p u e fun z => n (S.sS p z), fun z => z.elim n fun y => by rw [(hl p y).1] at e; cases e⟩
  refine ⟨S.len, fun i s h => ?_, S.inj, fun p h => .inl (S.sub p h), S.srcIn, fun p h => ?_, q⟩
  · obtain ⟨v, e1, e2⟩ := S.slot i s h
    refine ⟨v, e1, ?_⟩
    cases s with
    | src => exact e2
    | d b x =>
      cases b with
      | false => exact Rep.tr tr e2
      | true =>
        refine ⟨e2.1.tr tr fun m p u ev e => ?_, fun m => ?_⟩
        · obtain ⟨p', ev', _, hm⟩ := e2.2 m
          rw [ev] at ev'
          cases ev'
          exact k p u e fun z => hm (S.srcIn p z)
        · obtain ⟨p, ev, hp, hm⟩ := e2.2 m
          exact ⟨p, ev, .inl hp, hm⟩
  · rcases h with h | h
    · exact (S.ext k q).mt p h
    · exact (hl p h).2
theorem StOk.noOwn (S : StOk M0 sa N H σ ρ g) {p : Addr} (h : H p = none) (i : Nat) : ¬ Own ρ σ i p := fun o => S.mt p (S.own o).1 h
/-- slot i = e: what is left to the code -/
theorem set_of {i : Nat} (h : tS F (.set i xe) D σ H) : tX F xe σ H fun v H1 => D.nx (σ.set i (some v)) H1 := by
  obtain ⟨M0, sa, N, ρ, g, f, ρ', g', S, e, o⟩ := h
  rw [ex] at e
  obtain ⟨d, g1, e1, e2⟩ := bnd_some e
  clear e
  obtain ⟨e3, rfl⟩ := ret_some e2
  cases e3
  refine ⟨M0, sa, N, ρ, g, d, _, S, e1, fun v H1 r => ?_⟩
  cases m : (fresh xe && isMut d) with
  | false =>
    refine o _ H1 _ (S.nxt r.keep (esc xe)) ?_
    refine ((S.ext r.keep r.src).freeze (esc xe)).put i ?_
    rw [if_neg (by rw [m]; exact Bool.false_ne_true)]
    exact r.vo.rep
  | true =>
    obtain ⟨m1, m2⟩ := Bool.and_eq_true_iff.mp m
    obtain ⟨p, rfl, hp, top⟩ := r.fr m1 m2
    have hp1 : H1 p ≠ none := by
      cases d with
      | list ds =>
        obtain ⟨_, q, vs, eq, h, _⟩ := top
        cases eq
        rw [h]
        exact fun z => by cases z
      | dict ds =>
        obtain ⟨_, q, _, vs, eq, h, _⟩ := top
        cases eq
        obtain ⟨o, ho⟩ := h.obj
        rw [ho]
        exact fun z => by cases z
      | _ => cases m2
    have S2 := (S.freeze (esc xe)).grow r.keep r.src (l := [p]) fun q hq => by
      rw [List.mem_singleton.mp hq]
      exact ⟨hp, hp1⟩
    refine o _ H1 (addL (less N ρ σ (esc xe)) [p]) ⟨r.keep.wide fun _ => S.mv, fun q z => z.elim (fun y => .inl y.1) fun y => .inr (by rw [List.mem_singleton.mp y]; exact hp)⟩ (S2.put i ?_)
    rw [if_pos m]
    refine ⟨top.anti fun q z => ?_, p, rfl, .inr (List.mem_singleton.mpr rfl), fun z => S.mt p (S.sub p z) hp, (S.freeze (esc xe)).noOwn hp⟩
    rcases z with z | z
    · exact .inl (less_mono (fun _ hi => List.mem_append_left _ hi) z)
    · exact .inr (List.mem_singleton.mp z)
theorem ps_setD {i : Nat} {nm : Str} {p' : Pos} (hN : X.N.Nodup) (hi : X.N[i]? = some nm) (hx : Loc X.env.scope nm) (he : PE X e (tX F xe)) (hs : swapsWith e (some (.Name nm p')) pos.line X.env = pure false) (hf : X.fn nm = true ∨ X.env.scope.names.lookup nm = some .local) :
    PS X (.Assign [.Name nm p'] e pos) (tS F (.set i xe)) :=
  ⟨fun pins s σ H D I h => (ps_set hN hi hx he hs hf).run pins s σ H D I (set_of h)⟩
theorem ps_unpD {t : Tg} (he : PE X e (tX F xe)) (hg : PG X tg (gD X.K t)) (hs : swapsWithSole [tg] e pos.line X.env = pure false) (hw : swappedStores [tg] e X.env = pure none) (h1 : (assignEach [tg] X.env).map (·.2) = [assign tg X.env]) : PS X (.Assign [tg] e pos) (tS F (.unp t xe)) := by
  refine ⟨fun pins s σ H D I h => (ps_asg he hg hs hw h1).run pins s σ H D I ?_⟩
  obtain ⟨M0, sa, N, ρ, g, f, ρ', g', S, e, o⟩ := h
  rw [ex] at e
  obtain ⟨d, g1, e1, f1⟩ := bnd_some e
  obtain ⟨ρ1, g2, e2, f2⟩ := bnd_some f1
  clear e f1
  obtain ⟨e3, rfl⟩ := ofO_some e2
  obtain ⟨e4, rfl⟩ := ret_some f2
  cases e4
  refine ⟨M0, sa, N, ρ, g, d, _, S, e1, fun v H1 r => ?_⟩
  exact ⟨M0, sa, less N ρ σ (esc xe), freeze (esc xe) ρ, _, d, false, ρ', (S.ext r.keep r.src).freeze (esc xe), r.vo.rep, (fun z => by cases z), e3, fun σ' S' _ _ => o σ' H1 _ (S.nxt r.keep (esc xe)) S'⟩
end
end DT

/-! append, extend, loops. -/
namespace DT
open PySem L2 PyProof.Rows
section
variable {X : Cx} {F : List Fn} {M0 N N1 N2 : Ms} {sa : Addr × Addr} {H H1 H2 : Hp} {σ σ' : L2.St} {ρ ρ' : Rho} {g g1 g2 g' : PState} {tg a b c e : Expr} {xa xe : Ex} {x y d : D} {pos : Pos} {D : Ends} {f : Fl}
/-- the object that slot i owns is rewritten -/
theorem StOk.write {i : Nat} {p : Addr} {u : HO} (S : StOk M0 sa N H σ ρ g) (o : Own ρ σ i p) (m : isMut d = true) (t : Top N (upd H p u) d (.ref p)) : StOk M0 sa N (upd H p u) σ (ρ.set i (some (.d true d))) g := by
  obtain ⟨hp, hm⟩ := S.own o
  have k : Keep N H (upd H p u) := .mut hp
  have own : ∀ {j : Nat} {q : Addr}, Own (ρ.set i (some (.d true d))) σ j q → Own ρ σ j q := fun {j q} h => by
    by_cases e : i = j
    · subst e
      obtain ⟨y, h1, h2, h3⟩ := o
      obtain ⟨y', h1', h2', h3'⟩ := h
      exact ⟨y, h1, h2, h3'⟩
    · obtain ⟨y, h1, h2, h3⟩ := h
      rw [List.getElem?_set_ne e] at h1
      exact ⟨y, h1, h2, h3⟩
  refine ⟨by rw [List.length_set, S.len], fun j s hs => ?_, fun j j' q o1 o2 => S.inj j j' q (own o1) (own o2), S.sub, S.srcIn, fun q hq => ?_, ?_⟩
  · by_cases e : i = j
    · subst e
      have hl := (own_len o).1
      rw [List.getElem?_set_self hl] at hs
      cases hs
      obtain ⟨_, _, _, h3⟩ := o
      exact ⟨.ref p, h3, t, fun _ => ⟨p, rfl, hp, hm⟩⟩
    · rw [List.getElem?_set_ne e] at hs
      obtain ⟨v, e1, e2⟩ := S.slot j s hs
      refine ⟨v, e1, ?_⟩
      cases s with
      | src => exact e2
      | d bq y =>
        cases bq with
        | false => exact Rep.keep e2 k
        | true =>
          refine ⟨e2.1.tr (fun q u e n => ⟨k q u e n, n⟩) fun m q u ev hu => ?_, e2.2⟩
          have ne : q ≠ p := fun z => e (S.inj i j p o ⟨y, hs, m, by rw [e1, ev, z]⟩)
          rw [upd_ne ne]
          exact hu
  · by_cases e : q = p
    · subst e
      rw [upd_same]
      exact fun z => by cases z
    · rw [upd_ne e]
      exact S.mt q hq
  · have s1 : sa.1 ≠ p := fun z => hm (S.srcIn p (.inl z.symm))
    have s2 : sa.2 ≠ p := fun z => hm (S.srcIn p (.inr z.symm))
    exact ⟨by rw [upd_ne s1]; exact S.src.1, by rw [upd_ne s2]; exact S.src.2.1, S.src.2.2⟩
theorem own_frz {is : List Nat} {i : Nat} {p : Addr} (o : Own ρ σ i p) (h : i ∉ is) : Own (freeze is ρ) σ i p := by
  obtain ⟨y, h1, h2, h3⟩ := o
  exact ⟨y, by rw [freeze_get, if_neg h]; exact h1, h2, h3⟩
/-- slot i holds a list of its own, also behind e -/
theorem mine_list {is : List Nat} {i : Nat} {xs : List DT.D} (S : StOk M0 sa N H σ ρ g) (h : (freeze is ρ)[i]? = some (some (.d true (.list xs)))) : ∃ p, i ∉ is ∧ Own ρ σ i p ∧ σ[i]? = some (some (.ref p)) ∧ ∃ vs, H p = some (.lst vs) ∧ RepL N H xs vs := by
  rcases freeze_slot h with ⟨hi, e⟩ | ⟨hi, s0, e, ef⟩
  · obtain ⟨v, e1, t, m⟩ := S.slot i _ e
    obtain ⟨_, p, vs, rfl, h1, r⟩ := t
    exact ⟨p, hi, ⟨_, e, rfl, e1⟩, e1, vs, h1, r⟩
  · cases s0 with
    | src => cases ef
    | d b x => cases ef
theorem tyV_list {K : PySem.W.Frag} {p : Addr} {vs : List V} (h : H p = some (.lst vs)) : tyV K "list" (.ref p) H := .inl ⟨rfl, vs, .of h⟩
/-- both methods that make a list longer -/
theorem mut_nxt {is : List Nat} {p : Addr} {u : HO} (S : StOk M0 sa N H σ ρ g) (k : Keep (isS sa) H H1) (hp : N p) (hm : ¬ M0 p) : Nxt M0 sa N H (less N ρ σ is) (upd H1 p u) :=
  ⟨fun q o e n => by
    have ne : q ≠ p := fun z => n (z ▸ ⟨hp, fun y => (hm y).elim⟩)
    rw [upd_ne ne]
    exact k q o e fun y => n (S.mv y), fun _ z => .inl z.1⟩
theorem app_inv {so : Option (Option Sl)} {k : List DT.D → Fl × Rho} {g : PState} {r : Fl × Rho} {g' : PState}
    (h : (match so with
      | some (some (.d true (.list xs))) => if decide (xs.length < LINE) then ret (k xs) else fail
      | _ => fail) g = some (r, g')) : ∃ xs, so = some (some (.d true (.list xs))) ∧ xs.length < LINE ∧ k xs = r ∧ g' = g := by
  rcases so with _ | _ | _ | ⟨b, z⟩
  · cases h
  · cases h
  · cases h
  · cases b with
    | false => cases h
    | true =>
      cases z with
      | list xs =>
        have h' : (if decide (xs.length < LINE) then ret (k xs) else fail) g = some (r, g') := h
        by_cases c : xs.length < LINE
        · rw [if_pos (decide_eq_true c)] at h'
          obtain ⟨e, e'⟩ := ret_some h'
          exact ⟨xs, rfl, c, e, e'⟩
        · rw [if_neg (by rw [decide_eq_true_eq]; exact c)] at h'
          cases h'
      | _ => cases h
theorem ext_inv {so : Option (Option Sl)} {d : DT.D} {k : List DT.D → List DT.D → Fl × Rho} {g : PState} {r : Fl × Rho} {g' : PState}
    (h : (match d, so with
      | .list ys, some (some (.d true (.list xs))) => if decide (xs.length + ys.length ≤ LINE) then ret (k ys xs) else fail
      | _, _ => fail) g = some (r, g')) : ∃ ys xs, d = .list ys ∧ so = some (some (.d true (.list xs))) ∧ xs.length + ys.length ≤ LINE ∧ k ys xs = r ∧ g' = g := by
  cases d with
  | list ys =>
    rcases so with _ | _ | _ | ⟨b, z⟩
    · cases h
    · cases h
    · cases h
    · cases b with
      | false => cases h
      | true =>
        cases z with
        | list xs =>
          have h' : (if decide (xs.length + ys.length ≤ LINE) then ret (k ys xs) else fail) g = some (r, g') := h
          by_cases c : xs.length + ys.length ≤ LINE
          · rw [if_pos (decide_eq_true c)] at h'
            obtain ⟨e, e'⟩ := ret_some h'
            exact ⟨ys, xs, rfl, rfl, c, e, e'⟩
          · rw [if_neg (by rw [decide_eq_true_eq]; exact c)] at h'
            cases h'
        | _ => cases h
  | _ => cases h
theorem ps_appD {i : Nat} {nm : Str} {p1 apos cpos : Pos} (hN : X.N[i]? = some nm) (hv : Vis X.env.scope nm) (hd : (nm == ("__debug__" : Str)) = false) (hcd : (nm == ("__classdict__" : Str)) = false) (he : PE X e (tX F xe))
    (hbase : attributeBase (.Name nm p1) "append" X.env (eval (.Name nm p1) X.env) = eval (.Name nm p1) X.env)
    (hfew : ((backTo cpos (starEach [e] X.env)).all (fun x => !x.1) && (backToKw cpos (keywordEach [] X.env)).all (fun x => x.1.isSome) && decide ([e].length + ([] : List Keyword).length + (if ([] : List Keyword).isEmpty then 0 else 1) < 30)) = true)
    (hline : (apos.endLine == cpos.line) = true) (hs : starEach [e] X.env = (false, eval e X.env) :: starEach [] X.env) (hplain : (backTo cpos (starEach [] X.env)).any (·.1) = false)
    (hsw : swapsWith (.Call (.Attribute (.Name nm p1) "append" apos) [e] [] cpos) none pos.line X.env = pure false) :
    PS X (.Expr (.Call (.Attribute (.Name nm p1) "append" apos) [e] [] cpos) pos) (tS F (.app i xe)) := by
  refine ⟨fun pins s σ H D I h => (ps_expr (pe_bm PySem.F.plainAttrs_list PySem.F.slot_list_append PySem.F.type_list_append mt_append (pe_var hN hv hd hcd) (pa_cons he pa_nil hs) hbase hfew hline hs hplain) hsw).run pins s σ H D I ?_⟩
  obtain ⟨M0, sa, N, ρ, g, f, ρ', g', S, e, o⟩ := h
  rw [ex] at e
  obtain ⟨d, g1, e1, e2⟩ := bnd_some e
  clear e
  obtain ⟨xs, hslot, hlen, e3, rfl⟩ := app_inv e2
  · · cases e3
      obtain ⟨p, hi, ow, hσ, vs, hp, rl⟩ := mine_list S hslot
      refine ⟨.ref p, hσ, tyV_list hp, M0, sa, N, ρ, g, d, _, S, e1, fun v H1 r => ?_⟩
      have S1 := S.ext r.keep r.src
      obtain ⟨p', _, _, hσ', vs', hp', rl'⟩ := mine_list S1 hslot
      rw [hσ] at hσ'
      cases hσ'
      obtain ⟨hN1, hM⟩ := S.own ow
      have S2 := S1.freeze (esc xe)
      have low : less N ρ σ (esc xe) p := ⟨hN1, fun ⟨j, hj, oj⟩ => hi (S.inj i j p ow oj ▸ hj)⟩
      refine ⟨p, vs', v, rfl, rfl, hp', by rw [rl'.length, ← lineEq]; exact hlen, ?_⟩
      refine o σ _ _ (mut_nxt S r.keep hN1 hM) (S2.write (own_frz ow hi) rfl ⟨by rw [List.length_append]; exact hlen, p, _, rfl, upd_same, ?_⟩)
      exact RepL.keep (RepL.append (.cons r.vo.rep .nil) (rl'.anti fun _ z => z.1)) (.mut low)
theorem ps_extD {i : Nat} {nm : Str} {p1 apos cpos : Pos} (hN : X.N[i]? = some nm) (hv : Vis X.env.scope nm) (hd : (nm == ("__debug__" : Str)) = false) (hcd : (nm == ("__classdict__" : Str)) = false) (he : PE X e (tX F xe))
    (hbase : attributeBase (.Name nm p1) "extend" X.env (eval (.Name nm p1) X.env) = eval (.Name nm p1) X.env)
    (hfew : ((backTo cpos (starEach [e] X.env)).all (fun x => !x.1) && (backToKw cpos (keywordEach [] X.env)).all (fun x => x.1.isSome) && decide ([e].length + ([] : List Keyword).length + (if ([] : List Keyword).isEmpty then 0 else 1) < 30)) = true)
    (hline : (apos.endLine == cpos.line) = true) (hs : starEach [e] X.env = (false, eval e X.env) :: starEach [] X.env) (hplain : (backTo cpos (starEach [] X.env)).any (·.1) = false)
    (hsw : swapsWith (.Call (.Attribute (.Name nm p1) "extend" apos) [e] [] cpos) none pos.line X.env = pure false) :
    PS X (.Expr (.Call (.Attribute (.Name nm p1) "extend" apos) [e] [] cpos) pos) (tS F (.ext i xe)) := by
  refine ⟨fun pins s σ H D I h => (ps_expr (pe_bm PySem.F.plainAttrs_list PySem.F.slot_list_extend PySem.F.type_list_extend mt_extend (pe_var hN hv hd hcd) (pa_cons he pa_nil hs) hbase hfew hline hs hplain) hsw).run pins s σ H D I ?_⟩
  obtain ⟨M0, sa, N, ρ, g, f, ρ', g', S, e, o⟩ := h
  rw [ex] at e
  obtain ⟨d, g1, e1, e2⟩ := bnd_some e
  clear e
  obtain ⟨ys, xs, rfl, hslot, hlen, e3, rfl⟩ := ext_inv e2
  · · cases e3
      obtain ⟨p, hi, ow, hσ, vs, hp, rl⟩ := mine_list S hslot
      refine ⟨.ref p, hσ, tyV_list hp, M0, sa, N, ρ, g, .list ys, _, S, e1, fun v H1 r => ?_⟩
      have S1 := S.ext r.keep r.src
      obtain ⟨p', _, _, hσ', vs', hp', rl'⟩ := mine_list S1 hslot
      rw [hσ] at hσ'
      cases hσ'
      obtain ⟨hN1, hM⟩ := S.own ow
      have S2 := S1.freeze (esc xe)
      have low : less N ρ σ (esc xe) p := ⟨hN1, fun ⟨j, hj, oj⟩ => hi (S.inj i j p ow oj ▸ hj)⟩
      have rv := r.vo.rep
      rw [Rep] at rv
      obtain ⟨_, q, ws, rfl, _, hq, rw'⟩ := rv
      refine ⟨p, q, vs', ws, rfl, rfl, hp', hq, by rw [rl'.length, rw'.length, ← lineEq]; exact hlen, ?_⟩
      refine o σ _ _ (mut_nxt S r.keep hN1 hM) (S2.write (own_frz ow hi) rfl ⟨by rw [List.length_append]; exact hlen, p, _, rfl, upd_same, ?_⟩)
      exact RepL.keep (RepL.append rw' (rl'.anti fun _ z => z.1)) (.mut low)

/-! ### loops -/
theorem for_of {t : Tg} {ik : ItK} {ss : Exs} {body : Sxs} (hcp : pairK ik = true → isT t = true) (h : tS F (.for t ik ss body) D σ H) : tFor (tIt X.K F ik ss) (gD X.K t) (tSs F body) D σ H := by
  obtain ⟨M0, sa, N, ρ, g, f, ρ', g', S, e, o⟩ := h
  rw [ex] at e
  obtain ⟨ds, g1, e1, f1⟩ := bnd_some e
  obtain ⟨xs, g2, e2, f2⟩ := bnd_some f1
  clear e f1
  obtain ⟨e3, rfl⟩ := ofO_some e2
  refine ⟨M0, sa, N, ρ, g, ds, _, xs, S, e1, e3, fun J H1 k1 q1 hl wk => ?_⟩
  have S1 := (S.ext k1 q1).freeze (escs ss)
  have n0 : Nxt M0 sa N H (less N ρ σ (escs ss)) H1 := S.nxt k1 (escs ss)
  have o1 := o.from n0 S
  refine ⟨fun i m σ' H' => m = xs.length - i ∧ i ≤ xs.length ∧ ∃ Ni ρi gi, forL (fun ρ x => bnd (ofO (bindT t x ρ)) fun ρ' => exs F body ρ') (xs.drop i) ρi gi = some ((f, ρ'), g') ∧ StOk M0 sa Ni H' σ' ρi gi ∧ Nxt M0 sa (less N ρ σ (escs ss)) H1 Ni H',
    ⟨xs.length, rfl, Nat.zero_le _, _, _, _, by rw [List.drop_zero]; exact f2, S1, .refl⟩, ?_⟩
  rintro i m σ' H' ⟨rfl, hi, Ni, ρi, gi, c1, Si, ni⟩
  have up : Ups (less N ρ σ (escs ss)) H1 (fun a => less N ρ σ (escs ss) a ∨ Ni a) := fun a z => z.elim .inl (ni.ups a)
  have kp : Keep (fun a => less N ρ σ (escs ss) a ∨ Ni a) H1 H' := fun a u e n => ni.keep a u e fun m => n (.inl m.1)
  obtain ⟨wstop, wgo⟩ := wk _ up
  by_cases hlt : i < xs.length
  · obtain ⟨go, yl⟩ := wgo i xs[i] H' (List.getElem?_eq_getElem hlt) kp
    rw [List.drop_eq_getElem_cons hlt] at c1
    unfold forL at c1
    obtain ⟨⟨fl, ρ3⟩, g3, d1, d2⟩ := bnd_some c1
    obtain ⟨ρ2, g4, d3, d4⟩ := bnd_some d1
    clear c1 d1
    obtain ⟨d5, rfl⟩ := ofO_some d3
    refine .inr ⟨go, fun σ5 H5 => ∃ N5 ρ5 g5, forL (fun ρ x => bnd (ofO (bindT t x ρ)) fun ρ' => exs F body ρ') (xs.drop (i + 1)) ρ5 g5 = some ((f, ρ'), g') ∧ StOk M0 sa N5 H5 σ5 ρ5 g5 ∧ Nxt M0 sa (less N ρ σ (escs ss)) H1 N5 H5,
      fun σ5 H5 ⟨N5, ρ5, g5, h1, h2, h3⟩ => ⟨xs.length - (i + 1), by omega, rfl, hlt, N5, ρ5, g5, h1, h2, h3⟩, fun v H2 y => ?_⟩
    obtain ⟨kk, im⟩ := yl v H2 y
    have S2 : StOk M0 sa Ni H2 σ' ρi g4 := Si.ext (fun a u e _ => kk a u e) ⟨kk _ _ Si.src.1, kk _ _ Si.src.2.1, Si.src.2.2⟩
    have n2 : Nxt M0 sa (less N ρ σ (escs ss)) H1 Ni H2 := ni.trans S1 ⟨fun a u e _ => kk a u e, fun _ z => .inl z⟩
    have im' : Itm X.K (pairK ik) Ni H2 xs[i] v := by
      cases hp : pairK ik with
      | true =>
        rw [hp] at im
        obtain ⟨ds', ex', a', vs', ev', sq', rl'⟩ := im
        exact ⟨ds', ex', a', vs', ev', sq', rl'.anti fun a z => .inr z⟩
      | false =>
        rw [hp] at im
        exact Rep.anti im fun a z => .inr z
    refine ⟨M0, sa, Ni, ρi, g4, xs[i], pairK ik, ρ2, S2, im', hcp, d5, fun σ3 S3 _ _ => ⟨M0, sa, Ni, ρ2, g4, fl, ρ3, g3, S3, d4, ?_⟩⟩
    cases fl with
    | nx => exact fun σ5 H5 N5 n5 S5 => ⟨N5, ρ3, g3, d2, S5, n2.trans S1 n5⟩
    | ct => exact fun σ5 H5 N5 n5 S5 => ⟨N5, ρ3, g3, d2, S5, n2.trans S1 n5⟩
    | rt dd =>
      obtain ⟨d6, rfl⟩ := ret_some d2
      cases d6
      exact o1.from n2 S1
  · have ei : i = xs.length := by omega
    subst ei
    rw [List.drop_length] at c1
    unfold forL at c1
    obtain ⟨c2, rfl⟩ := ret_some c1
    cases c2
    exact .inl ⟨wstop H' kp, o1 σ' H' Ni ni Si⟩
theorem ps_forD {iter : Expr} {body : List Stmt} {t : Tg} {ik : ItK} {ss : Exs} {xb : Sxs} (hcp : pairK ik = true → isT t = true) (hp : PassesOwn (model X.prog X.w) X.A X.env X.xe) (hc : X.calm = true) (hi : PI X tg iter (tIt X.K F ik ss)) (hg : PG X tg (gD X.K t)) (hb : PSs X body (tSs F xb))
    (hs : ∀ x, foldedSetIterable iter X.env x = pure x) : PS X (.For tg iter body [] pos) (tS F (.for t ik ss xb)) :=
  ⟨fun pins s σ H D I h => (ps_for hp hc hi hg hb hs).run pins s σ H D I (for_of hcp h)⟩
theorem while_of {xt : Ex} {body : Sxs} (h : tS F (.whl xt body) D σ H) : tWhile (tC F xt) (tSs F body) D σ H := by
  obtain ⟨M0, sa, N, ρ, g, f, ρ', g', S, e, o⟩ := h
  rw [ex] at e
  generalize FU = n at e
  refine ⟨fun m σ' H' => ∃ Ni ρi gi, whlN (fun ρ => bnd (ev F xt ρ) toB) (fun ρ => exs F body ρ) m ρi gi = some ((f, ρ'), g') ∧ StOk M0 sa Ni H' σ' ρi gi ∧ Nxt M0 sa N H Ni H', ⟨n, N, ρ, g, e, S, .refl⟩, ?_⟩
  rintro m σ' H' ⟨Ni, ρi, gi, c1, Si, ni⟩
  cases m with
  | zero =>
    unfold whlN at c1
    cases c1
  | succ m =>
    unfold whlN at c1
    obtain ⟨b, g1, d1, d2⟩ := bnd_some c1
    clear c1
    refine ⟨M0, sa, Ni, ρi, gi, b, g1, Si, bool_some d1, fun H1 k q => ?_⟩
    have S1 := Si.ext k q
    have n1 : Nxt M0 sa N H Ni H1 := ni.trans S ⟨k.wide fun _ => Si.mv, fun _ z => .inl z⟩
    cases b with
    | false =>
      rw [if_neg Bool.false_ne_true] at d2
      obtain ⟨d3, rfl⟩ := ret_some d2
      cases d3
      exact iteF (o σ' H1 Ni n1 S1)
    | true =>
      rw [if_pos rfl] at d2
      obtain ⟨⟨fl, ρ3⟩, g3, d3, d4⟩ := bnd_some d2
      clear d2
      refine iteT ⟨fun σ5 H5 => ∃ N5 ρ5 g5, whlN (fun ρ => bnd (ev F xt ρ) toB) (fun ρ => exs F body ρ) m ρ5 g5 = some ((f, ρ'), g') ∧ StOk M0 sa N5 H5 σ5 ρ5 g5 ∧ Nxt M0 sa N H N5 H5,
        fun σ5 H5 ⟨N5, ρ5, g5, h1, h2, h3⟩ => ⟨m, Nat.lt_succ_self m, N5, ρ5, g5, h1, h2, h3⟩, M0, sa, Ni, ρi, g1, fl, ρ3, g3, S1, d3, ?_⟩
      cases fl with
      | nx => exact fun σ5 H5 N5 n5 S5 => ⟨N5, ρ3, g3, d4, S5, n1.trans S n5⟩
      | ct => exact fun σ5 H5 N5 n5 S5 => ⟨N5, ρ3, g3, d4, S5, n1.trans S n5⟩
      | rt dd =>
        obtain ⟨d6, rfl⟩ := ret_some d4
        cases d6
        exact o.from n1 S
theorem ps_whileD {t : Expr} {body : List Stmt} {xt : Ex} {xb : Sxs} (hp : PassesOwn (model X.prog X.w) X.A X.env X.xe) (ht : PT X t (tC F xt)) (hb : PSs X body (tSs F xb)) : PS X (.While t body [] pos) (tS F (.whl xt xb)) :=
  ⟨fun pins s σ H D I h => (ps_while hp ht hb).run pins s σ H D I (while_of h)⟩
end
end DT

/-! d[k] = v, d the slot's own. -/
namespace DT
open PySem L2 PyProof.Rows
section
variable {X : Cx} {F : List Fn} {M0 N N1 N2 : Ms} {sa : Addr × Addr} {H H1 H2 : Hp} {σ σ' : L2.St} {ρ ρ' : Rho} {g g1 g2 g' : PState} {tg a b c e : Expr} {xa xe : Ex} {x y d : D} {pos : Pos} {D : Ends} {f : Fl}
theorem mine_dict {is : List Nat} {i : Nat} {kvs : List (DT.D × DT.D)} (S : StOk M0 sa N H σ ρ g) (h : (freeze is ρ)[i]? = some (some (.d true (.dict kvs)))) : ∃ p, i ∉ is ∧ Own ρ σ i p ∧ σ[i]? = some (some (.ref p)) ∧ kvs.length ≤ LINE ∧ ∃ ks vs, DAt H p (toKeys (kvs.map (·.1))) ks vs ∧ RepK N H kvs ks vs := by
  rcases freeze_slot h with ⟨hi, e⟩ | ⟨hi, s0, e, ef⟩
  · obtain ⟨v, e1, t, m⟩ := S.slot i _ e
    obtain ⟨hl, p, ks, vs, rfl, h1, r⟩ := t
    exact ⟨p, hi, ⟨_, e, rfl, e1⟩, e1, hl, ks, vs, h1, r⟩
  · cases s0 with
    | src => cases ef
    | d b x => cases ef
theorem six_inv {so : Option (Option Sl)} {y : DT.D} {k : List (DT.D × DT.D) → Fl × Rho} {g : PState} {r : Fl × Rho} {g' : PState}
    (h : (match so with
      | some (some (.d true (.dict kvs))) => if sixOk kvs y then ret (k kvs) else fail
      | _ => fail) g = some (r, g')) : ∃ kvs, so = some (some (.d true (.dict kvs))) ∧ sixOk kvs y = true ∧ k kvs = r ∧ g' = g := by
  split at h
  · rename_i kvs
    by_cases c : sixOk kvs y = true
    · rw [if_pos c] at h
      obtain ⟨e1, e2⟩ := ret_some h
      exact ⟨kvs, rfl, c, e1, e2.symm ▸ rfl⟩
    · rw [if_neg c] at h
      cases h
  · cases h
theorem dPut_len (kvs : List (DT.D × DT.D)) (k v : DT.D) : (dPut kvs k v).length ≤ kvs.length + 1 := by
  unfold dPut
  split
  · rw [List.length_map]
    omega
  · rw [List.length_append]
    simp
theorem own_top (S : StOk M0 sa N H σ ρ g) {i : Nat} {a : Addr} (o : Own ρ σ i a) : (∃ vs, H a = some (.lst vs)) ∨ ∃ nk ks vs, DAt H a nk ks vs := by
  obtain ⟨x, e1, m, e2⟩ := o
  obtain ⟨v, e3, t, _⟩ := S.slot i _ e1
  rw [e2] at e3
  obtain rfl := Option.some.inj (Option.some.inj e3)
  cases x with
  | list ds =>
    obtain ⟨_, b, vs, eb, h, _⟩ := t
    cases eb
    exact .inl ⟨vs, h⟩
  | dict ds =>
    obtain ⟨_, b, ks, vs, eb, h, _⟩ := t
    cases eb
    exact .inr ⟨_, ks, vs, h⟩
  | _ => cases m
theorem tup_not {H : Hp} {a : Addr} {vs : List V} (t : TupAt H a vs) : (¬ ∃ vs, H a = some (.lst vs)) ∧ ¬ ∃ nk ks vs, DAt H a nk ks vs := by
  obtain ⟨o, e, _⟩ := t
  have z : tupO o vs = .frz o (.tup vs) := if_pos rfl
  rw [z] at e
  refine ⟨fun ⟨ws, h⟩ => ?_, fun ⟨nk, ks, ws, h⟩ => ?_⟩
  · rw [e] at h
    cases h
  · rcases h with ⟨l, h, _⟩ | ⟨l, h, _⟩
    · rw [e] at h
      cases h
    · rw [e] at h
      cases h
mutual
theorem rep_imm {is : List Nat} (S : StOk M0 sa N H σ ρ g) : ∀ (d : DT.D) (v : V), noMut d = true → Rep (less N ρ σ is) H d v → Rep N H d v
  | .none, _, _, h => by
    rw [Rep] at h ⊢
    exact h
  | .bool _, _, _, h => by
    rw [Rep] at h ⊢
    exact h
  | .int _, _, _, h => by
    rw [Rep] at h ⊢
    exact h
  | .str _, _, _, h => by
    rw [Rep] at h ⊢
    exact h
  | .list _, _, c, _ => by cases c
  | .dict _, _, c, _ => by cases c
  | .tuple ds, _, c, h => by
    rw [Rep] at h ⊢
    obtain ⟨z, a, vs, e, n, t, r⟩ := h
    refine ⟨z, a, vs, e, fun hN => ?_, t, reps_imm S ds vs (by simpa only [noMut] using c) r⟩
    have : ∃ i, i ∈ is ∧ Own ρ σ i a := Classical.byContradiction fun q => n ⟨hN, q⟩
    obtain ⟨i, _, o⟩ := this
    rcases own_top S o with q | q
    · exact (tup_not t).1 q
    · exact (tup_not t).2 q
theorem reps_imm {is : List Nat} (S : StOk M0 sa N H σ ρ g) : ∀ (ds : List DT.D) (vs : List V), noMuts ds = true → RepL (less N ρ σ is) H ds vs → RepL N H ds vs
  | [], _, _, h => by
    rw [RepL] at h ⊢
    exact h
  | d :: ds, _, c, h => by
    rw [RepL] at h ⊢
    obtain ⟨v, r, e, h1, h2⟩ := h
    have c' : noMut d = true ∧ noMuts ds = true := by simpa only [noMuts, Bool.and_eq_true] using c
    exact ⟨v, r, e, rep_imm S d v c'.1 h1, reps_imm S ds r c'.2 h2⟩
end
mutual
theorem noMut_key : ∀ d : DT.D, keyOk d = true → noMut d = true
  | .int _, _ => rfl
  | .tuple ds, h => by
    rw [noMut]
    exact noMuts_key ds (by simpa only [keyOk] using h)
  | .none, h => by cases h
  | .bool _, h => by cases h
  | .str _, h => by cases h
  | .list _, h => by cases h
  | .dict _, h => by cases h
theorem noMuts_key : ∀ ds : List DT.D, keysOk ds = true → noMuts ds = true
  | [], _ => rfl
  | d :: ds, h => by
    have h' : keyOk d = true ∧ keysOk ds = true := by simpa only [keysOk, Bool.and_eq_true] using h
    rw [noMuts, noMut_key d h'.1, noMuts_key ds h'.2]
    rfl
end
/-- a value that is stored -/
theorem rep_escV {v : V} (S : StOk M0 sa N H σ ρ g) (r1 : Res sa N ρ σ xe H g1 d v H1) (S1 : StOk M0 sa N H1 σ ρ g1) : Rep (less N ρ σ (escV xe d)) H1 d v := by
  unfold escV
  by_cases c : noMut d = true
  · rw [c, Bool.true_or, if_pos rfl]
    exact (rep_imm S1 d v c r1.vo.rep).anti fun _ h => h.1
  · by_cases c2 : (fresh xe && flatL d) = true
    · rw [c2, Bool.or_true, if_pos rfl]
      obtain ⟨f1, f2⟩ := Bool.and_eq_true_iff.mp c2
      cases d with
      | list ds =>
        obtain ⟨a, e, hn, t⟩ := r1.fr f1 rfl
        obtain ⟨z, b, vs, e', h, r⟩ := t
        obtain rfl : a = b := by
          rw [e] at e'
          injection e'
        have r' : RepL (less N ρ σ (esi xe)) H1 ds vs := r.anti fun _ h => .inl h
        rw [Rep]
        exact ⟨z, a, vs, e, fun q => S.mt a q.1 hn, h, (reps_imm S1 ds vs f2 r').anti fun _ h => h.1⟩
      | _ => cases f2
    · have c3 : (noMut d || (fresh xe && flatL d)) = false := by
        rw [Bool.eq_false_iff.mpr c, Bool.eq_false_iff.mpr c2]
        rfl
      rw [c3, if_neg Bool.false_ne_true]
      exact r1.vo.rep
theorem ps_sixD {i : Nat} {nm : Str} {k : Expr} {xk : Ex} {p1 pos' : Pos} (hu : X.A.units + 65 < cLine) (hN : X.N[i]? = some nm) (hv : Vis X.env.scope nm) (hd : (nm == ("__debug__" : Str)) = false) (hcd : (nm == ("__classdict__" : Str)) = false) (hk : PE X k (tX F xk)) (he : PE X e (tX F xe))
    (hs : swapsWith e (some (.Subscript (.Name nm p1) k pos')) pos.line X.env = pure false) : PS X (.Assign [.Subscript (.Name nm p1) k pos'] e pos) (tS F (.six i xk xe)) := by
  refine ⟨fun pins s σ H D I h => ?_⟩
  obtain ⟨M0, sa, N, ρ, g, f, ρ', g', S, e0, o⟩ := h
  rw [ex] at e0
  obtain ⟨d, g1, e1, e2⟩ := bnd_some e0
  obtain ⟨y, g2, e3, e4⟩ := bnd_some e2
  clear e0 e2
  obtain ⟨kvs, hslot, hok, e5, rfl⟩ := six_inv e4
  cases e5
  obtain ⟨c1, c2⟩ := Bool.and_eq_true_iff.mp hok
  obtain ⟨c2, c3⟩ := Bool.and_eq_true_iff.mp c2
  have hlt : kvs.length < LINE := of_decide_eq_true c3
  refine wpAny_Assign_Subscript (thn (he.run pins s σ H (fun v H1 => Res sa N ρ σ xe H g1 d v H1) I ⟨M0, sa, N, ρ, g, d, g1, S, e1, fun v H1 r => r⟩) fun r s1 ⟨v, H1, I1, rv, r1⟩ => ?_) hs
  have S1 := S.ext r1.keep r1.src
  obtain ⟨p, hi, ow, hσ, _⟩ := mine_dict S1 hslot
  refine thn ((pe_var hN hv hd hcd).run pins s1 σ H1 (fun w H2 => w = .ref p ∧ H2 = H1) I1 ⟨.ref p, hσ, rfl, rfl⟩) fun u s2 ⟨w, H2, I2, rw2, ew, eH⟩ => ?_
  subst ew eH
  cases rw2
  refine thn (hk.run pins s2 σ H2 (fun v H3 => Res sa N ρ σ xk H2 _ y v H3) I2 ⟨M0, sa, N, ρ, g1, y, _, S1, e3, fun v H3 r => r⟩) fun iv s3 ⟨z, H3, I3, ry, r2⟩ => ?_
  have S2 := S1.ext r2.keep r2.src
  obtain ⟨p', _, _, hσ', _, ks, vs, hA, rK⟩ := mine_dict S2 hslot
  rw [hσ] at hσ'
  cases hσ'
  obtain ⟨hN1, hM⟩ := S.own ow
  have S3 := S2.freeze (escV xe d)
  have low : less N ρ σ (escV xe d) p := ⟨hN1, fun ⟨j, hj, oj⟩ => hi (S.inj i j p ow oj ▸ hj)⟩
  have rd : Rep (less N ρ σ (escV xe d)) H3 d v := (rep_escV S r1 S1).tr fun c o' eo n => ⟨r2.keep c o' eo fun zc => n ⟨S1.sS c zc, fun ⟨i, _, ow⟩ => S1.nos i c ow zc⟩, n⟩
  have rk : Rep (less N ρ σ (escV xe d)) H3 y z := (rep_imm S2 y z (noMut_key y (tupKD_ok c1).2.1) r2.vo.rep).anti fun _ h => h.1
  refine dict_put hu I3 hA rK c1 c2 hlt rk ry rv fun l b s' ez l1 l2 l3 I4 => ⟨σ, _, I4, ?_⟩
  subst ez
  have rK' : RepK (less N ρ σ (escV xe d)) H3 kvs (l.map fun x => V.ref x.2.1) (l.map (·.2.2)) := by
    rw [l2, l3]
    exact RepK.tr (fun a o e n => ⟨e, fun z => n z.1⟩) rK
  obtain ⟨w1, w2⟩ := repK_put rk rd l1 rK'
  refine o σ _ _ (mut_nxt S (r1.keep.trans r2.keep) hN1 hM) (S3.write (own_frz ow hi) rfl ⟨?_, p, _, _, rfl, .inr ⟨_, upd_same, w2, rfl, rfl⟩, RepK.tr (fun c o e n => ⟨Keep.mut low c o e n, n⟩) w1⟩)
  have := dPut_len kvs y d
  omega
end
end DT

/-! Defs that call defs. -/
namespace DT
open PySem L2 PyProof.Rows
def CXN : CXT := fun _ _ _ _ _ _ => False
def EN : XK := fun _ _ _ => False
abbrev SpG := List V → Hp → VK → Prop
/-- a def's promise, where no repr is under way -/
structure FnG (P : Program) (w : World) (K : PySem.W.Frag) (mg : Str → Option Value) (base : Heap) (lev : Nat) (f : Addr) (fd : FuncData) (ps : List Str) (sp : SpG) : Prop where
  len : ∀ vs H Q, sp vs H Q → vs.length = ps.length
  run : ∀ (A : Around) (outer : List Env) (s : Shared) (H : Hp) (args : Args) (us : List Value) (vs : List V) (Q : VK), Room lev A → A.guards = some [] → Env0 P w K mg base A outer s H → BindsTo s fd args (ps.zip us) → Vals vs us → sp vs H Q →
    codeAny (model P w) A (.call (.ref f) args) (CR CXN outer P w H s Q EN) s
theorem FnG.mono {P : Program} {w : World} {K : PySem.W.Frag} {mg : Str → Option Value} {base : Heap} {j k : Nat} {f : Addr} {fd : FuncData} {ps : List Str} {sp : SpG} (F : FnG P w K mg base j f fd ps sp) (h : j ≤ k) : FnG P w K mg base k f fd ps sp :=
  ⟨F.len, fun A outer s H args us vs Q r => F.run A outer s H args us vs Q (r.mono h)⟩
section
variable {X : Cx} {lev : Nat} {f : Addr} {fd : FuncData} {ps : List Str} {sp : SpG} {nm : Str} {p pos : Pos} {e : Expr} {es : List Expr} {t : TA}
theorem run_G {pins : List (Addr × Obj)} {σ : L2.St} {H : Hp} {s : Shared} {Q : VK} {us : List Value} {vs : List V} (F : FnG X.prog X.w X.K X.mg X.base lev f fd ps sp) (hr : Room lev X.A) (hg : X.A.guards = some []) (hb : Binds X.K fd ps []) (I : L2.Inv X pins σ H s) (r : Vals vs us) (h : sp vs H Q) :
    wpAny (model X.prog X.w) X.A (PySem.call (.ref f) us) (EP X pins σ Q) X.xe s := by
  have hl : us.length = ps.length := by
    rw [← r.length]
    exact F.len _ _ _ h
  have b := hb s us I.kIn (by rw [List.append_nil]; exact hl)
  rw [List.append_nil] at b
  refine wpAny_call (codeAny_mono (F.run X.A X.stack s H ⟨us, []⟩ us vs Q hr hg I.env0 b r h) fun z s' hz => ?_)
  cases z with
  | error _ => exact False.elim hz
  | ok fl =>
    cases fl with
    | ret _ => exact I.after hz
    | _ => exact False.elim hz
def tCallG (sp : SpG) (t : TA) : TE := fun σ H Q => t σ H fun vs H1 => sp vs H1 Q
theorem pe_callG (F : FnG X.prog X.w X.K X.mg X.base lev f fd ps sp) (hr : Room lev X.A) (hgd : X.A.guards = some []) (hg : Gl X nm) (hm : X.mg nm = some (.ref f)) (hk : PySem.W.keepIn X.K (.ref f) = true) (hb : Binds X.K fd ps []) (ha : PA X (e :: es) t)
    (hdb : (nm == ("__debug__" : Str)) = false) (he : starEach (e :: es) X.env = (false, eval e X.env) :: starEach es X.env) (hpl : (backTo pos (starEach es X.env)).any (·.1) = false) : PE X (.Call (.Name nm p) (e :: es) [] pos) (tCallG sp t) := by
  refine ⟨fun pins s σ H Q I h => wpAny_Call_Name_kw (ld_glob I hg hm ?_ hdb)⟩
  refine PySem.W.callWith_K (h₀ := X.base) I.ok.mod.kin hk (thn (ha.run pos pins s σ H _ I h) fun us s1 z => ?_) he hpl
  obtain ⟨vs, H1, I1, r, q⟩ := z
  exact ⟨I1.kIn, run_G F hr hgd hb I1 r q⟩
end
/-- a def by its body -/
theorem fnG_of {P : Program} {w : World} {K : PySem.W.Frag} {mg : Str → Option Value} {base : Heap} {lev : Nat} {f : Addr} {fd : FuncData} {nm qual : Str} {params : Arguments} {body : List Stmt} {scope : Scope} {dvs : List V} {kws : List (Str × V)} {N ps : List Str} {sp : SpG}
    (D : FunD K nm qual params body scope dvs kws f fd) (S : FnScope N ps scope) (len : ∀ vs H Q, sp vs H Q → vs.length = ps.length)
    (hbody : ∀ (cdv : Value) (A : Around) (outer : List Env) (s : Shared) (H : Hp) (vs : List V) (Q : VK), Room lev (A.deeper (envOfC qual scope s.heap.objs.size f cdv)) → (A.deeper (envOfC qual scope s.heap.objs.size f cdv)).guards = some [] → sp vs H Q →
      ∃ t, PSs (cxOf CXN P w K mg base N qual scope f cdv A outer s H EN) body t ∧ t { nx := fun _ H' => Q .non H', rt := Q } (L2.start N vs) H) : FnG P w K mg base (lev + 1) f fd ps sp := by
  obtain ⟨oc, od, dV, kV, doc, pm, an, cdv, ct, osl, rfl, lk, hcd, _, _⟩ := D.ex
  refine ⟨len, fun A outer s H args us vs Q room gd env bind vals want => ?_⟩
  have ll := len _ _ _ want
  have kin : K.In s.heap := env.mod.kin.keeps fun b o z => (env.bs b o z).1
  have nolim : s.heap.NoLimit := env.mod.nolimit.keeps fun b o z => (env.bs b o z).1
  have kinds : ∀ y ∈ ps.zip us, scope.names.lookup y.1 = some .local ∨ (scope.names.lookup y.1 = some .cell ∧ ((cellsFrom (s.heap.objs.size + 1) scope.names []).lookup y.1).isSome = true) := by
    rintro ⟨m, v⟩ hy
    have hm : m ∈ ps := (List.of_mem_zip hy).1
    exact (S.par m hm).imp id fun z => ⟨z, PySem.W.cellsFrom_some _ _ _ (.inl z)⟩
  refine codeAny_call_function room.depth (kin _ _ lk) rfl S.co S.gen rfl (PySem.W.codeRec_of kin hcd) (bind _ _ _ _ ?_)
  refine wpAny_newFunctionEnv_cells S.kind kinds fun env1 he s1 x => ?_
  subst he
  refine ⟨nolim.keeps x.toInCall.keep, codeAny_func ?_⟩
  obtain ⟨t, ht, hq⟩ := hbody cdv A outer s H vs Q (room.deeper _) gd want
  have I := inv_start (CX := CXN) (E := EN) S room.hd env ll vals x
  refine wpAny_mono (ht.run [] s1 (L2.start N vs) H _ I hq) (fun fl s' hs => ?_) fun e s' hs => hs
  cases fl with
  | ret u =>
    obtain ⟨v, σ', H', J, rv, q⟩ := hs
    exact ⟨v, H', J.os, J.bare, J.base, J.hok, rv, q⟩
  | next =>
    obtain ⟨σ', H', J, q⟩ := hs
    exact ⟨V.non, H', J.os, J.bare, J.base, J.hok, rfl, q⟩
  | brk => exact False.elim hs.choose_spec.choose_spec.2
  | cont => exact False.elim hs.choose_spec.choose_spec.2

/-! ### arguments -/
def ArgL (sa : Addr × Addr) (N : Ms) (H : Hp) : List (Option D) → List V → Prop
  | [], vs => vs = []
  | none :: r, vs => ∃ t, vs = .ref sa.1 :: t ∧ ArgL sa N H r t
  | some d :: r, vs => ∃ v t, vs = v :: t ∧ Rep N H d v ∧ ArgL sa N H r t
theorem ArgL.length {sa : Addr × Addr} {N : Ms} {H : Hp} : ∀ {as : List (Option D)} {vs : List V}, ArgL sa N H as vs → vs.length = as.length
  | [], _, h => by
    have h' : _ = [] := h
    subst h'
    rfl
  | none :: r, _, h => by
    obtain ⟨t, rfl, h⟩ := h
    rw [List.length_cons, List.length_cons, ArgL.length h]
  | some d :: r, _, h => by
    obtain ⟨v, t, rfl, _, h⟩ := h
    rw [List.length_cons, List.length_cons, ArgL.length h]
def tR (F : List Fn) (xs : Ars) : TA := fun σ H Q => ∃ (M0 : Ms) (sa : Addr × Addr) (N : Ms) (ρ : Rho) (g : PState) (as : List (Option D)) (g' : PState), StOk M0 sa N H σ ρ g ∧ evr F xs ρ g = some (as, g') ∧ ∀ vs H', Keep (isS sa) H H' → SrcOk H' sa g' → ArgL sa (less N ρ σ (esca xs)) H' as vs → Q vs H'
/-- what a def of the program promises -/
def spF (n : Nat) (h : Fn) : SpG := fun vs H Q => ∃ (M0 : Ms) (sa : Addr × Addr) (as : List (Option D)) (g : PState) (d : D) (g' : PState), as.length = n ∧ (∀ a, isS sa a → M0 a) ∧ (∀ a, M0 a → H a ≠ none) ∧ SrcOk H sa g ∧ ArgL sa M0 H as vs ∧ h as g = some (d, g') ∧
  ∀ v H', Keep (isS sa) H H' → SrcOk H' sa g' → Rep M0 H' d v → Q v H'
section
variable {X : Cx} {F : List Fn} {M0 N : Ms} {sa : Addr × Addr} {H H1 H2 : Hp} {σ σ' : L2.St} {ρ ρ' : Rho} {g g1 g2 g' : PState} {a b c e : Expr} {es : List Expr} {xa xe : Ex} {xr : Ars} {x y d : D} {pos : Pos}
theorem ArgL.keep {k : Keep (isS sa) H H1} (s : ∀ a, isS sa a → N a) : ∀ {as : List (Option D)} {vs : List V}, ArgL sa N H as vs → ArgL sa N H1 as vs
  | [], _, h => h
  | none :: r, _, h => by
    obtain ⟨t, rfl, h⟩ := h
    exact ⟨t, rfl, ArgL.keep (k := k) s h⟩
  | some d :: r, _, h => by
    obtain ⟨v, t, rfl, q, h⟩ := h
    exact ⟨v, t, rfl, q.keep (k.wide s), ArgL.keep (k := k) s h⟩
theorem ArgL.anti {N' : Ms} (s : ∀ a, N' a → N a) : ∀ {as : List (Option D)} {vs : List V}, ArgL sa N H as vs → ArgL sa N' H as vs
  | [], _, h => h
  | none :: r, _, h => by
    obtain ⟨t, rfl, h⟩ := h
    exact ⟨t, rfl, ArgL.anti s h⟩
  | some d :: r, _, h => by
    obtain ⟨v, t, rfl, q, h⟩ := h
    exact ⟨v, t, rfl, q.anti s, ArgL.anti s h⟩
theorem pr_nil : PA X [] (tR F .nil) := by
  refine ⟨fun pos pins s σ H Q I h => ?_⟩
  obtain ⟨M0, sa, N, ρ, g, as, g', S, e, q⟩ := h
  rw [evr] at e
  obtain ⟨rfl, rfl⟩ := ret_some e
  exact pa_nil.run pos pins s σ H Q I (q [] H .refl S.src rfl)
theorem pr_ex (ha : PE X a (tX F xa)) (hr : PA X es (tR F xr)) (hs : starEach (a :: es) X.env = (false, eval a X.env) :: starEach es X.env) : PA X (a :: es) (tR F (.ex xa xr)) := by
  refine ⟨fun pos pins s σ H Q I h => ?_⟩
  obtain ⟨M0, sa, N, ρ, g, as, g', S, e, q⟩ := h
  rw [evr] at e
  obtain ⟨x, g1, e1, f1⟩ := bnd_some e
  obtain ⟨xs, g2, e2, f2⟩ := bnd_some f1
  clear e f1
  obtain ⟨rfl, rfl⟩ := ret_some f2
  refine (pa_cons ha hr hs).run pos pins s σ H Q I ⟨M0, sa, N, ρ, g, x, g1, S, e1, fun v H1 r1 => ⟨M0, sa, N, ρ, g1, xs, _, S.ext r1.keep r1.src, e2, fun vs H2 k r2 o => ?_⟩⟩
  refine q _ H2 (r1.keep.trans k) r2 ⟨v, vs, rfl, ?_, o.anti fun a z => less_mono (fun i hi => List.mem_append_right _ hi) z⟩
  exact (r1.vo.rep.keep (k.wide fun a z => S.lessSub (S.srcIn a z))).anti fun a z => less_mono (fun i hi => List.mem_append_left _ hi) z
theorem pr_src {i : Nat} {nm : Str} {p : Pos} (hN : X.N[i]? = some nm) (hv : Vis X.env.scope nm) (hd : (nm == ("__debug__" : Str)) = false) (hcd : (nm == ("__classdict__" : Str)) = false) (hr : PA X es (tR F xr)) (hs : starEach (.Name nm p :: es) X.env = (false, eval (.Name nm p) X.env) :: starEach es X.env) : PA X (.Name nm p :: es) (tR F (.src i xr)) := by
  refine ⟨fun pos pins s σ H Q I h => ?_⟩
  obtain ⟨M0, sa, N, ρ, g, as, g', S, e, q⟩ := h
  rw [evr] at e
  have e' : ∃ xs, ρ[i]? = some (some .src) ∧ evr F xr ρ g = some (xs, g') ∧ as = none :: xs := by
    rcases hρ : ρ[i]? with _ | _ | s
    · rw [hρ] at e
      cases e
    · rw [hρ] at e
      cases e
    · cases s with
      | src =>
        rw [hρ] at e
        obtain ⟨xs, g1, e1, f1⟩ := bnd_some e
        obtain ⟨rfl, rfl⟩ := ret_some f1
        exact ⟨xs, rfl, e1, rfl⟩
      | d b x =>
        rw [hρ] at e
        cases e
  obtain ⟨xs, hρ, e1, rfl⟩ := e'
  obtain ⟨v, hσ, ov⟩ := S.slot i _ hρ
  have ov' : v = .ref sa.1 := ov
  subst ov'
  refine (pa_cons (pe_var hN hv hd hcd) hr hs).run pos pins s σ H Q I ⟨_, hσ, M0, sa, N, ρ, g, xs, g', S, e1, fun vs H2 k r2 o => q _ H2 k r2 ⟨vs, rfl, o⟩⟩
/-- f(..), a def of the program -/
theorem call_of {i n : Nat} {h : Fn} {σ : L2.St} {H : Hp} {Q : VK} (hF : F[i]? = some h) (hn : ∀ as ρ g g', evr F xr ρ g = some (as, g') → as.length = n) (z : tX F (.call i xr) σ H Q) : tCallG (spF n h) (tR F xr) σ H Q := by
  obtain ⟨M0, sa, N, ρ, g, d, g', S, e, q⟩ := z
  rw [ev] at e
  obtain ⟨as, g1, e1, f1⟩ := bnd_some e
  clear e
  rw [hF] at f1
  refine ⟨M0, sa, N, ρ, g, as, g1, S, e1, fun vs H1 k r o => ⟨less N ρ σ (esca xr), sa, as, g1, d, g', hn as ρ g g1 e1, fun a z => S.lessSub (S.srcIn a z), fun a z => (S.ext k r).mt a z.1, r, o, f1, fun v H' k' r' rp => ?_⟩⟩
  have vo : Vo sa N ρ σ (.call i xr) H' d v := .item S rp (fun _ z => z) fun _ z => z
  exact q v H' ⟨k.trans k', r', vo, fun z => by cases z⟩
def lenR : Ars → Nat
  | .nil => 0
  | .src _ r => lenR r + 1
  | .ex _ r => lenR r + 1
theorem evr_len : ∀ {xs : Ars} {ρ : Rho} {g g' : PState} {as : List (Option D)}, evr F xs ρ g = some (as, g') → as.length = lenR xs
  | .nil, _, _, _, _, e => by
    rw [evr] at e
    obtain ⟨rfl, _⟩ := ret_some e
    rfl
  | .src i r, ρ, _, _, _, e => by
    rw [evr] at e
    rcases hρ : ρ[i]? with _ | _ | s
    · rw [hρ] at e; cases e
    · rw [hρ] at e; cases e
    · cases s with
      | src =>
        rw [hρ] at e
        obtain ⟨xs, g1, e1, f1⟩ := bnd_some e
        obtain ⟨rfl, rfl⟩ := ret_some f1
        rw [List.length_cons, evr_len e1]
        rfl
      | d b x => rw [hρ] at e; cases e
  | .ex x r, _, _, _, _, e => by
    rw [evr] at e
    obtain ⟨x, g1, e1, f1⟩ := bnd_some e
    obtain ⟨xs, g2, e2, f2⟩ := bnd_some f1
    obtain ⟨rfl, rfl⟩ := ret_some f2
    rw [List.length_cons, evr_len e2]
    rfl
theorem pe_callD {lev i : Nat} {h : Fn} {f : Addr} {fd : FuncData} {ps : List Str} {nm : Str} {p : Pos} (hF : F[i]? = some h) (hn : lenR xr = ps.length) (G : FnG X.prog X.w X.K X.mg X.base lev f fd ps (spF ps.length h)) (hr : Room lev X.A) (hgd : X.A.guards = some []) (hg : Gl X nm) (hm : X.mg nm = some (.ref f)) (hk : PySem.W.keepIn X.K (.ref f) = true) (hb : Binds X.K fd ps [])
    (ha : PA X (e :: es) (tR F xr)) (hdb : (nm == ("__debug__" : Str)) = false) (he : starEach (e :: es) X.env = (false, eval e X.env) :: starEach es X.env) (hpl : (backTo pos (starEach es X.env)).any (·.1) = false) : PE X (.Call (.Name nm p) (e :: es) [] pos) (tX F (.call i xr)) :=
  ⟨fun pins s σ H Q I z => (pe_callG G hr hgd hg hm hk hb ha hdb he hpl).run pins s σ H Q I (call_of hF (fun as ρ g g' e => (evr_len e).trans hn) z)⟩

/-! ### the body at its entry -/
theorem start_get {N : List Str} {vs : List V} {i : Nat} {v : V} (h : vs[i]? = some v) : (L2.start N vs)[i]? = some (some v) := by
  unfold L2.start
  rw [List.getElem?_append_left (by rw [List.length_map]; exact (List.getElem?_eq_some_iff.mp h).1), List.getElem?_map, h]
  rfl
theorem args_slot {M0 : Ms} {k : Nat} : ∀ (as : List (Option D)) (vs : List V) (i : Nat) (s : Sl), ArgL sa M0 H as vs → (as.map sl0 ++ List.replicate k none)[i]? = some (some s) → ∃ v, vs[i]? = some v ∧ SlOk M0 sa M0 H s v
  | [], vs, i, s, o, h => by
    rw [List.map_nil, List.nil_append, List.getElem?_replicate] at h
    split at h <;> cases h
  | none :: r, vs, 0, s, o, h => by
    obtain ⟨t, rfl, o⟩ := o
    have h' : sl0 none = some s := Option.some.inj h
    cases h'
    exact ⟨_, rfl, rfl⟩
  | none :: r, vs, i + 1, s, o, h => by
    obtain ⟨t, rfl, o⟩ := o
    exact args_slot r t i s o h
  | some d :: r, vs, 0, s, o, h => by
    obtain ⟨v, t, rfl, q, o⟩ := o
    have h' : sl0 (some d) = some s := Option.some.inj h
    cases h'
    exact ⟨_, rfl, q⟩
  | some d :: r, vs, i + 1, s, o, h => by
    obtain ⟨v, t, rfl, q, o⟩ := o
    exact args_slot r t i s o h
theorem stOk_start {N : List Str} {M0 : Ms} {as : List (Option D)} {vs : List V} (hl : as.length ≤ N.length) (h1 : ∀ a, isS sa a → M0 a) (h2 : ∀ a, M0 a → H a ≠ none) (q : SrcOk H sa g) (o : ArgL sa M0 H as vs) : StOk M0 sa M0 H (L2.start N vs) (as.map sl0 ++ List.replicate (N.length - as.length) none) g := by
  have lv := o.length
  have noOwn : ∀ {i : Nat} {a : Addr}, ¬ Own (as.map sl0 ++ List.replicate (N.length - as.length) none) (L2.start N vs) i a := fun {i a} ⟨x, e, _, _⟩ => by
    rcases Nat.lt_or_ge i as.length with hi | hi
    · rw [List.getElem?_append_left (by rw [List.length_map]; exact hi), List.getElem?_map, List.getElem?_eq_getElem hi] at e
      have e' : sl0 as[i] = some (.d true x) := Option.some.inj e
      cases ha : as[i] with
      | none => rw [ha] at e'; cases e'
      | some d => rw [ha] at e'; cases e'
    · rw [List.getElem?_append_right (by rw [List.length_map]; exact hi), List.getElem?_replicate] at e
      split at e <;> cases e
  refine ⟨?_, fun i s hs => ?_, fun i j a o1 _ => (noOwn o1).elim, fun _ z => z, h1, h2, q⟩
  · unfold L2.start
    rw [List.length_append, List.length_append, List.length_map, List.length_map, List.length_replicate, List.length_replicate, lv]
  · obtain ⟨v, e1, e2⟩ := args_slot _ _ _ _ o hs
    exact ⟨v, start_get e1, e2⟩
/-- a body at its entry, from the function that tells it -/
theorem entry_of {N : List Str} {n : Nat} {body : Sxs} {vs : List V} {H : Hp} {Q : VK} (hn : n ≤ N.length) (h : spF n (fnOf F N.length body) vs H Q) : tSs F body { nx := fun _ H' => Q .non H', rt := Q } (L2.start N vs) H := by
  obtain ⟨M0, sa, as, g, d, g', hl, h1, h2, q, o, e, z⟩ := h
  unfold fnOf at e
  obtain ⟨⟨fl, ρ'⟩, g1, e1, e2⟩ := bnd_some e
  clear e
  have S := stOk_start (N := N) (by rw [hl]; exact hn) h1 h2 q o
  have mv : ∀ a, Mv M0 sa M0 a → isS sa a := fun a m => m.2 m.1
  refine ⟨M0, sa, M0, _, g, fl, ρ', g1, S, e1, ?_⟩
  cases fl with
  | nx =>
    obtain ⟨e3, rfl⟩ := ret_some e2
    subst e3
    exact fun σ' H' N' nn S' => z .non H' (nn.keep.wide mv) S'.src (by rw [Rep])
  | ct => cases e2
  | rt dd =>
    obtain ⟨e3, rfl⟩ := ret_some e2
    subst e3
    exact fun v H' k r rp => z v H' (k.wide mv) r rp
end
end DT

/-! a, b = x, y. -/
namespace DT
open PySem L2 PyProof.Rows
def own1 (e : Ex) (d : D) : Bool := fresh e && isMut d
/-- the new objects of a display's items -/
def frA : Exs → List D → List V → List Addr
  | .cons e r, d :: ds, v :: vs => (if own1 e d = true then (match v with
    | .ref a => [a]
    | _ => []) else []) ++ frA r ds vs
  | _, _, _ => []
def ElL (L : Ms) (H : Hp) : Exs → List D → List V → Prop
  | .nil, ds, vs => ds = [] ∧ vs = []
  | .cons e r, ds, vs => ∃ d t v w, ds = d :: t ∧ vs = v :: w ∧ (if own1 e d = true then (∃ a, v = .ref a) ∧ Top L H d v else Rep L H d v) ∧ ElL L H r t w
def tAF (F : List Fn) (xs : Exs) : TA := fun σ H Q => ∃ (M0 : Ms) (sa : Addr × Addr) (N : Ms) (ρ : Rho) (g : PState) (ds : List D) (g' : PState), StOk M0 sa N H σ ρ g ∧ evs F xs ρ g = some (ds, g') ∧ ∀ vs H', Keep (isS sa) H H' → SrcOk H' sa g' → (∀ p, p ∈ frA xs ds vs → H p = none ∧ H' p ≠ none) → (frA xs ds vs).Nodup → ElL (addL (less N ρ σ (escs xs)) (frA xs ds vs)) H' xs ds vs → Q vs H'
section
variable {X : Cx} {F : List Fn} {M0 N : Ms} {sa : Addr × Addr} {H H1 H2 : Hp} {σ σ' : L2.St} {ρ ρ' : Rho} {g g1 g2 g' : PState} {a b c e : Expr} {es : List Expr} {xa xe : Ex} {xr : Exs} {x y d : D} {pos : Pos} {D' : Ends}
theorem ElL.tr {L L' : Ms} (k : ∀ p o, H p = some o → ¬ L p → H1 p = some o ∧ ¬ L' p) (m : ∀ p o, H p = some o → H1 p = some o) : ∀ {xs : Exs} {ds : List D} {vs : List V}, ElL L H xs ds vs → ElL L' H1 xs ds vs
  | .nil, _, _, h => h
  | .cons e r, _, _, h => by
    obtain ⟨d, t, v, w, rfl, rfl, q, h⟩ := h
    refine ⟨d, t, v, w, rfl, rfl, ?_, ElL.tr k m h⟩
    split at q
    · rename_i c
      rw [if_pos c]
      exact ⟨q.1, q.2.tr k fun _ p o _ e => m p o e⟩
    · rename_i c
      rw [if_neg c]
      exact Rep.tr k q
theorem Top.at {L : Ms} {p : Addr} (m : isMut d = true) (t : Top L H d (.ref p)) : H p ≠ none := by
  cases d with
  | list ds =>
    obtain ⟨_, q, vs, eq, h, _⟩ := t
    cases eq
    rw [h]
    exact fun z => by cases z
  | dict ds =>
    obtain ⟨_, q, ks, vs, eq, h, _⟩ := t
    cases eq
    obtain ⟨o, ho⟩ := h.obj
    rw [ho]
    exact fun z => by cases z
  | _ => cases m
theorem paF_nil : PA X [] (tAF F .nil) := by
  refine ⟨fun pos pins s σ H Q I h => ?_⟩
  obtain ⟨M0, sa, N, ρ, g, ds, g', S, e, q⟩ := h
  rw [evs] at e
  obtain ⟨rfl, rfl⟩ := ret_some e
  exact pa_nil.run pos pins s σ H Q I (q [] H .refl S.src (fun p z => by cases z) List.nodup_nil ⟨rfl, rfl⟩)
theorem paF_cons (ha : PE X a (tX F xa)) (hr : PA X es (tAF F xr)) (hs : starEach (a :: es) X.env = (false, eval a X.env) :: starEach es X.env) : PA X (a :: es) (tAF F (.cons xa xr)) := by
  refine ⟨fun pos pins s σ H Q I h => ?_⟩
  obtain ⟨M0, sa, N, ρ, g, ds, g', S, e, q⟩ := h
  rw [evs] at e
  obtain ⟨x, g1, e1, f1⟩ := bnd_some e
  obtain ⟨xs, g2, e2, f2⟩ := bnd_some f1
  clear e f1
  obtain ⟨rfl, rfl⟩ := ret_some f2
  refine (pa_cons ha hr hs).run pos pins s σ H Q I ⟨M0, sa, N, ρ, g, x, g1, S, e1, fun v H1 r1 => ?_⟩
  -- what the first item has made
  obtain ⟨fa, hfa, hnew, htop⟩ : ∃ fa : List Addr, (if own1 xa x = true then (match v with
      | .ref a => [a]
      | _ => []) else []) = fa ∧ (∀ p, p ∈ fa → H p = none ∧ H1 p ≠ none) ∧ fa.Nodup ∧ (if own1 xa x = true then (∃ a, v = .ref a) ∧ Top (addL (less N ρ σ (esc xa)) fa) H1 x v else Rep (addL (less N ρ σ (esc xa)) fa) H1 x v) := by
    cases c : own1 xa x with
    | true =>
      obtain ⟨c1, c2⟩ := Bool.and_eq_true_iff.mp c
      obtain ⟨p, rfl, hp, top⟩ := r1.fr c1 c2
      refine ⟨[p], rfl, fun q hq => ?_, List.nodup_cons.mpr ⟨List.not_mem_nil, List.nodup_nil⟩, ?_⟩
      · rw [List.mem_singleton.mp hq]
        exact ⟨hp, top.at c2⟩
      · refine ⟨⟨p, rfl⟩, top.anti fun q z => ?_⟩
        rcases z with z | z
        · exact .inl (less_mono (fun _ hi => List.mem_append_left _ hi) z)
        · exact .inr (List.mem_singleton.mp z)
    | false =>
      refine ⟨[], rfl, (fun q hq => by cases hq), List.nodup_nil, ?_⟩
      exact r1.vo.rep.anti fun q z => z.elim id fun y => by cases y
  have S1 := S.grow r1.keep r1.src hnew
  refine ⟨M0, sa, addL N fa, ρ, g1, xs, _, S1, e2, fun vs H2 k2 r2 new2 nd2 el2 => ?_⟩
  have noOwn : ∀ p, p ∈ fa → ∀ i, ¬ Own ρ σ i p := fun p hp i => S.noOwn (hnew p hp).1 i
  have hF : frA (.cons xa xr) (x :: xs) (v :: vs) = fa ++ frA xr xs vs := by rw [← hfa]; rfl
  have freeH : ∀ p, H1 p = none → H p = none := fun p z => r1.keep.free z fun y => r1.src.there y z
  have keepA : ∀ p o, H1 p = some o → ¬ isS sa p → H2 p = some o := fun p o z n => k2 p o z n
  refine q _ H2 (r1.keep.trans k2) r2 ?_ ?_ ?_
  · rw [hF]
    intro p hp
    rcases List.mem_append.mp hp with hp | hp
    · refine ⟨(hnew p hp).1, ?_⟩
      cases z : H1 p with
      | none => exact ((hnew p hp).2 z).elim
      | some o =>
        have ns : ¬ isS sa p := fun y => S.src.there y (hnew p hp).1
        rw [keepA p o z ns]
        exact fun y => by cases y
    · exact ⟨freeH p (new2 p hp).1, (new2 p hp).2⟩
  · rw [hF]
    refine List.nodup_append.mpr ⟨htop.1, nd2, fun p hp p' hp' z => ?_⟩
    subst z
    exact (hnew p hp).2 (new2 p hp').1
  · rw [hF]
    have hS : ∀ p, isS sa p → less N ρ σ (escs (.cons xa xr)) p := fun p z => S.lessSub (S.srcIn p z)
    -- the first item, as it stands at the end
    have tr1 : ∀ p o, H1 p = some o → ¬ addL (less N ρ σ (esc xa)) fa p → H2 p = some o ∧ ¬ addL (less N ρ σ (escs (.cons xa xr))) (fa ++ frA xr xs vs) p := fun p o z n => by
      refine ⟨keepA p o z fun y => n (.inl (S.lessSub (S.srcIn p y))), fun y => ?_⟩
      rcases y with y | y
      · exact n (.inl (less_mono (fun i hi => List.mem_append_left _ hi) y))
      · rcases List.mem_append.mp y with y | y
        · exact n (.inr y)
        · rw [(new2 p y).1] at z
          cases z
    refine ⟨x, xs, v, vs, rfl, rfl, ?_, ?_⟩
    · have h := htop.2
      cases c : own1 xa x with
      | true =>
        rw [c] at h
        obtain ⟨⟨p, ep⟩, top⟩ := h
        refine ⟨⟨p, ep⟩, top.tr tr1 fun m p' o ev z => ?_⟩
        rw [c] at hfa
        rw [ep] at hfa ev
        have ev' : p = p' := V.ref.inj ev
        subst ev'
        have hp : p ∈ fa := by
          rw [← hfa]
          exact List.mem_singleton.mpr rfl
        exact keepA p o z fun y => S.src.there y (hnew p hp).1
      | false =>
        rw [c] at h
        exact Rep.tr tr1 h
    · refine el2.tr (fun p o z n => ⟨z, fun y => n ?_⟩) fun p o z => z
      rcases y with y | y
      · refine .inl ⟨.inl y.1, fun ⟨i, hi, o⟩ => y.2 ⟨i, ?_, o⟩⟩
        show i ∈ esi xa ++ ael xa ++ escs xr
        exact List.mem_append_right _ hi
      · rcases List.mem_append.mp y with y | y
        · exact .inl ⟨.inr y, fun ⟨i, _, o⟩ => noOwn p y i o⟩
        · exact .inr y
/-- the stores, one after another -/
def setV : List Nat → List V → L2.St → L2.St
  | i :: is, v :: vs, σ => setV is vs (σ.set i (some v))
  | _, _, σ => σ
theorem StOk.puts : ∀ (is : List Nat) (xs : Exs) (ds : List D) (vs : List V) (σ : L2.St) (ρ : Rho), StOk M0 sa N H σ ρ g → ElL N H xs ds vs → (frA xs ds vs).Nodup → (∀ p, p ∈ frA xs ds vs → N p ∧ ¬ M0 p ∧ ∀ j, ¬ Own ρ σ j p) →
    StOk M0 sa N H (setV is vs σ) (setIs is ((fres xs).zip ds) ρ) g
  | [], xs, ds, vs, σ, ρ, S, _, _, _ => by
    have e1 : setV [] vs σ = σ := by cases vs <;> rfl
    have e2 : setIs [] ((fres xs).zip ds) ρ = ρ := by cases ((fres xs).zip ds) <;> rfl
    rw [e1, e2]
    exact S
  | i :: is, .nil, ds, vs, σ, ρ, S, h, _, _ => by
    obtain ⟨rfl, rfl⟩ := h
    exact S
  | i :: is, .cons e r, ds, vs, σ, ρ, S, h, nd, al => by
    obtain ⟨d, t, v, w, rfl, rfl, q, h⟩ := h
    have hF : frA (.cons e r) (d :: t) (v :: w) = (if own1 e d = true then (match v with
      | .ref a => [a]
      | _ => []) else []) ++ frA r t w := rfl
    rw [hF] at nd al
    obtain ⟨nd1, nd2, nd3⟩ := List.nodup_append.mp nd
    have S' : StOk M0 sa N H (σ.set i (some v)) (ρ.set i (some (.d (fresh e) d))) g := by
      refine S.put i ?_
      cases c : own1 e d with
      | true =>
        rw [c] at q al
        obtain ⟨⟨p, ep⟩, top⟩ := q
        subst ep
        obtain ⟨h1, h2, h3⟩ := al p (List.mem_append_left _ (List.mem_singleton.mpr rfl))
        have c' : (fresh e && isMut d) = true := c
        rw [if_pos c']
        exact ⟨top, p, rfl, h1, h2, h3⟩
      | false =>
        rw [c] at q
        have c' : (fresh e && isMut d) = false := c
        rw [if_neg (by rw [c']; exact Bool.false_ne_true)]
        exact q
    refine StOk.puts is r t w _ _ S' h nd2 fun p hp => ?_
    obtain ⟨h1, h2, h3⟩ := al p (List.mem_append_right _ hp)
    refine ⟨h1, h2, fun j o => ?_⟩
    by_cases ej : j = i
    · subst ej
      obtain ⟨b1, b2, b3⟩ := own_setI o
      have c : own1 e d = true := by
        unfold own1
        rw [b1, b2]
        rfl
      rw [c, b3] at nd3
      exact nd3 p (List.mem_singleton.mpr rfl) p hp rfl
    · exact h3 j (own_setT o ej)
theorem par_of {is : List Nat} {xs : Exs} (h : tS F (.par is xs) D' σ H) : tAF F xs σ H fun vs H1 => D'.nx (setV is vs σ) H1 := by
  obtain ⟨M0, sa, N, ρ, g, f, ρ', g', S, e, o⟩ := h
  rw [ex] at e
  obtain ⟨ds, g1, e1, e2⟩ := bnd_some e
  clear e
  obtain ⟨e3, rfl⟩ := ret_some e2
  cases e3
  refine ⟨M0, sa, N, ρ, g, ds, _, S, e1, fun vs H1 k r new nd el => ?_⟩
  have S2 := (S.freeze (escs xs)).grow k r new
  refine o _ H1 (addL (less N ρ σ (escs xs)) (frA xs ds vs)) ⟨k.wide fun _ => S.mv, fun q z => z.elim (fun y => .inl y.1) fun y => .inr (new q y).1⟩ ?_
  exact StOk.puts is xs ds vs σ _ S2 el nd fun p hp => ⟨.inr hp, fun z => S.mt p (S.sub p z) (new p hp).1, (S.freeze (escs xs)).noOwn (new p hp).1⟩
theorem tAF_len {xs : Exs} {L : Ms} : ∀ {xs : Exs} {ds : List D} {vs : List V}, ElL L H xs ds vs → vs.length = lenE xs
  | .nil, _, _, h => by
    obtain ⟨_, rfl⟩ := h
    rfl
  | .cons _ r, _, _, h => by
    obtain ⟨_, _, _, _, _, rfl, _, h⟩ := h
    rw [List.length_cons, tAF_len (xs := r) h]
    rfl
/-- the reading with its length -/
theorem par_len {is : List Nat} {xs : Exs} {Q : List V → Hp → Prop} (h : tAF F xs σ H Q) : tAF F xs σ H fun vs H1 => vs.length = lenE xs ∧ Q vs H1 := by
  obtain ⟨M0, sa, N, ρ, g, ds, g', S, e, q⟩ := h
  exact ⟨M0, sa, N, ρ, g, ds, g', S, e, fun vs H1 k r n nd el => ⟨tAF_len (xs := xs) el, q vs H1 k r n nd el⟩⟩
theorem ps_par2D {i j : Nat} {n1 n2 : Str} {xs : Exs} {px py pt : Pos} {kt k2 pt2} (hl : lenE xs = 2) (hc : X.calm = true) (hN : X.N.Nodup) (hi : X.N[i]? = some n1) (hj : X.N[j]? = some n2) (hij : i ≠ j) (hx : X.env.scope.names.lookup n1 = some .local) (hy : X.env.scope.names.lookup n2 = some .local) (ha : PA X [a, b] (tAF F xs))
    (hw : swappedStores [.Tuple [.Name n1 px, .Name n2 py] kt pt] (.Tuple [a, b] k2 pt2) X.env = pure (some [n1, n2])) (hs : swapsWithSole [.Tuple [.Name n1 px, .Name n2 py] kt pt] (.Tuple [a, b] k2 pt2) pos.line X.env = pure false) :
    PS X (.Assign [.Tuple [.Name n1 px, .Name n2 py] kt pt] (.Tuple [a, b] k2 pt2) pos) (tS F (.par [i, j] xs)) := by
  refine ⟨fun pins s σ H D I h => (ps_par hc hN hi hj hij hx hy ha hw hs).run pins s σ H D I ?_⟩
  obtain ⟨M0, sa, N, ρ, g, ds, g', S, e, q⟩ := par_len (is := []) (par_of h)
  refine ⟨M0, sa, N, ρ, g, ds, g', S, e, fun vs H1 k r n nd el => ?_⟩
  obtain ⟨l, z⟩ := q vs H1 k r n nd el
  rw [hl] at l
  match vs, l, z with
  | [v, w], _, z => exact ⟨v, w, rfl, z⟩
theorem ps_par3D {i j l : Nat} {n1 n2 n3 : Str} {xs : Exs} {px py pz pt : Pos} {kt k2 pt2} (hlen : lenE xs = 3) (hc : X.calm = true) (hN : X.N.Nodup) (hi : X.N[i]? = some n1) (hj : X.N[j]? = some n2) (hk : X.N[l]? = some n3) (hij : i ≠ j) (hil : i ≠ l) (hjl : j ≠ l) (hx : X.env.scope.names.lookup n1 = some .local) (hy : X.env.scope.names.lookup n2 = some .local) (hz : X.env.scope.names.lookup n3 = some .local) (ha : PA X [a, b, c] (tAF F xs))
    (hw : swappedStores [.Tuple [.Name n1 px, .Name n2 py, .Name n3 pz] kt pt] (.Tuple [a, b, c] k2 pt2) X.env = pure (some [n1, n2, n3])) (hs : swapsWithSole [.Tuple [.Name n1 px, .Name n2 py, .Name n3 pz] kt pt] (.Tuple [a, b, c] k2 pt2) pos.line X.env = pure false) :
    PS X (.Assign [.Tuple [.Name n1 px, .Name n2 py, .Name n3 pz] kt pt] (.Tuple [a, b, c] k2 pt2) pos) (tS F (.par [i, j, l] xs)) := by
  refine ⟨fun pins s σ H D I h => (ps_par3 hc hN hi hj hk hij hil hjl hx hy hz ha hw hs).run pins s σ H D I ?_⟩
  obtain ⟨M0, sa, N, ρ, g, ds, g', S, e, q⟩ := par_len (is := []) (par_of h)
  refine ⟨M0, sa, N, ρ, g, ds, g', S, e, fun vs H1 k r n nd el => ?_⟩
  obtain ⟨l', z⟩ := q vs H1 k r n nd el
  rw [hlen] at l'
  match vs, l', z with
  | [v, w, u], _, z => exact ⟨v, w, u, rfl, z⟩
/-! through a tuple -/
def gNames : List Nat → TGs
  | [] => gNil
  | i :: is => gCons (gName i) (gNames is)
theorem gNames_of {D : Ends} : ∀ (is : List Nat) (vs : List V) (σ : L2.St) (H : Hp), vs.length = is.length → D.nx (setV is vs σ) H → gNames is vs σ H D.nx
  | [], [], σ, H, _, h => ⟨rfl, h⟩
  | i :: is, v :: vs, σ, H, l, h => ⟨v, vs, rfl, gNames_of is vs _ H (Nat.succ.inj l) h⟩
  | [], _ :: _, _, _, l, _ => by cases l
  | _ :: _, [], _, _, l, _ => by cases l
theorem ps_parT {is : List Nat} {xs : Exs} {ts : List Expr} {kt k2 : Nat} {pt pt2 : Pos} (hl : lenE xs = is.length) (hz : is.length ≤ 1000) (hc : X.calm = true) (ha : PA X es (tAF F xs)) (hg : PGs X ts (gNames is)) (hn : (assignEach ts X.env).length = is.length) (hst : (assignEach ts X.env).findIdx? (·.1) = none)
    (hs : swapsWithSole [.Tuple ts kt pt] (.Tuple es k2 pt2) pos.line X.env = pure false) (hw : swappedStores [.Tuple ts kt pt] (.Tuple es k2 pt2) X.env = pure none) (h1 : (assignEach [.Tuple ts kt pt] X.env).map (·.2) = [assign (.Tuple ts kt pt) X.env]) :
    PS X (.Assign [.Tuple ts kt pt] (.Tuple es k2 pt2) pos) (tS F (.par is xs)) := by
  refine ⟨fun pins s σ H D I h => (ps_asg (pe_tup ha) (pg_tup hc hg hn hst) hs hw h1).run pins s σ H D I ?_⟩
  obtain ⟨M0, sa, N, ρ, g, f, ρ', g', S, e, o⟩ := h
  rw [ex] at e
  obtain ⟨ds, g1, e1, e2⟩ := bnd_some e
  clear e
  obtain ⟨e3, rfl⟩ := ret_some e2
  cases e3
  refine ⟨M0, sa, N, ρ, g, ds, _, S, e1, fun vs H1 k r new nd el => ?_⟩
  have lv := tAF_len (xs := xs) el
  refine ⟨by rw [lv, hl]; exact Nat.le_trans hz (by decide), fun p hp => ⟨p, vs, rfl, .of upd_same, by rw [lv, hl], gNames_of is vs σ _ (by rw [lv, hl]) ?_⟩⟩
  have kp : Keep (isS sa) H (upd H1 p (.tup vs)) := k.trans (.new hp)
  have r' := r.upd (o := .tup vs) hp
  have hpH : H p = none := k.free hp fun y => r.there y hp
  have tr : ∀ q o, H1 q = some o → upd H1 p (.tup vs) q = some o := fun q o z => by
    rw [upd_ne (ne_of_none z hp)]
    exact z
  have new' : ∀ q, q ∈ frA xs ds vs → H q = none ∧ upd H1 p (.tup vs) q ≠ none := fun q hq => by
    refine ⟨(new q hq).1, ?_⟩
    cases z : H1 q with
    | none => exact ((new q hq).2 z).elim
    | some o =>
      rw [tr q o z]
      exact fun y => by cases y
  have S2 := (S.freeze (escs xs)).grow kp r' new'
  refine o _ _ (addL (less N ρ σ (escs xs)) (frA xs ds vs)) ⟨kp.wide fun _ => S.mv, fun q z => z.elim (fun y => .inl y.1) fun y => .inr (new q y).1⟩ ?_
  exact StOk.puts is xs ds vs σ _ S2 (el.tr (fun q o z n => ⟨tr q o z, n⟩) tr) nd fun q hq => ⟨.inr hq, fun z => S.mt q (S.sub q z) (new q hq).1, (S.freeze (escs xs)).noOwn (new q hq).1⟩
end
end DT

/-! The text of a def against its meaning: views. -/
namespace DT
open PySem L2 PyProof.Rows
/-! ### views of an expression -/
def vName : Expr → Option Str
  | .Name id _ => some id
  | _ => none
def vConst : Expr → Option Const
  | .Constant k _ _ => some k
  | _ => none
def vTup : Expr → Option (List Expr)
  | .Tuple es _ _ => some es
  | _ => none
def vLst : Expr → Option (List Expr)
  | .List es _ => some es
  | _ => none
def vBin : Expr → Option (Expr × Operator × Expr)
  | .BinOp l op r _ => some (l, op, r)
  | _ => none
def vNeg : Expr → Option Expr
  | .UnaryOp .USub a _ => some a
  | _ => none
def vNot : Expr → Option Expr
  | .UnaryOp .Not a _ => some a
  | _ => none
def vAnd : Expr → Option (List Expr)
  | .BoolOp .And es _ => some es
  | _ => none
def vOr : Expr → Option (List Expr)
  | .BoolOp .Or es _ => some es
  | _ => none
def vCmp : Expr → Option (Expr × List CmpOp × List Expr)
  | .Compare l ops rs _ => some (l, ops, rs)
  | _ => none
def vIf : Expr → Option (Expr × Expr × Expr)
  | .IfExp t a b _ => some (t, a, b)
  | _ => none
def vSub : Expr → Option (Expr × Expr)
  | .Subscript o s _ => some (o, s)
  | _ => none
def vPart : Expr → Option (Option Expr × Option Expr)
  | .Slice lo hi none _ => some (lo, hi)
  | _ => none
def vBack : Expr → Bool
  | .Slice none none (some (.UnaryOp .USub (.Constant (.int 1) _ _) _)) _ => true
  | _ => false
def vLc : Expr → Option (Expr × Expr × Expr × List Expr × Scope)
  | .ListComp el [⟨t, it, fs, 0⟩] scope _ => some (el, t, it, fs, scope)
  | _ => none
def vCall : Expr → Option (Str × List Expr)
  | .Call (.Name nm _) es [] _ => some (nm, es)
  | _ => none
def vMeth : Expr → Option (Expr × Str × Pos × List Expr × Pos)
  | .Call (.Attribute o nm ap) es [] cp => some (o, nm, ap, es, cp)
  | _ => none
def vStar : Expr → Option Expr
  | .Starred e _ => some e
  | _ => none
/-- sorted(x, key=abs) -/
def vSabs : Expr → Option Expr
  | .Call (.Name nm _) [x] [⟨some k, .Name ab _, _⟩] _ => if decide (nm = ("sorted" : Str)) && (decide (k = ("key" : Str)) && decide (ab = ("abs" : Str))) then some x else none
  | _ => none
def vDict0 : Expr → Bool
  | .Dict [] [] _ => true
  | _ => false
theorem vStar_eq {e x : Expr} (h : vStar e = some x) : ∃ p, e = .Starred x p := by
  unfold vStar at h
  split at h <;> cases h
  exact ⟨_, rfl⟩
theorem vSabs_eq {e x : Expr} (h : vSabs e = some x) : ∃ p p2 kp pos, e = .Call (.Name "sorted" p) [x] [⟨some "key", .Name "abs" p2, kp⟩] pos := by
  unfold vSabs at h
  split at h
  · rename_i nm p x' k ab p2 kp pos
    obtain ⟨c, e⟩ := Option.ite_none_right_eq_some.mp h
    obtain rfl := Option.some.inj e
    obtain ⟨c1, c⟩ := Bool.and_eq_true_iff.mp c
    obtain ⟨c2, c3⟩ := Bool.and_eq_true_iff.mp c
    cases of_decide_eq_true c1
    cases of_decide_eq_true c2
    cases of_decide_eq_true c3
    exact ⟨p, p2, kp, pos, rfl⟩
  · cases h
theorem vDict0_eq {e : Expr} (h : vDict0 e = true) : ∃ p, e = .Dict [] [] p := by
  unfold vDict0 at h
  split at h
  · exact ⟨_, rfl⟩
  · cases h
theorem vName_eq {e : Expr} {nm : Str} (h : vName e = some nm) : ∃ p, e = .Name nm p := by
  unfold vName at h
  split at h <;> cases h
  exact ⟨_, rfl⟩
theorem vConst_eq {e : Expr} {k : Const} (h : vConst e = some k) : ∃ j p, e = .Constant k j p := by
  unfold vConst at h
  split at h <;> cases h
  exact ⟨_, _, rfl⟩
theorem vTup_eq {e : Expr} {es : List Expr} (h : vTup e = some es) : ∃ k p, e = .Tuple es k p := by
  unfold vTup at h
  split at h <;> cases h
  exact ⟨_, _, rfl⟩
theorem vLst_eq {e : Expr} {es : List Expr} (h : vLst e = some es) : ∃ p, e = .List es p := by
  unfold vLst at h
  split at h <;> cases h
  exact ⟨_, rfl⟩
theorem vBin_eq {e l r : Expr} {op : Operator} (h : vBin e = some (l, op, r)) : ∃ p, e = .BinOp l op r p := by
  unfold vBin at h
  split at h <;> cases h
  exact ⟨_, rfl⟩
theorem vNeg_eq {e a : Expr} (h : vNeg e = some a) : ∃ p, e = .UnaryOp .USub a p := by
  unfold vNeg at h
  split at h <;> cases h
  exact ⟨_, rfl⟩
theorem vNot_eq {e a : Expr} (h : vNot e = some a) : ∃ p, e = .UnaryOp .Not a p := by
  unfold vNot at h
  split at h <;> cases h
  exact ⟨_, rfl⟩
theorem vAnd_eq {e : Expr} {es : List Expr} (h : vAnd e = some es) : ∃ p, e = .BoolOp .And es p := by
  unfold vAnd at h
  split at h <;> cases h
  exact ⟨_, rfl⟩
theorem vOr_eq {e : Expr} {es : List Expr} (h : vOr e = some es) : ∃ p, e = .BoolOp .Or es p := by
  unfold vOr at h
  split at h <;> cases h
  exact ⟨_, rfl⟩
theorem vCmp_eq {e l : Expr} {ops : List CmpOp} {rs : List Expr} (h : vCmp e = some (l, ops, rs)) : ∃ p, e = .Compare l ops rs p := by
  unfold vCmp at h
  split at h <;> cases h
  exact ⟨_, rfl⟩
theorem vIf_eq {e t a b : Expr} (h : vIf e = some (t, a, b)) : ∃ p, e = .IfExp t a b p := by
  unfold vIf at h
  split at h <;> cases h
  exact ⟨_, rfl⟩
theorem vSub_eq {e o s : Expr} (h : vSub e = some (o, s)) : ∃ p, e = .Subscript o s p := by
  unfold vSub at h
  split at h <;> cases h
  exact ⟨_, rfl⟩
theorem vPart_eq {e : Expr} {lo hi : Option Expr} (h : vPart e = some (lo, hi)) : ∃ p, e = .Slice lo hi none p := by
  unfold vPart at h
  split at h <;> cases h
  exact ⟨_, rfl⟩
theorem vBack_eq {e : Expr} (h : vBack e = true) : ∃ k p1 p2 p3, e = .Slice none none (some (.UnaryOp .USub (.Constant (.int 1) k p1) p2)) p3 := by
  unfold vBack at h
  split at h
  · exact ⟨_, _, _, _, rfl⟩
  · cases h
theorem vLc_eq {e el t it : Expr} {fs : List Expr} {scope : Scope} (h : vLc e = some (el, t, it, fs, scope)) : ∃ p, e = .ListComp el [⟨t, it, fs, 0⟩] scope p := by
  unfold vLc at h
  split at h <;> cases h
  exact ⟨_, rfl⟩
theorem vCall_eq {e : Expr} {nm : Str} {es : List Expr} (h : vCall e = some (nm, es)) : ∃ p pos, e = .Call (.Name nm p) es [] pos := by
  unfold vCall at h
  split at h <;> cases h
  exact ⟨_, _, rfl⟩
theorem vMeth_eq {e o : Expr} {nm : Str} {ap cp : Pos} {es : List Expr} (h : vMeth e = some (o, nm, ap, es, cp)) : e = .Call (.Attribute o nm ap) es [] cp := by
  unfold vMeth at h
  split at h <;> cases h
  rfl

/-! ### side conditions -/
def vis (sc : Scope) (nm : Str) : Bool := match sc.names.lookup nm with
  | some .local => true
  | some .cell => true
  | some .free => true
  | _ => false
theorem vis_ok {sc : Scope} {nm : Str} (h : vis sc nm = true) : Vis sc nm := by
  unfold vis at h
  split at h
  · exact .inl (by assumption)
  · exact .inr (.inl (by assumption))
  · exact .inr (.inr (by assumption))
  · cases h
def glb (sc : Scope) (nm : Str) : Bool := match sc.names.lookup nm with
  | some .globalImplicit => true
  | _ => false
theorem glb_ok {X : Cx} {sc : Scope} {nm : Str} (hs : X.env.scope = sc) (h : glb sc nm = true) : Gl X nm := by
  unfold glb at h
  split at h
  · show X.env.scope.names.lookup nm = some .globalImplicit
    rw [hs]
    assumption
  · cases h
/-- a store -/
def sto (sc : Scope) (fc : Str → Bool) (nm : Str) : Bool := match sc.names.lookup nm with
  | some .local => true
  | some .cell => fc nm
  | _ => false
theorem sto_ok {X : Cx} {sc : Scope} {fc : Str → Bool} {nm : Str} (hs : X.env.scope = sc) (hf : ∀ y, fc y = true → X.fn y = true) (h : sto sc fc nm = true) : Loc X.env.scope nm ∧ (X.fn nm = true ∨ X.env.scope.names.lookup nm = some .local) := by
  rw [hs]
  unfold sto at h
  split at h
  · rename_i e
    exact ⟨.inl e, .inr e⟩
  · rename_i e
    exact ⟨.inr e, .inl (hf nm h)⟩
  · cases h
def okN (nm : Str) : Bool := !(nm == ("__debug__" : Str)) && (!(nm == ("__classdict__" : Str)) && decide (nm ≠ ("__name__" : Str)))
theorem okN_ok {nm : Str} (h : okN nm = true) : (nm == ("__debug__" : Str)) = false ∧ (nm == ("__classdict__" : Str)) = false ∧ nm ≠ ("__name__" : Str) := by
  unfold okN at h
  rw [Bool.and_eq_true, Bool.and_eq_true] at h
  exact ⟨Bool.not_eq_true' _ ▸ h.1, Bool.not_eq_true' _ ▸ h.2.1, of_decide_eq_true h.2.2⟩
def kOk : D → Const → Bool
  | .int i, .int j => decide (i = j)
  | .bool a, .bool b => decide (a = b)
  | .none, .none => true
  | .str x, .str y => decide (x = y)
  | _, _ => false
theorem kOk_ok {c : D} {k : Const} (h : kOk c k = true) : (∃ i, c = .int i ∧ k = .int i) ∨ (∃ b, c = .bool b ∧ k = .bool b) ∨ (c = .none ∧ k = .none) ∨ ∃ z, c = .str z ∧ k = .str z := by
  unfold kOk at h
  split at h
  · cases of_decide_eq_true h
    exact .inl ⟨_, rfl, rfl⟩
  · cases of_decide_eq_true h
    exact .inr (.inl ⟨_, rfl, rfl⟩)
  · exact .inr (.inr (.inl ⟨rfl, rfl⟩))
  · cases of_decide_eq_true h
    exact .inr (.inr (.inr ⟨_, rfl, rfl⟩))
  · cases h
def notStar : Expr → Bool
  | .Starred .. => false
  | _ => true
theorem star_cons {env : Env} {e : Expr} (h : notStar e = true) (es : List Expr) : starEach (e :: es) env = (false, eval e env) :: starEach es env := by
  cases e <;> first | rfl | cases h
theorem star_any {env : Env} {pos : Pos} : ∀ {es : List Expr}, es.all notStar = true → (backTo pos (starEach es env)).any (·.1) = false
  | [], _ => rfl
  | e :: es, h => by
    rw [List.all_cons, Bool.and_eq_true] at h
    rw [star_cons h.1]
    show (false || (backTo pos (starEach es env)).any (·.1)) = false
    rw [star_any h.2]
    rfl
theorem assign_cons {env : Env} {e : Expr} (h : notStar e = true) (es : List Expr) : assignEach (e :: es) env = (false, assign e env) :: assignEach es env := by
  cases e <;> first | rfl | cases h
theorem assign_len {env : Env} : ∀ {es : List Expr}, es.all notStar = true → (assignEach es env).length = es.length
  | [], _ => rfl
  | e :: es, h => by
    rw [List.all_cons, Bool.and_eq_true] at h
    rw [assign_cons h.1, List.length_cons, List.length_cons, assign_len h.2]
theorem assign_find {env : Env} : ∀ {es : List Expr}, es.all notStar = true → (assignEach es env).findIdx? (·.1) = none
  | [], _ => rfl
  | e :: es, h => by
    rw [List.all_cons, Bool.and_eq_true] at h
    rw [assign_cons h.1, List.findIdx?_cons, assign_find h.2]
    rfl
/-- forms whose truth is their value's -/
def plainT : Expr → Bool
  | .UnaryOp .Not _ _ => false
  | .BoolOp .. => false
  | .IfExp .. => false
  | .Compare .. => false
  | _ => true
theorem plainT_ok {env : Env} {e : Expr} (h : plainT e = true) (whole : Sem Value) : isTrue e env whole = (do let v ← whole; standAt e.pos; holding [v] (truthy v)) := by
  cases e with
  | UnaryOp op a p =>
    cases op with
    | Not => cases h
    | _ => rfl
  | BoolOp _ _ _ => cases h
  | IfExp _ _ _ _ => cases h
  | Compare _ _ _ _ => cases h
  | _ => rfl
def notSuper : Expr → Bool
  | .Call .. => false
  | _ => true
theorem notSuper_ok {env : Env} {o : Expr} (nm : Str) (h : notSuper o = true) : attributeBase o nm env (eval o env) = eval o env := by
  cases o <;> first | rfl | cases h
def plainI : Expr → Bool
  | .Slice .. => false
  | .Starred .. => false
  | _ => true
theorem plainIx_of {b : Expr} (h : plainI b = true) : PlainIx b := by
  intro o i
  cases b <;> first | rfl | cases h
def notSet : Expr → Bool
  | .Set .. => false
  | _ => true
theorem notSet_ok {env : Env} {e : Expr} (h : notSet e = true) (x : Value) : foldedSetIterable e env x = pure x := by
  cases e <;> first | rfl | cases h
def notComp : Expr → Bool
  | .ListComp .. => false
  | .SetComp .. => false
  | .DictComp .. => false
  | _ => true
theorem notComp_ok {env : Env} {e : Expr} (h : notComp e = true) (t : Option Expr) (l : Nat) : swapsWith e t l env = pure false := by
  cases e <;> first | rfl | cases h
def notTup : Expr → Bool
  | .Tuple .. => false
  | _ => true
end DT

/-! The text of a def against its meaning: the check of an expression. -/
namespace DT
open PySem L2 PyProof.Rows
def bNm : Bl → Option Str
  | .len => some "len"
  | .tuple => some "tuple"
  | .list => some "list"
  | .int => some "int"
  | .abs => some "abs"
  | .sorted => some "sorted"
  | .all => some "all"
  | .any => some "any"
  | .sum => some "sum"
  | .max => some "max"
  | .max2 => some "max"
  | .maxT => some "max"
  | .min => some "min"
  | .min2 => some "min"
  | .repr => some "repr"
  | _ => none
/-- the built-in names that may stand in the text -/
def bltNames : List Str := ["len", "tuple", "list", "int", "abs", "sorted", "all", "any", "sum", "max", "min", "repr", "isinstance", "range", "enumerate", "zip", "bool", "str", "dict", "set"]
theorem bNm_ok : ∀ {b : Bl} {nm : Str}, bNm b = some nm → nm ∈ bltNames ∧ ((∃ id, blF b = some (.builtin id) ∧ bootBuiltins nm = some (.builtin id)) ∨ ∃ T, blF b = some (.type T) ∧ bootBuiltins nm = some (.type T)) := by
  intro b nm h
  cases b <;> first
    | (cases h; done)
    | (cases h; exact ⟨by decide +kernel, .inl ⟨_, rfl, by decide +kernel⟩⟩)
    | (cases h; exact ⟨by decide +kernel, .inr ⟨_, rfl, by decide +kernel⟩⟩)
def fcOf (scope : Scope) : Str → Bool := fun x => scope.names.lookup x == some .cell
def isAbs : Ex → Bool
  | .abs => true
  | _ => false

mutual
def chG (N : List Str) (sc : Scope) (fc : Str → Bool) : Tg → Expr → Bool
  | .n i, e => match vName e with
    | some nm => decide (N[i]? = some nm) && sto sc fc nm
    | none => false
  | .t ts, e => match vTup e with
    | some es => chGs N sc fc ts es
    | none => false
def chGs (N : List Str) (sc : Scope) (fc : Str → Bool) : List Tg → List Expr → Bool
  | [], [] => true
  | t :: ts, e :: es => notStar e && (chG N sc fc t e && chGs N sc fc ts es)
  | _, _ => false
end
/-- a comprehension's block -/
def chB (N : List Str) (sc scope : Scope) (is : List Nat) : Bool :=
  decide (scope.kind = .function) && (decide (∀ y ∈ scope.names, scope.names.lookup y.1 = some y.2) && (decide (∀ i ∈ is, (N[i]?).isSome = true) &&
    (decide (∀ y ∈ scope.names, y.2 = .free → sc.names.lookup y.1 = some .cell ∨ sc.names.lookup y.1 = some .free) && decide (∀ y ∈ scope.names, y.2 = .local ∨ y.2 = .cell → y.1 ∈ is.map (fun i => N.getD i "") ∨ y.1 ∉ N))))
def ownOf (N : List Str) (is : List Nat) : List (Str × Nat) := is.map fun i => (N.getD i "", i)
def chG1 (gls : List (Str × Int)) (sc : Scope) (nm : Str) : D → Bool
  | .int i => decide ((nm, i) ∈ gls) && (glb sc nm && okN nm)
  | _ => false
def chK (gls : List (Str × Int)) (sc : Scope) (c : D) (e : Expr) : Bool := match vConst e with
  | some k => kOk c k
  | none => match vName e with
    | some nm => chG1 gls sc nm c
    | none => false
def okI : ItK → Str → Nat → Bool
  | .rng1, nm, n => decide (nm = ("range" : Str)) && decide (n = 0)
  | .rng2, nm, n => decide (nm = ("range" : Str)) && decide (n = 1)
  | .enum, nm, n => decide (nm = ("enumerate" : Str)) && decide (n = 0)
  | .zip2, nm, n => decide (nm = ("zip" : Str)) && decide (n = 1)
  | _, _, _ => false
section
variable (gls : List (Str × Int)) (nms : List (Str × Nat)) (lim : Nat) (N : List Str)
mutual

def chE : Ex → Bool → Scope → (Str → Bool) → Expr → Bool
  | .v i, t, sc, _, e => (!t || plainT e) && match vName e with
    | some nm => decide (N[i]? = some nm) && (vis sc nm && okN nm)
    | none => false
  | .k c, t, sc, _, e => (!t || plainT e) && chK gls sc c e
  | .tup es, t, sc, fc, e => (!t || plainT e) && match vTup e with
    | some xs => chL es false sc fc xs && decide (lenE es ≤ 1000)
    | none => false
  | .lst es, t, sc, fc, e => (!t || plainT e) && match vLst e with
    | some xs => chL es false sc fc xs && decide (lenE es ≤ 1000)
    | none => false
  | .bin o a b, t, sc, fc, e => (!t || plainT e) && match vBin e with
    | some (l, op, r) => decide (op = bop o) && (chE a false sc fc l && chE b false sc fc r)
    | none => false
  | .neg a, t, sc, fc, e => (!t || plainT e) && match vNeg e with
    | some x => chE a false sc fc x
    | none => false
  | .not a, t, sc, fc, e => match vNot e with
    | some x => chE a t sc fc x
    | none => false
  | .and es, t, sc, fc, e => match vAnd e with
    | some xs => chL es t sc fc xs && decide (0 < lenE es)
    | none => false
  | .or es, t, sc, fc, e => match vOr e with
    | some xs => chL es t sc fc xs && decide (0 < lenE es)
    | none => false
  | .cmp a cs, _, sc, fc, e => match vCmp e with
    | some (l, ops, rs) => chE a false sc fc l && (chC cs sc fc ops rs && !lastMarks ops rs)
    | none => false
  | .ite c a b, t, sc, fc, e => !t && match vIf e with
    | some (x, y, z) => chE c true sc fc x && (chE a false sc fc y && chE b false sc fc z)
    | none => false
  | .ix a i, t, sc, fc, e => (!t || plainT e) && match vSub e with
    | some (o, s) => chE a false sc fc o && (chE i false sc fc s && plainI s)
    | none => false
  | .sl a lo hi, t, sc, fc, e => (!t || plainT e) && match vSub e with
    | some (o, s) => chE a false sc fc o && match vPart s with
      | some (l, h) => (match l with
        | none => isAbs lo
        | some l' => chE lo false sc fc l') && (match h with
        | none => isAbs hi
        | some h' => chE hi false sc fc h')
      | none => false
    | none => false
  | .rev a, t, sc, fc, e => (!t || plainT e) && match vSub e with
    | some (o, s) => chE a false sc fc o && vBack s
    | none => false
  | .abs, _, _, _, _ => false
  | .comp elt tg ik ss ifs, t, sc, fc, e => (!t || plainT e) && match vLc e with
    | some (el, te, it, fs, scope) => chB N sc scope (slotsT tg) && (chG N (relS scope sc) (fcOf scope) tg te && ((!pairK ik || (isT tg && (vTup te).isSome)) && (notSet it &&
        (chI ik ss sc fc it && (chE elt false (relS scope sc) (fcOf scope) el && (match ifs, fs with
          | .nil, [] => true
          | .cons c .nil, [f] => chE c true (relS scope sc) (fcOf scope) f
          | _, _ => false))))))
    | none => false
  | .call f args, t, sc, fc, e => (!t || plainT e) && match vCall e with
    | some (nm, xs) => decide (nms[f]? = some (nm, lenR args)) && (decide (f < lim) && (glb sc nm && (okN nm && (chR args sc fc xs && !xs.isEmpty))))
    | none => false
  | .blt b es, t, sc, fc, e => (!t || plainT e) && match vCall e with
    | some (nm, xs) => glb sc nm && match b with
      | .isi ty => decide (nm = ("isinstance" : Str)) && (match es, xs with
        | .cons xa .nil, [x, y] => chE xa false sc fc x && (notStar x && (decide (vName y = some (Str.ofString (tyS ty))) && glb sc (Str.ofString (tyS ty))))
        | _, _ => false)
      | .listR1 => decide (nm = ("list" : Str)) && (match es, xs with
        | .cons xa .nil, [x] => (match vCall x with
          | some (nm', [y]) => decide (nm' = ("range" : Str)) && (glb sc ("range" : Str) && (chE xa false sc fc y && notStar y))
          | _ => false)
        | _, _ => false)
      | .tupR1 => decide (nm = ("tuple" : Str)) && (match es, xs with
        | .cons xa .nil, [x] => (match vCall x with
          | some (nm', [y]) => decide (nm' = ("range" : Str)) && (glb sc ("range" : Str) && (chE xa false sc fc y && notStar y))
          | _ => false)
        | _, _ => false)
      | .lenDict => decide (nm = ("len" : Str)) && (match es, xs with
        | .cons xa .nil, [x] => (match vCall x with
          | some (nm', [y]) => decide (nm' = ("dict" : Str)) && (glb sc ("dict" : Str) && (chE xa false sc fc y && notStar y))
          | _ => false)
        | _, _ => false)
      | .lenSet => decide (nm = ("len" : Str)) && (match es, xs with
        | .cons xa .nil, [x] => (match vCall x with
          | some (nm', [y]) => decide (nm' = ("set" : Str)) && (glb sc ("set" : Str) && (chE xa false sc fc y && notStar y))
          | _ => false)
        | _, _ => false)
      | .sortSet => decide (nm = ("sorted" : Str)) && (match es, xs with
        | .cons xa .nil, [x] => (match vCall x with
          | some (nm', [y]) => decide (nm' = ("set" : Str)) && (glb sc ("set" : Str) && (chE xa false sc fc y && notStar y))
          | _ => false)
        | _, _ => false)
      | .listR2 => decide (nm = ("list" : Str)) && (match es, xs with
        | .cons xa (.cons xb .nil), [x] => (match vCall x with
          | some (nm', [y, z]) => decide (nm' = ("range" : Str)) && (glb sc ("range" : Str) && (chE xa false sc fc y && (notStar y && (chE xb false sc fc z && notStar z))))
          | _ => false)
        | _, _ => false)
      | b => decide (bNm b = some nm) && (okN nm && (chL es false sc fc xs && !xs.isEmpty))
    | none => false
  | .meth m o es, t, sc, fc, e => (!t || plainT e) && match vMeth e with
    | some (x, nm, ap, xs, cp) => (match m, es, xs with
      | .index, .cons xa .nil, [y] => decide (nm = ("index" : Str)) && (FZ && (chE o false sc fc x && (notSuper x && (chE xa false sc fc y && (notStar y && (ap.endLine == cp.line))))))
      | .get, .cons xa (.cons xb .nil), [y, z] => decide (nm = ("get" : Str)) && (chE o false sc fc x && (notSuper x && (chE xa false sc fc y && (notStar y && (chE xb false sc fc z && (notStar z && (ap.endLine == cp.line)))))))
      | _, _, _ => false)
    | none => false
  | .dnew _, t, _, _, e => (!t || plainT e) && vDict0 e
  | .disp d fl es, t, sc, fc, e => (!t || plainT e) && (match (if d = true then vTup e else vLst e) with
    | some xs => chP es fl sc fc xs
    | none => false)
  | .sabs a, t, sc, fc, e => (!t || plainT e) && (match vSabs e with
    | some x => glb sc "sorted" && (glb sc "abs" && (chE a false sc fc x && notStar x))
    | none => false)
def chL : Exs → Bool → Scope → (Str → Bool) → List Expr → Bool
  | .nil, _, _, _, [] => true
  | .cons x r, t, sc, fc, e :: es => notStar e && (chE x t sc fc e && chL r t sc fc es)
  | _, _, _, _, _ => false
def chP : Exs → List Bool → Scope → (Str → Bool) → List Expr → Bool
  | .nil, [], _, _, [] => true
  | .cons x r, false :: fl, sc, fc, e :: es => notStar e && (chE x false sc fc e && chP r fl sc fc es)
  | .cons x r, true :: fl, sc, fc, e :: es => (match vStar e with
    | some e' => chE x false sc fc e'
    | none => false) && chP r fl sc fc es
  | _, _, _, _, _ => false
def chC : Cps → Scope → (Str → Bool) → List CmpOp → List Expr → Bool
  | .cons o x .nil, sc, fc, [op], [e] => decide (op = cop o) && chE x false sc fc e
  | .cons o x r, sc, fc, op :: ops, e :: es => decide (op = cop o) && (chE x false sc fc e && chC r sc fc ops es)
  | _, _, _, _, _ => false
def chR : Ars → Scope → (Str → Bool) → List Expr → Bool
  | .nil, _, _, [] => true
  | .src i r, sc, fc, e :: es => (match vName e with
    | some nm => decide (N[i]? = some nm) && (vis sc nm && okN nm)
    | none => false) && chR r sc fc es
  | .ex x r, sc, fc, e :: es => notStar e && (chE x false sc fc e && chR r sc fc es)
  | _, _, _, _ => false
def chI : ItK → Exs → Scope → (Str → Bool) → Expr → Bool
  | .seq, .cons x .nil, sc, fc, e => chE x false sc fc e
  | ik, .cons x r, sc, fc, e => match vCall e with
    | some (nm, e1 :: es) => glb sc nm && (okI ik nm es.length && (notStar e1 && (chE x false sc fc e1 && chL r false sc fc es)))
    | _ => false
  | _, .nil, _, _, _ => false
end
end
end DT

/-! The check is sound: expressions. -/
namespace DT
open PySem L2 PyProof.Rows
structure Cok (F : List Fn) (gls : List (Str × Int)) (nms : List (Str × Nat)) (lim lev : Nat) (N : List Str) (X : Cx) (sc : Scope) (fc : Str → Bool) : Prop where
  calm : X.calm = true
  hN : X.N = N
  nd : X.N.Nodup
  hsc : X.env.scope = sc
  kind : sc.kind = .function
  room : Room lev X.A
  gd : X.A.guards = some []
  mgB : ∀ nm, nm ∈ bltNames → X.mg nm = none
  fnc : ∀ nm, fc nm = true → X.fn nm = true
  glo : ∀ nm i, (nm, i) ∈ gls → ∃ t, X.mg nm = some (.int i t)
  tab : ∀ i nm n h, i < lim → nms[i]? = some (nm, n) → F[i]? = some h → ∃ (f : Addr) (fd : FuncData) (ps : List Str), ps.length = n ∧ X.mg nm = some (.ref f) ∧ PySem.W.keepIn X.K (.ref f) = true ∧ Binds X.K fd ps [] ∧ FnG X.prog X.w X.K X.mg X.base lev f fd ps (spF ps.length h)
section
variable {F : List Fn} {gls : List (Str × Int)} {nms : List (Str × Nat)} {lim lev : Nat} {N : List Str}
theorem Cok.hu {X : Cx} {sc : Scope} {fc : Str → Bool} (C : Cok F gls nms lim lev N X sc fc) : X.A.units + 65 < cLine := by
  have := C.room.un
  omega
theorem Cok.blk {X : Cx} {sc : Scope} {fc : Str → Bool} (C : Cok F gls nms lim lev N X sc fc) {scope : Scope} (hk : scope.kind = .function) (s : Shared) (H : Hp) (A : Addr) (cl : List (Str × Addr)) (fp : List Addr) :
    Cok F gls nms lim lev N (X.blk s H scope (compEnvC scope cl A X.env) fp) (relS scope sc) (fcOf scope) := by
  refine ⟨C.calm, C.hN, C.nd, ?_, hk, C.room, C.gd, C.mgB, fun nm h => h, C.glo, C.tab⟩
  rw [← C.hsc]
  rfl
theorem ba {a b : Bool} (h : (a && b) = true) : a = true ∧ b = true := Bool.and_eq_true_iff.mp h
/-- a form that is no test of its own -/
theorem fin_ {X : Cx} {e : Expr} {x : Ex} {R : Bool} (h : R = true → PE X e (tX F x)) : (((!false || plainT e) && R) = true → PE X e (tX F x)) ∧ (((!true || plainT e) && R) = true → PT X e (tC F x)) :=
  ⟨fun z => h (ba z).2, fun z => pt_D (h (ba z).2) fun w => plainT_ok (by simpa using (ba z).1) w⟩
theorem two_ {A B : Prop} {t : Bool} {R : Bool → Bool} (h : (R false = true → A) ∧ (R true = true → B)) : R t = true → if t = true then B else A := by
  cases t with
  | true => exact fun z => h.2 z
  | false => exact fun z => h.1 z
/-! ### targets -/
mutual
theorem sG {X : Cx} {sc : Scope} {fc : Str → Bool} (C : Cok F gls nms lim lev N X sc fc) : ∀ (t : Tg) (e : Expr), chG N sc fc t e = true → PG X e (gD X.K t)
  | .n i, e, h => by
    unfold chG at h
    cases v : vName e with
    | none => rw [v] at h; cases h
    | some nm =>
      rw [v] at h
      obtain ⟨p, rfl⟩ := vName_eq v
      obtain ⟨h1, h2⟩ := ba h
      obtain ⟨l1, l2⟩ := sto_ok C.hsc C.fnc h2
      exact pg_nameD C.nd (by rw [C.hN]; exact of_decide_eq_true h1) l1 l2
  | .t ts, e, h => by
    unfold chG at h
    cases v : vTup e with
    | none => rw [v] at h; cases h
    | some es =>
      rw [v] at h
      obtain ⟨k, p, rfl⟩ := vTup_eq v
      obtain ⟨q, st, ln⟩ := sGs C ts es h
      exact pg_tupD C.calm q (by rw [assign_len st, ln]) (assign_find st)
theorem sGs {X : Cx} {sc : Scope} {fc : Str → Bool} (C : Cok F gls nms lim lev N X sc fc) : ∀ (ts : List Tg) (es : List Expr), chGs N sc fc ts es = true → PGs X es (gDs X.K ts) ∧ es.all notStar = true ∧ es.length = ts.length
  | [], [], _ => ⟨pgs_nilD, rfl, rfl⟩
  | t :: ts, e :: es, h => by
    unfold chGs at h
    obtain ⟨h1, h2⟩ := ba h
    obtain ⟨h3, h4⟩ := ba h2
    obtain ⟨q, st, ln⟩ := sGs C ts es h4
    refine ⟨pgs_consD (sG C t e h3) q (by rw [assign_cons h1]; rfl), by rw [List.all_cons, h1, st]; rfl, by rw [List.length_cons, List.length_cons, ln]⟩
  | [], _ :: _, h => by
    unfold chGs at h
    cases h
  | _ :: _, [], h => by
    unfold chGs at h
    cases h
end
theorem chB_ok {sc scope : Scope} {is : List Nat} (h : chB N sc scope is = true) : BlkOk N sc scope (ownOf N is) ∧ (ownOf N is).map (·.2) = is ∧ scope.kind = .function := by
  unfold chB at h
  obtain ⟨h1, h⟩ := ba h
  obtain ⟨h2, h⟩ := ba h
  obtain ⟨h3, h⟩ := ba h
  obtain ⟨h4, h5⟩ := ba h
  have h1 := of_decide_eq_true h1
  have h2 := of_decide_eq_true h2
  have h3 := of_decide_eq_true h3
  have h4 := of_decide_eq_true h4
  have h5 := of_decide_eq_true h5
  refine ⟨⟨h1, h2, fun p hp => ?_, h4, fun y hy hk => ?_⟩, ?_, h1⟩
  · obtain ⟨i, hi, rfl⟩ := List.mem_map.mp hp
    have q := h3 i hi
    obtain ⟨x, e⟩ := Option.isSome_iff_exists.mp q
    have z : N.getD i "" = x := by
      rw [List.getD_eq_getElem?_getD, e]
      rfl
    show N[i]? = some (N.getD i "")
    rw [z]
    exact e
  · rcases h5 y hy hk with z | z
    · refine .inl ?_
      unfold ownOf
      rw [List.map_map]
      exact z
    · exact .inr z
  · unfold ownOf
    rw [List.map_map]
    exact List.map_id is
end
end DT

/-! The check is sound: expressions, all forms. -/
namespace DT
open PySem L2 PyProof.Rows
section
variable {F : List Fn} {gls : List (Str × Int)} {nms : List (Str × Nat)} {lim lev : Nat} {N : List Str}
theorem pe_gloD {X : Cx} {nm : Str} {i : Int} {t : Tok} {p : Pos} (hg : Gl X nm) (hm : X.mg nm = some (.int i t)) (hd : (nm == ("__debug__" : Str)) = false) : PE X (.Name nm p) (tX F (.k (.int i))) := by
  refine ⟨fun pins s σ H Q I h' => ?_⟩
  obtain ⟨M0, sa, N, ρ, g, d, g', S, e, q⟩ := h'
  rw [ev] at e
  obtain ⟨rfl, rfl⟩ := ret_some e
  exact ld_glob I hg hm ⟨.int i, H, I, ⟨t, rfl⟩, q _ H (.int S i)⟩ hd
theorem isAbs_eq {x : Ex} (h : isAbs x = true) : x = .abs := by
  cases x <;> first | rfl | cases h
theorem notAbs {x : Ex} {t : Bool} {sc : Scope} {fc : Str → Bool} {e : Expr} (h : chE gls nms lim N x t sc fc e = true) : x ≠ .abs := fun z => by
  subst z
  rw [chE] at h
  cases h
theorem emp {α : Type} {xs : List α} (h : (!xs.isEmpty) = true) : ∃ y ys, xs = y :: ys := by
  cases xs with
  | nil => cases h
  | cons y ys => exact ⟨y, ys, rfl⟩
theorem few_one {env : Env} {pos : Pos} {e : Expr} (h : notStar e = true) : ((backTo pos (starEach [e] env)).all (fun x => !x.1) && (backToKw pos (keywordEach [] env)).all (fun x => x.1.isSome) && decide ([e].length + ([] : List Keyword).length + (if ([] : List Keyword).isEmpty then 0 else 1) < 30)) = true := by
  rw [star_cons h]
  rfl
theorem bltDef {X : Cx} {sc : Scope} {fc : Str → Bool} (C : Cok F gls nms lim lev N X sc fc) {b : Bl} {es : Exs} {xs : List Expr} {nm : Str} {p pos : Pos} (hg : glb sc nm = true) (h1 : bNm b = some nm) (h2 : okN nm = true) (ha : PA X xs (tA F es)) (st : xs.all notStar = true) (h3 : (!xs.isEmpty) = true) : PE X (.Call (.Name nm p) xs [] pos) (tX F (.blt b es)) := by
  obtain ⟨y, ys, rfl⟩ := emp h3
  rw [List.all_cons] at st
  obtain ⟨s1, s2⟩ := ba st
  obtain ⟨o1, o2, o3⟩ := okN_ok h2
  obtain ⟨hm, z⟩ := bNm_ok h1
  rcases z with ⟨id, z1, z2⟩ | ⟨T, z1, z2⟩
  · exact pe_bltD C.calm C.gd C.room z1 (glb_ok C.hsc hg) (C.mgB nm hm) z2 ha o3 o1 (star_cons s1 _) (star_any s2)
  · exact pe_bltTyD C.calm C.gd C.room z1 (glb_ok C.hsc hg) (C.mgB nm hm) z2 ha o3 o1 (star_cons s1 _) (star_any s2)
theorem mem_blt {nm : Str} (h : nm = "isinstance" ∨ nm = "range" ∨ nm = "enumerate" ∨ nm = "zip" ∨ nm = "list") : nm ∈ bltNames := by
  rcases h with rfl | rfl | rfl | rfl | rfl <;> decide +kernel
theorem ty_mem (t : Ty) : Str.ofString (tyS t) ∈ bltNames := by
  cases t <;> decide +kernel
mutual
theorem sE : ∀ (x : Ex) (X : Cx) (sc : Scope) (fc : Str → Bool) (e : Expr), Cok F gls nms lim lev N X sc fc → (chE gls nms lim N x false sc fc e = true → PE X e (tX F x)) ∧ (chE gls nms lim N x true sc fc e = true → PT X e (tC F x))
  | .v i, X, sc, fc, e, C => by
    rw [chE, chE]
    refine fin_ fun h => ?_
    cases v : vName e with
    | none => rw [v] at h; cases h
    | some nm =>
      rw [v] at h
      obtain ⟨p, rfl⟩ := vName_eq v
      obtain ⟨h1, h⟩ := ba h
      obtain ⟨h2, h3⟩ := ba h
      obtain ⟨o1, o2, _⟩ := okN_ok h3
      exact pe_vD (by rw [C.hN]; exact of_decide_eq_true h1) (by rw [C.hsc]; exact vis_ok h2) o1 o2
  | .k c, X, sc, fc, e, C => by
    rw [chE, chE]
    refine fin_ fun h => ?_
    unfold chK at h
    cases v : vConst e with
    | none =>
      rw [v] at h
      dsimp only at h
      cases w : vName e with
      | none => rw [w] at h; cases h
      | some nm =>
        rw [w] at h
        obtain ⟨p, rfl⟩ := vName_eq w
        unfold chG1 at h
        cases c with
        | int i =>
          obtain ⟨h1, h⟩ := ba h
          obtain ⟨h2, h3⟩ := ba h
          obtain ⟨t, ht⟩ := C.glo nm i (of_decide_eq_true h1)
          exact pe_gloD (glb_ok C.hsc h2) ht (okN_ok h3).1
        | _ => cases h
    | some k =>
      rw [v] at h
      obtain ⟨j, p, rfl⟩ := vConst_eq v
      exact pe_kD (kOk_ok h)
  | .tup es, X, sc, fc, e, C => by
    rw [chE, chE]
    refine fin_ fun h => ?_
    cases v : vTup e with
    | none => rw [v] at h; cases h
    | some xs =>
      rw [v] at h
      obtain ⟨k, p, rfl⟩ := vTup_eq v
      obtain ⟨h1, h2⟩ := ba h
      exact pe_tupD ((sL es X sc fc xs C).1 h1).1 (of_decide_eq_true h2)
  | .lst es, X, sc, fc, e, C => by
    rw [chE, chE]
    refine fin_ fun h => ?_
    cases v : vLst e with
    | none => rw [v] at h; cases h
    | some xs =>
      rw [v] at h
      obtain ⟨p, rfl⟩ := vLst_eq v
      obtain ⟨h1, h2⟩ := ba h
      exact pe_lstD ((sL es X sc fc xs C).1 h1).1 (of_decide_eq_true h2)
  | .bin o a b, X, sc, fc, e, C => by
    rw [chE, chE]
    refine fin_ fun h => ?_
    cases v : vBin e with
    | none => rw [v] at h; cases h
    | some q =>
      obtain ⟨l, op, r⟩ := q
      rw [v] at h
      obtain ⟨p, rfl⟩ := vBin_eq v
      obtain ⟨h1, h⟩ := ba h
      obtain ⟨h2, h3⟩ := ba h
      cases of_decide_eq_true h1
      exact pe_binD ((sE a X sc fc l C).1 h2) ((sE b X sc fc r C).1 h3)
  | .neg a, X, sc, fc, e, C => by
    rw [chE, chE]
    refine fin_ fun h => ?_
    cases v : vNeg e with
    | none => rw [v] at h; cases h
    | some x =>
      rw [v] at h
      obtain ⟨p, rfl⟩ := vNeg_eq v
      exact pe_negD ((sE a X sc fc x C).1 h)
  | .not a, X, sc, fc, e, C => by
    rw [chE, chE]
    cases v : vNot e with
    | none => exact ⟨fun h => (by cases h), fun h => (by cases h)⟩
    | some x =>
      obtain ⟨p, rfl⟩ := vNot_eq v
      exact ⟨fun h => pe_notD ((sE a X sc fc x C).1 h), fun h => pt_notD ((sE a X sc fc x C).2 h)⟩
  | .and es, X, sc, fc, e, C => by
    rw [chE, chE]
    cases v : vAnd e with
    | none => exact ⟨fun h => (by cases h), fun h => (by cases h)⟩
    | some xs =>
      obtain ⟨p, rfl⟩ := vAnd_eq v
      exact ⟨fun h => pe_ofA (((sL es X sc fc xs C).1 (ba h).1).2.2 (of_decide_eq_true (ba h).2) p).1, fun h => pt_ofA ((sL es X sc fc xs C).2 (ba h).1 (of_decide_eq_true (ba h).2) p).1⟩
  | .or es, X, sc, fc, e, C => by
    rw [chE, chE]
    cases v : vOr e with
    | none => exact ⟨fun h => (by cases h), fun h => (by cases h)⟩
    | some xs =>
      obtain ⟨p, rfl⟩ := vOr_eq v
      exact ⟨fun h => pe_ofO (((sL es X sc fc xs C).1 (ba h).1).2.2 (of_decide_eq_true (ba h).2) p).2, fun h => pt_ofO ((sL es X sc fc xs C).2 (ba h).1 (of_decide_eq_true (ba h).2) p).2⟩
  | .cmp a cs, X, sc, fc, e, C => by
    rw [chE, chE]
    cases v : vCmp e with
    | none => exact ⟨fun h => (by cases h), fun h => (by cases h)⟩
    | some q =>
      obtain ⟨l, ops, rs⟩ := q
      obtain ⟨p, rfl⟩ := vCmp_eq v
      refine ⟨fun h => ?_, fun h => ?_⟩
      · obtain ⟨h1, h⟩ := ba h
        obtain ⟨h2, h3⟩ := ba h
        exact pe_cmpD (Bool.not_eq_true' _ ▸ h3) ((sE a X sc fc l C).1 h1) (sC cs X sc fc ops rs C h2)
      · obtain ⟨h1, h⟩ := ba h
        obtain ⟨h2, h3⟩ := ba h
        exact pt_cmpD (Bool.not_eq_true' _ ▸ h3) ((sE a X sc fc l C).1 h1) (sC cs X sc fc ops rs C h2)
  | .ite c a b, X, sc, fc, e, C => by
    rw [chE, chE]
    refine ⟨fun h => ?_, fun h => (by cases h)⟩
    have g := (ba h).2
    clear h
    cases v : vIf e with
    | none => rw [v] at g; cases g
    | some q =>
      obtain ⟨x, y, z⟩ := q
      rw [v] at g
      obtain ⟨p, rfl⟩ := vIf_eq v
      obtain ⟨h1, g1⟩ := ba g
      obtain ⟨h2, h3⟩ := ba g1
      exact pe_iteD ((sE c X sc fc x C).2 h1) ((sE a X sc fc y C).1 h2) ((sE b X sc fc z C).1 h3)
  | .ix a i, X, sc, fc, e, C => by
    rw [chE, chE]
    refine fin_ fun h => ?_
    cases v : vSub e with
    | none => rw [v] at h; cases h
    | some q =>
      obtain ⟨o, s⟩ := q
      rw [v] at h
      obtain ⟨p, rfl⟩ := vSub_eq v
      obtain ⟨h1, h⟩ := ba h
      obtain ⟨h2, h3⟩ := ba h
      exact pe_ixD C.hu ((sE a X sc fc o C).1 h1) ((sE i X sc fc s C).1 h2) (plainIx_of h3)
  | .sl a lo hi, X, sc, fc, e, C => by
    rw [chE, chE]
    refine fin_ fun h => ?_
    cases v : vSub e with
    | none => rw [v] at h; cases h
    | some q =>
      obtain ⟨o, s⟩ := q
      rw [v] at h
      obtain ⟨p, rfl⟩ := vSub_eq v
      obtain ⟨h1, g1⟩ := ba h
      clear h
      cases w : vPart s with
      | none => rw [w] at g1; cases g1
      | some q =>
        obtain ⟨l, u⟩ := q
        rw [w] at g1
        obtain ⟨p2, rfl⟩ := vPart_eq w
        clear w v
        obtain ⟨h2, h3⟩ := ba g1
        clear g1
        refine pe_slD ((sE a X sc fc o C).1 h1) ?_ ?_
        · cases l with
          | none =>
            rw [isAbs_eq h2]
            exact po_noneD
          | some l' => exact po_someD ((sE lo X sc fc l' C).1 h2) (notAbs h2)
        · cases u with
          | none =>
            rw [isAbs_eq h3]
            exact po_noneD
          | some u' => exact po_someD ((sE hi X sc fc u' C).1 h3) (notAbs h3)
  | .rev a, X, sc, fc, e, C => by
    rw [chE, chE]
    refine fin_ fun h => ?_
    cases v : vSub e with
    | none => rw [v] at h; cases h
    | some q =>
      obtain ⟨o, s⟩ := q
      rw [v] at h
      obtain ⟨p, rfl⟩ := vSub_eq v
      obtain ⟨h1, h2⟩ := ba h
      obtain ⟨k, p1, p2, p3, rfl⟩ := vBack_eq h2
      exact pe_revD ((sE a X sc fc o C).1 h1)
  | .abs, X, sc, fc, e, C => by
    rw [chE, chE]
    exact ⟨fun h => (by cases h), fun h => (by cases h)⟩
  | .comp elt tg ik ss ifs, X, sc, fc, e, C => by
    rw [chE, chE]
    refine fin_ fun h => ?_
    cases v : vLc e with
    | none => rw [v] at h; cases h
    | some q =>
      obtain ⟨el, te, it, fs, scope⟩ := q
      rw [v] at h
      obtain ⟨p, rfl⟩ := vLc_eq v
      obtain ⟨h1, h⟩ := ba h
      obtain ⟨h2, h⟩ := ba h
      obtain ⟨h3, h⟩ := ba h
      obtain ⟨h4, h⟩ := ba h
      obtain ⟨h5, h⟩ := ba h
      obtain ⟨h6, h7⟩ := ba h
      obtain ⟨ok, own, hk⟩ := chB_ok h1
      have hcp : pairK ik = true → isT tg = true ∧ ∃ elts k p, te = .Tuple elts k p := fun z => by
        rw [z] at h3
        obtain ⟨i1, i2⟩ := ba (show (isT tg && (vTup te).isSome) = true from h3)
        obtain ⟨xs, w⟩ := Option.isSome_iff_exists.mp i2
        obtain ⟨k, p, rfl⟩ := vTup_eq w
        exact ⟨i1, xs, k, p, rfl⟩
      have ok' : BlkOk X.N X.env.scope scope (ownOf N (slotsT tg)) := by
        rw [C.hN, C.hsc]
        exact ok
      refine pe_lcD (fun _ z => (hcp z).1) C.calm C.nd (sI ss ik X sc fc it C h5 te fun z => (hcp z).2) ok' own (fun s H A cl fp => ?_) (fun s H A cl fp => ?_) (fun s H A cl fp => ?_) (notSet_ok h4)
      · exact sG (C.blk hk s H A cl fp) tg te h2
      · have C' := C.blk hk s H A cl fp
        cases ifs with
        | nil =>
          cases fs with
          | nil => exact pts_nilD
          | cons f fs => cases h7
        | cons c r =>
          cases r with
          | nil =>
            cases fs with
            | nil => cases h7
            | cons f fs =>
              cases fs with
              | nil => exact pts_oneD ((sE c _ _ _ f C').2 h7)
              | cons f' fs => cases h7
          | cons c' r' =>
            cases fs with
            | nil => cases h7
            | cons f fs => cases h7
      · exact (sE elt _ _ _ el (C.blk hk s H A cl fp)).1 h6
  | .call f args, X, sc, fc, e, C => by
    rw [chE, chE]
    refine fin_ fun h => ?_
    cases v : vCall e with
    | none => rw [v] at h; cases h
    | some q =>
      obtain ⟨nm, xs⟩ := q
      rw [v] at h
      obtain ⟨p, pos, rfl⟩ := vCall_eq v
      obtain ⟨h1, h⟩ := ba h
      obtain ⟨h2, h⟩ := ba h
      obtain ⟨h3, h⟩ := ba h
      obtain ⟨h4, h⟩ := ba h
      obtain ⟨h5, h6⟩ := ba h
      obtain ⟨y, ys, rfl⟩ := emp h6
      obtain ⟨pr, st⟩ := sR args X sc fc (y :: ys) C h5
      rw [List.all_cons] at st
      obtain ⟨s1, s2⟩ := ba st
      obtain ⟨o1, _, _⟩ := okN_ok h4
      cases hF : F[f]? with
      | none =>
        refine ⟨fun pins s σ H Q I z => ?_⟩
        obtain ⟨M0, sa, N', ρ, g, d, g', S, e, q⟩ := z
        rw [ev] at e
        obtain ⟨as, g1, e1, f1⟩ := bnd_some e
        rw [hF] at f1
        cases f1
      | some hh =>
        obtain ⟨fa, fd, ps, l, q1, q2, q3, q4⟩ := C.tab f nm (lenR args) hh (of_decide_eq_true h2) (of_decide_eq_true h1) hF
        exact pe_callD hF l.symm q4 C.room C.gd (glb_ok C.hsc h3) q1 q2 q3 pr o1 (star_cons s1 _) (star_any s2)
  | .blt b es, X, sc, fc, e, C => by
    rw [chE, chE]
    refine fin_ fun h => ?_
    cases v : vCall e with
    | none => rw [v] at h; cases h
    | some q =>
      obtain ⟨nm, xs⟩ := q
      rw [v] at h
      obtain ⟨p, pos, rfl⟩ := vCall_eq v
      obtain ⟨h1, h⟩ := ba h
      have dflt : (decide (bNm b = some nm) && (okN nm && (chL gls nms lim N es false sc fc xs && !xs.isEmpty))) = true → PE X (.Call (.Name nm p) xs [] pos) (tX F (.blt b es)) := fun z => by
        obtain ⟨z1, z⟩ := ba z
        obtain ⟨z2, z⟩ := ba z
        obtain ⟨z3, z4⟩ := ba z
        obtain ⟨pa, st, _⟩ := (sL es X sc fc xs C).1 z3
        exact bltDef C h1 (of_decide_eq_true z1) z2 pa st z4
      cases b with
      | isi ty =>
        obtain ⟨i1, i2⟩ := ba h
        cases of_decide_eq_true i1
        match es, xs, i2 with
        | .cons xa .nil, [x, y], i2 =>
          obtain ⟨j1, i2⟩ := ba i2
          obtain ⟨j2, i2⟩ := ba i2
          obtain ⟨j3, j4⟩ := ba i2
          obtain ⟨p2, rfl⟩ := vName_eq (of_decide_eq_true j3)
          exact pe_isiD (glb_ok C.hsc h1) (C.mgB _ (mem_blt (.inl rfl))) (glb_ok C.hsc j4) (C.mgB _ (ty_mem ty)) ((sE xa X sc fc x C).1 j1) (star_cons j2 _) (by rfl)
      | listR1 =>
        obtain ⟨i1, i2⟩ := ba h
        cases of_decide_eq_true i1
        match es, xs, i2 with
        | .cons xa .nil, [x], i2 =>
          dsimp only at i2
          cases w : vCall x with
          | none => rw [w] at i2; cases i2
          | some q =>
            obtain ⟨nm', ys⟩ := q
            rw [w] at i2
            match ys, i2, w with
            | [y], i2, w =>
              obtain ⟨p2, q2, rfl⟩ := vCall_eq w
              obtain ⟨j1, i2⟩ := ba i2
              obtain ⟨j2, i2⟩ := ba i2
              obtain ⟨j3, j4⟩ := ba i2
              cases of_decide_eq_true j1
              exact pe_listR1D C.calm (glb_ok C.hsc h1) (C.mgB _ (mem_blt (.inr (.inr (.inr (.inr rfl)))))) (glb_ok C.hsc j2) (C.mgB _ (mem_blt (.inr (.inl rfl)))) ((sE xa X sc fc y C).1 j3) (star_cons j4 _) (by rfl)
      | tupR1 =>
        obtain ⟨i1, i2⟩ := ba h
        cases of_decide_eq_true i1
        match es, xs, i2 with
        | .cons xa .nil, [x], i2 =>
          dsimp only at i2
          cases w : vCall x with
          | none => rw [w] at i2; cases i2
          | some q =>
            obtain ⟨nm', ys⟩ := q
            rw [w] at i2
            match ys, i2, w with
            | [y], i2, w =>
              obtain ⟨p2, q2, rfl⟩ := vCall_eq w
              obtain ⟨j1, i2⟩ := ba i2
              obtain ⟨j2, i2⟩ := ba i2
              obtain ⟨j3, j4⟩ := ba i2
              cases of_decide_eq_true j1
              exact pe_tupR1D C.calm (glb_ok C.hsc h1) (C.mgB _ (by decide +kernel)) (glb_ok C.hsc j2) (C.mgB _ (mem_blt (.inr (.inl rfl)))) ((sE xa X sc fc y C).1 j3) (star_cons j4 _) (by rfl)
      | lenDict =>
        obtain ⟨i1, i2⟩ := ba h
        cases of_decide_eq_true i1
        match es, xs, i2 with
        | .cons xa .nil, [x], i2 =>
          dsimp only at i2
          cases w : vCall x with
          | none => rw [w] at i2; cases i2
          | some q =>
            obtain ⟨nm', ys⟩ := q
            rw [w] at i2
            match ys, i2, w with
            | [y], i2, w =>
              obtain ⟨p2, q2, rfl⟩ := vCall_eq w
              obtain ⟨j1, i2⟩ := ba i2
              obtain ⟨j2, i2⟩ := ba i2
              obtain ⟨j3, j4⟩ := ba i2
              cases of_decide_eq_true j1
              exact pe_lenDictD C.calm C.hu (glb_ok C.hsc h1) (C.mgB _ (by decide +kernel)) (glb_ok C.hsc j2) (C.mgB _ (by decide +kernel)) ((sE xa X sc fc y C).1 j3) (star_cons j4 _)
      | lenSet =>
        obtain ⟨i1, i2⟩ := ba h
        cases of_decide_eq_true i1
        match es, xs, i2 with
        | .cons xa .nil, [x], i2 =>
          dsimp only at i2
          cases w : vCall x with
          | none => rw [w] at i2; cases i2
          | some q =>
            obtain ⟨nm', ys⟩ := q
            rw [w] at i2
            match ys, i2, w with
            | [y], i2, w =>
              obtain ⟨p2, q2, rfl⟩ := vCall_eq w
              obtain ⟨j1, i2⟩ := ba i2
              obtain ⟨j2, i2⟩ := ba i2
              obtain ⟨j3, j4⟩ := ba i2
              cases of_decide_eq_true j1
              exact pe_lenSetL C.calm (glb_ok C.hsc h1) (C.mgB _ (by decide +kernel)) (glb_ok C.hsc j2) (C.mgB _ (by decide +kernel)) ((sE xa X sc fc y C).1 j3) (by have := C.hu; omega) (star_cons j4 _)
      | sortSet =>
        obtain ⟨i1, i2⟩ := ba h
        cases of_decide_eq_true i1
        match es, xs, i2 with
        | .cons xa .nil, [x], i2 =>
          dsimp only at i2
          cases w : vCall x with
          | none => rw [w] at i2; cases i2
          | some q =>
            obtain ⟨nm', ys⟩ := q
            rw [w] at i2
            match ys, i2, w with
            | [y], i2, w =>
              obtain ⟨p2, q2, rfl⟩ := vCall_eq w
              obtain ⟨j1, i2⟩ := ba i2
              obtain ⟨j2, i2⟩ := ba i2
              obtain ⟨j3, j4⟩ := ba i2
              cases of_decide_eq_true j1
              exact pe_sortSetD C.calm (glb_ok C.hsc h1) (C.mgB _ (by decide +kernel)) (glb_ok C.hsc j2) (C.mgB _ (by decide +kernel)) ((sE xa X sc fc y C).1 j3) (star_cons j4 _)
      | listR2 =>
        obtain ⟨i1, i2⟩ := ba h
        cases of_decide_eq_true i1
        match es, xs, i2 with
        | .cons xa (.cons xb .nil), [x], i2 =>
          dsimp only at i2
          cases w : vCall x with
          | none => rw [w] at i2; cases i2
          | some q =>
            obtain ⟨nm', ys⟩ := q
            rw [w] at i2
            match ys, i2, w with
            | [y, z], i2, w =>
              obtain ⟨p2, q2, rfl⟩ := vCall_eq w
              obtain ⟨j1, i2⟩ := ba i2
              obtain ⟨j2, i2⟩ := ba i2
              obtain ⟨j3, i2⟩ := ba i2
              obtain ⟨j4, i2⟩ := ba i2
              obtain ⟨j5, j6⟩ := ba i2
              cases of_decide_eq_true j1
              exact pe_listR2D C.calm (glb_ok C.hsc h1) (C.mgB _ (mem_blt (.inr (.inr (.inr (.inr rfl)))))) (glb_ok C.hsc j2) (C.mgB _ (mem_blt (.inr (.inl rfl)))) ((sE xa X sc fc y C).1 j3) ((sE xb X sc fc z C).1 j5) (star_cons j4 _) (star_cons j6 _) (star_any (by rw [List.all_cons, j6]; rfl)) (by rfl)
      | _ => exact dflt h
  | .meth m o es, X, sc, fc, e, C => by
    rw [chE, chE]
    refine fin_ fun h => ?_
    cases v : vMeth e with
    | none => rw [v] at h; cases h
    | some q =>
      obtain ⟨x, nm, ap, xs, cp⟩ := q
      rw [v] at h
      have ev := vMeth_eq v
      subst ev
      match m, es, xs, h with
      | .index, .cons xa .nil, [y], h =>
        obtain ⟨h1, h⟩ := ba h
        obtain ⟨h2, h⟩ := ba h
        obtain ⟨h3, h⟩ := ba h
        obtain ⟨h4, h⟩ := ba h
        obtain ⟨h5, h⟩ := ba h
        obtain ⟨h6, h7⟩ := ba h
        cases of_decide_eq_true h1
        exact pe_indexD h2 C.hu ((sE o X sc fc x C).1 h3) ((sE xa X sc fc y C).1 h5) (notSuper_ok _ h4) (few_one h6) h7 (star_cons h6 _) (by rfl)
      | .get, .cons xa (.cons xb .nil), [y, z], h =>
        obtain ⟨h1, h⟩ := ba h
        obtain ⟨h2, h⟩ := ba h
        obtain ⟨h3, h⟩ := ba h
        obtain ⟨h4, h⟩ := ba h
        obtain ⟨h5, h⟩ := ba h
        obtain ⟨h6, h⟩ := ba h
        obtain ⟨h7, h8⟩ := ba h
        cases of_decide_eq_true h1
        exact pe_getD C.hu ((sE o X sc fc x C).1 h2) ((sE xa X sc fc y C).1 h4) ((sE xb X sc fc z C).1 h6) (notSuper_ok _ h3) (by rw [star_cons h5, star_cons h7]; rfl) h8 (by rw [star_cons h5, star_cons h7]; rfl)
  | .dnew d, X, sc, fc, e, C => by
    rw [chE, chE]
    refine fin_ fun h => ?_
    obtain ⟨p, rfl⟩ := vDict0_eq h
    exact pe_dnewD
  | .disp d fl es, X, sc, fc, e, C => by
    rw [chE, chE]
    refine fin_ fun h => ?_
    cases d with
    | true =>
      rw [if_pos rfl] at h
      cases v : vTup e with
      | none => rw [v] at h; cases h
      | some xs =>
        rw [v] at h
        obtain ⟨k, p, rfl⟩ := vTup_eq v
        exact pe_dispT (sP es fl X sc fc xs C h)
    | false =>
      rw [if_neg Bool.false_ne_true] at h
      cases v : vLst e with
      | none => rw [v] at h; cases h
      | some xs =>
        rw [v] at h
        obtain ⟨p, rfl⟩ := vLst_eq v
        exact pe_dispL (sP es fl X sc fc xs C h)
  | .sabs a, X, sc, fc, e, C => by
    rw [chE, chE]
    refine fin_ fun h => ?_
    cases v : vSabs e with
    | none => rw [v] at h; cases h
    | some x =>
      rw [v] at h
      obtain ⟨p, p2, kp, pos, rfl⟩ := vSabs_eq v
      obtain ⟨h1, h⟩ := ba h
      obtain ⟨h2, h⟩ := ba h
      obtain ⟨h3, h4⟩ := ba h
      exact pe_sabsD C.calm C.room (glb_ok C.hsc h1) (C.mgB _ (by decide +kernel)) (glb_ok C.hsc h2) (C.mgB _ (by decide +kernel)) ((sE a X sc fc x C).1 h3) (star_cons h4 _)
theorem sP : ∀ (xs : Exs) (fl : List Bool) (X : Cx) (sc : Scope) (fc : Str → Bool) (es : List Expr), Cok F gls nms lim lev N X sc fc → chP gls nms lim N xs fl sc fc es = true → PA X es (tSp F fl xs)
  | .nil, fl, X, sc, fc, es, C, h => by
    match fl, es, h with
    | [], [], _ => exact pa_spn
    | [], _ :: _, h =>
      unfold chP at h
      cases h
    | _ :: _, _, h =>
      unfold chP at h
      cases h
  | .cons x r, fl, X, sc, fc, es, C, h => by
    match fl, es, h with
    | [], _, h =>
      unfold chP at h
      cases h
    | true :: fl, [], h =>
      unfold chP at h
      cases h
    | false :: fl, [], h =>
      unfold chP at h
      cases h
    | false :: fl, e :: es, h =>
      rw [chP] at h
      obtain ⟨h1, h⟩ := ba h
      obtain ⟨h2, h3⟩ := ba h
      exact pa_spf ((sE x X sc fc e C).1 h2) (sP r fl X sc fc es C h3) (star_cons h1 _)
    | true :: fl, e :: es, h =>
      rw [chP] at h
      obtain ⟨h1, h2⟩ := ba h
      cases v : vStar e with
      | none => rw [v] at h1; cases h1
      | some e' =>
        rw [v] at h1
        obtain ⟨p1, rfl⟩ := vStar_eq v
        exact pa_spt ((sE x X sc fc e' C).1 h1) (sP r fl X sc fc es C h2)
theorem sL : ∀ (xs : Exs) (X : Cx) (sc : Scope) (fc : Str → Bool) (es : List Expr), Cok F gls nms lim lev N X sc fc →
    (chL gls nms lim N xs false sc fc es = true → PA X es (tA F xs) ∧ es.all notStar = true ∧ (0 < lenE xs → ∀ pos, PE X (.BoolOp .And es pos) (tXA F xs) ∧ PE X (.BoolOp .Or es pos) (tXO F xs))) ∧
    (chL gls nms lim N xs true sc fc es = true → 0 < lenE xs → ∀ pos, PW X (.BoolOp .And es pos) (tCA F xs) ∧ PW X (.BoolOp .Or es pos) (tCO F xs))
  | .nil, X, sc, fc, es, C => by
    cases es with
    | nil => exact ⟨fun _ => ⟨pa_nilD, rfl, fun z => absurd z (Nat.lt_irrefl 0)⟩, fun _ z => absurd z (Nat.lt_irrefl 0)⟩
    | cons e es => exact ⟨fun h => (by rw [chL] at h <;> first | cases h | exact fun z => by cases z), fun h => (by rw [chL] at h <;> first | cases h | exact fun z => by cases z)⟩
  | .cons x r, X, sc, fc, es, C => by
    cases es with
    | nil => exact ⟨fun h => (by rw [chL] at h <;> first | cases h | exact fun _ _ _ _ z => by cases z), fun h => (by rw [chL] at h <;> first | cases h | exact fun _ _ _ _ z => by cases z)⟩
    | cons e es =>
      refine ⟨fun h => ?_, fun h _ pos => ?_⟩
      · rw [chL] at h
        obtain ⟨h1, h⟩ := ba h
        obtain ⟨h2, h3⟩ := ba h
        have pe := (sE x X sc fc e C).1 h2
        obtain ⟨pa, st, bo⟩ := (sL r X sc fc es C).1 h3
        refine ⟨pa_consD pe pa (star_cons h1 _), by rw [List.all_cons, h1, st]; rfl, fun _ pos => ?_⟩
        cases r with
        | nil =>
          cases es with
          | nil => exact ⟨pe_and1D pe, pe_or1D pe⟩
          | cons e' es' => rw [chL] at h3 <;> first | cases h3 | exact fun z => by cases z
        | cons y r' =>
          cases es with
          | nil => rw [chL] at h3 <;> first | cases h3 | exact fun _ _ _ _ z => by cases z
          | cons e' es' =>
            obtain ⟨b1, b2⟩ := bo (Nat.succ_pos _) pos
            exact ⟨pe_andD pe b1, pe_orD pe b2⟩
      · rw [chL] at h
        obtain ⟨h1, h⟩ := ba h
        obtain ⟨h2, h3⟩ := ba h
        have pt := (sE x X sc fc e C).2 h2
        have bo := (sL r X sc fc es C).2 h3
        cases r with
        | nil =>
          cases es with
          | nil => exact ⟨pw_and1D pt, pw_or1D pt⟩
          | cons e' es' => rw [chL] at h3 <;> first | cases h3 | exact fun z => by cases z
        | cons y r' =>
          cases es with
          | nil => rw [chL] at h3 <;> first | cases h3 | exact fun _ _ _ _ z => by cases z
          | cons e' es' =>
            obtain ⟨b1, b2⟩ := bo (Nat.succ_pos _) pos
            exact ⟨pw_andD pt b1, pw_orD pt b2⟩
theorem sC : ∀ (cs : Cps) (X : Cx) (sc : Scope) (fc : Str → Bool) (ops : List CmpOp) (es : List Expr), Cok F gls nms lim lev N X sc fc → chC gls nms lim N cs sc fc ops es = true → PCh X F ops es cs
  | .nil, X, sc, fc, ops, es, C, h => by
    unfold chC at h
    cases h
  | .cons o x .nil, X, sc, fc, ops, es, C, h => by
    match ops, es, h with
    | [op], [e], h =>
      unfold chC at h
      obtain ⟨h1, h2⟩ := ba h
      cases of_decide_eq_true h1
      exact pch_one C.hu ((sE x X sc fc e C).1 h2)
    | [], _, h =>
      unfold chC at h
      cases h
    | op :: ops, [], h =>
      unfold chC at h
      cases ops <;> cases h
    | op :: op' :: ops, e :: es, h =>
      unfold chC at h
      have h3 := (ba (ba h).2).2
      unfold chC at h3
      cases h3
    | [op], e :: e' :: es, h =>
      unfold chC at h
      have h3 := (ba (ba h).2).2
      unfold chC at h3
      cases h3
  | .cons o x (.cons o' y r), X, sc, fc, ops, es, C, h => by
    match ops, es, h with
    | op :: ops, e :: es, h =>
      unfold chC at h
      obtain ⟨h1, h⟩ := ba h
      obtain ⟨h2, h3⟩ := ba h
      cases of_decide_eq_true h1
      have q := sC (.cons o' y r) X sc fc ops es C h3
      match ops, es, h3, q with
      | op' :: ops', e' :: es', h3, q =>
        have eo : op' = cop o' := by
          cases r with
          | nil =>
            match ops', es', h3 with
            | [], [], h3 =>
              unfold chC at h3
              exact of_decide_eq_true (ba h3).1
            | [], _ :: _, h3 =>
              unfold chC at h3
              exact of_decide_eq_true (ba h3).1
            | _ :: _, [], h3 =>
              unfold chC at h3
              exact of_decide_eq_true (ba h3).1
            | _ :: _, _ :: _, h3 =>
              unfold chC at h3
              exact of_decide_eq_true (ba h3).1
          | cons o2 y2 r2 =>
            unfold chC at h3
            exact of_decide_eq_true (ba h3).1
        subst eo
        exact pch_cons C.hu ((sE x X sc fc e C).1 h2) q
      | [], _, h3, q =>
        unfold chC at h3
        cases r <;> cases h3
      | _ :: _, [], h3, q =>
        unfold chC at h3
        cases r <;> cases ‹List CmpOp› <;> cases h3
    | [], _, h =>
      unfold chC at h
      cases h
    | op :: ops, [], h =>
      unfold chC at h
      cases h
theorem sR : ∀ (xs : Ars) (X : Cx) (sc : Scope) (fc : Str → Bool) (es : List Expr), Cok F gls nms lim lev N X sc fc → chR gls nms lim N xs sc fc es = true → PA X es (tR F xs) ∧ es.all notStar = true
  | .nil, X, sc, fc, es, C, h => by
    cases es with
    | nil => exact ⟨pr_nil, rfl⟩
    | cons e es => rw [chR] at h <;> first | cases h | exact fun z => by cases z
  | .src i r, X, sc, fc, es, C, h => by
    cases es with
    | nil => rw [chR] at h <;> first | cases h | exact fun _ _ _ _ z => by cases z
    | cons e es =>
      rw [chR] at h
      obtain ⟨h1, h2⟩ := ba h
      obtain ⟨pr, st⟩ := sR r X sc fc es C h2
      cases v : vName e with
      | none => rw [v] at h1; cases h1
      | some nm =>
        rw [v] at h1
        obtain ⟨p, rfl⟩ := vName_eq v
        obtain ⟨h3, h1⟩ := ba h1
        obtain ⟨h4, h5⟩ := ba h1
        obtain ⟨o1, o2, _⟩ := okN_ok h5
        exact ⟨pr_src (by rw [C.hN]; exact of_decide_eq_true h3) (by rw [C.hsc]; exact vis_ok h4) o1 o2 pr (by rfl), by rw [List.all_cons, st]; rfl⟩
  | .ex x r, X, sc, fc, es, C, h => by
    cases es with
    | nil => rw [chR] at h <;> first | cases h | exact fun _ _ _ _ z => by cases z
    | cons e es =>
      rw [chR] at h
      obtain ⟨h1, h⟩ := ba h
      obtain ⟨h2, h3⟩ := ba h
      obtain ⟨pr, st⟩ := sR r X sc fc es C h3
      exact ⟨pr_ex ((sE x X sc fc e C).1 h2) pr (star_cons h1 _), by rw [List.all_cons, h1, st]; rfl⟩
theorem sI : ∀ (ss : Exs) (ik : ItK) (X : Cx) (sc : Scope) (fc : Str → Bool) (it : Expr), Cok F gls nms lim lev N X sc fc → chI gls nms lim N ik ss sc fc it = true → ∀ te : Expr, (pairK ik = true → ∃ elts k p, te = .Tuple elts k p) → PI X te it (tIt X.K F ik ss)
  | .nil, ik, X, sc, fc, it, C, h, te, ht => by
    cases ik <;> (rw [chI] at h; cases h)
  | .cons x r, ik, X, sc, fc, it, C, h, te, ht => by
    have main : ∀ nm e1 es, vCall it = some (nm, e1 :: es) → (glb sc nm && (okI ik nm es.length && (notStar e1 && (chE gls nms lim N x false sc fc e1 && chL gls nms lim N r false sc fc es)))) = true → PI X te it (tIt X.K F ik (.cons x r)) := fun nm e1 es v hm => by
          obtain ⟨p, pos, rfl⟩ := vCall_eq v
          obtain ⟨h1, hm⟩ := ba hm
          obtain ⟨h2, hm⟩ := ba hm
          obtain ⟨h4, hm⟩ := ba hm
          obtain ⟨h5, h6⟩ := ba hm
          clear h hm
          have pe := (sE x X sc fc e1 C).1 h5
          obtain ⟨pa, st, _⟩ := (sL r X sc fc es C).1 h6
          have pall := pa_consD pe pa (star_cons h4 _)
          cases ik with
          | rng1 =>
            obtain ⟨i1, i2⟩ := ba h2
            cases of_decide_eq_true i1
            have i3 : es = [] := List.length_eq_zero_iff.mp (of_decide_eq_true i2)
            subst i3
            match r, h6, pall with
            | .nil, _, pall => exact pi_rng1D (glb_ok C.hsc h1) (C.mgB _ (mem_blt (.inr (.inl rfl)))) pall (star_cons h4 _)
            | .cons _ _, h6, _ => rw [chL] at h6 <;> first | cases h6 | exact fun _ _ _ _ z => by cases z
          | rng2 =>
            obtain ⟨i1, i2⟩ := ba h2
            cases of_decide_eq_true i1
            match es, of_decide_eq_true i2, h6, pall, st with
            | [e2], _, h6, pall, st =>
              have s2 : notStar e2 = true := by simpa using st
              match r, h6, pall with
              | .nil, h6, _ => rw [chL] at h6 <;> first | cases h6 | exact fun z => by cases z
              | .cons y .nil, _, pall => exact pi_rng2D (glb_ok C.hsc h1) (C.mgB _ (mem_blt (.inr (.inl rfl)))) pall (by rw [star_cons h4, star_cons s2]; rfl) (star_cons s2 _)
              | .cons y (.cons _ _), h6, _ =>
                rw [chL] at h6
                have h7 := (ba (ba h6).2).2
                rw [chL] at h7 <;> first | cases h7 | exact fun _ _ _ _ z => by cases z
          | enum =>
            obtain ⟨i1, i2⟩ := ba h2
            cases of_decide_eq_true i1
            obtain ⟨elts, k, p', rfl⟩ := ht rfl
            have i3 : es = [] := List.length_eq_zero_iff.mp (of_decide_eq_true i2)
            subst i3
            match r, h6, pall with
            | .nil, _, pall => exact pi_enumD (glb_ok C.hsc h1) (C.mgB _ (mem_blt (.inr (.inr (.inl rfl))))) pall (star_cons h4 _)
            | .cons _ _, h6, _ => rw [chL] at h6 <;> first | cases h6 | exact fun _ _ _ _ z => by cases z
          | zip2 =>
            obtain ⟨i1, i2⟩ := ba h2
            cases of_decide_eq_true i1
            obtain ⟨elts, k, p', rfl⟩ := ht rfl
            match es, of_decide_eq_true i2, h6, pall, st with
            | [e2], _, h6, pall, st =>
              match r, h6, pall with
              | .nil, h6, _ => rw [chL] at h6 <;> first | cases h6 | exact fun z => by cases z
              | .cons y .nil, _, pall => exact pi_zip2D (glb_ok C.hsc h1) (C.mgB _ (mem_blt (.inr (.inr (.inr (.inl rfl)))))) pall (star_cons h4 _) (star_any st)
              | .cons y (.cons _ _), h6, _ =>
                rw [chL] at h6
                have h7 := (ba (ba h6).2).2
                rw [chL] at h7 <;> first | cases h7 | exact fun _ _ _ _ z => by cases z
          | seq => cases h2
          | zip3 => cases h2
          | items => cases h2
    have main2 : (match vCall it with
      | some (nm, e1 :: es) => glb sc nm && (okI ik nm es.length && (notStar e1 && (chE gls nms lim N x false sc fc e1 && chL gls nms lim N r false sc fc es)))
      | _ => false) = true → PI X te it (tIt X.K F ik (.cons x r)) := fun z => by
      cases v : vCall it with
      | none => rw [v] at z; cases z
      | some q =>
        obtain ⟨nm, xs⟩ := q
        rw [v] at z
        cases xs with
        | nil => cases z
        | cons e1 es => exact main nm e1 es v z
    cases ik with
    | seq =>
      cases r with
      | nil =>
        rw [chI] at h
        exact pi_seqD ((sE x X sc fc it C).1 h)
      | cons y r' =>
        rw [chI] at h
        · exact main2 h
        · exact fun _ z => by cases z
    | _ =>
      rw [chI] at h
      · exact main2 h
      · exact fun z => by cases z
end
end
end DT

/-! The check of statements. -/
namespace DT
open PySem L2 PyProof.Rows
def swSt (sc : Scope) (ts vs : List Expr) : Option (Option (List Str)) :=
  if (!(ts.length == 2 || ts.length == 3) || vs.length != ts.length || sc.kind != .function) = true then some none
  else if (vs.any fun | .Starred .. => true | _ => false) = true then some none
  else if ((ts.filterMap fun
    | .Name id pos => if sc.names.lookup id == some .local && pos.line == (ts.head?.map (·.pos.line)).getD 0 then some id else none
    | _ => none).length != ts.length || (ts.filterMap fun
    | .Name id pos => if sc.names.lookup id == some .local && pos.line == (ts.head?.map (·.pos.line)).getD 0 then some id else none
    | _ => none).eraseDups.length != (ts.filterMap fun
    | .Name id pos => if sc.names.lookup id == some .local && pos.line == (ts.head?.map (·.pos.line)).getD 0 then some id else none
    | _ => none).length) = true then some none
  else if vs.all (foldedForSure 8) = true then some none
  else if vs.all (constantsAlone 8) = true then none
  else some (some (ts.filterMap fun
    | .Name id pos => if sc.names.lookup id == some .local && pos.line == (ts.head?.map (·.pos.line)).getD 0 then some id else none
    | _ => none))
theorem swSt_ok {env : Env} {sc : Scope} (hs : env.scope = sc) (hk : sc.kind = .function) {ts vs : List Expr} {k k' : Nat} {p p' : Pos} {r : Option (List Str)} (h : swSt sc ts vs = some r) : swappedStores [.Tuple ts k p] (.Tuple vs k' p') env = pure r := by
  have hb : env.blockKind = sc.kind := by
    unfold Env.blockKind
    rw [hs, hk]
    rfl
  have hkind : ∀ id, env.kindOf id = sc.names.lookup id := fun id => by
    unfold Env.kindOf
    rw [hs]
  unfold swSt at h
  unfold swappedStores
  simp only [hb, hkind]
  split at h
  · rename_i c
    refine (if_pos c).trans ?_
    cases h
    rfl
  · rename_i c
    refine (if_neg c).trans ?_
    split at h
    · rename_i c
      refine (if_pos c).trans ?_
      cases h
      rfl
    · rename_i c
      refine (if_neg c).trans ?_
      split at h
      · rename_i c
        refine (if_pos c).trans ?_
        cases h
        rfl
      · rename_i c
        refine (if_neg c).trans ?_
        split at h
        · rename_i c
          refine (if_pos c).trans ?_
          cases h
          rfl
        · rename_i c
          refine (if_neg c).trans ?_
          split at h
          · cases h
          · rename_i c
            refine (if_neg c).trans ?_
            cases h
            rfl
theorem swNone {env : Env} {t : Expr} {e : Expr} (h : notTup e = true) : swappedStores [t] e env = pure none := by
  unfold swappedStores
  cases t <;> cases e <;> first | rfl | cases h
theorem swTup {env : Env} {e : Expr} {ts : List Expr} {k : Nat} {p : Pos} {l : Nat} : swapsWithSole [.Tuple ts k p] e l env = pure false := by
  cases e <;> rfl
def swB (sc scope : Scope) (t : Str) (p q : Pos) : Bool := sc.kind == .function && (sc.names.lookup t == some .local) && p.line == q.line && !(scope.names.any fun (n, k) => n == t && (k == .local || k == .cell))
theorem swB_ok {env : Env} {sc : Scope} (hs : env.scope = sc) (hk : sc.kind = .function) {el : Expr} {gs : List Comprehension} {scope : Scope} {q p : Pos} {t : Str} {l : Nat} : swapsWith (.ListComp el gs scope q) (some (.Name t p)) l env = pure (swB sc scope t p q) := by
  have hb : env.blockKind = sc.kind := by
    unfold Env.blockKind
    rw [hs, hk]
    rfl
  have hkind : env.kindOf t = sc.names.lookup t := by
    unfold Env.kindOf
    rw [hs]
  unfold swapsWith swB
  simp only [hb, hkind]
  rfl

/-! ### views of statements -/
def vAsg : Stmt → Option (Expr × Expr)
  | .Assign [t] e _ => some (t, e)
  | _ => none
def vExp : Stmt → Option Expr
  | .Expr e _ => some e
  | _ => none
def vIfS : Stmt → Option (Expr × List Stmt × List Stmt)
  | .If t a b _ => some (t, a, b)
  | _ => none
def vFor : Stmt → Option (Expr × Expr × List Stmt)
  | .For t i b [] _ => some (t, i, b)
  | _ => none
def vWhl : Stmt → Option (Expr × List Stmt)
  | .While t b [] _ => some (t, b)
  | _ => none
def vRet : Stmt → Option Expr
  | .Return (some e) _ => some e
  | _ => none
def vCont : Stmt → Bool
  | .Continue _ => true
  | _ => false
def vPass : Stmt → Bool
  | .Pass _ => true
  | _ => false
theorem vAsg_eq {s : Stmt} {t e : Expr} (h : vAsg s = some (t, e)) : ∃ p, s = .Assign [t] e p := by
  unfold vAsg at h
  split at h <;> cases h
  exact ⟨_, rfl⟩
theorem vExp_eq {s : Stmt} {e : Expr} (h : vExp s = some e) : ∃ p, s = .Expr e p := by
  unfold vExp at h
  split at h <;> cases h
  exact ⟨_, rfl⟩
theorem vIfS_eq {s : Stmt} {t : Expr} {a b : List Stmt} (h : vIfS s = some (t, a, b)) : ∃ p, s = .If t a b p := by
  unfold vIfS at h
  split at h <;> cases h
  exact ⟨_, rfl⟩
theorem vFor_eq {s : Stmt} {t i : Expr} {b : List Stmt} (h : vFor s = some (t, i, b)) : ∃ p, s = .For t i b [] p := by
  unfold vFor at h
  split at h <;> cases h
  exact ⟨_, rfl⟩
theorem vWhl_eq {s : Stmt} {t : Expr} {b : List Stmt} (h : vWhl s = some (t, b)) : ∃ p, s = .While t b [] p := by
  unfold vWhl at h
  split at h <;> cases h
  exact ⟨_, rfl⟩
theorem vRet_eq {s : Stmt} {e : Expr} (h : vRet s = some e) : ∃ p, s = .Return (some e) p := by
  unfold vRet at h
  split at h <;> cases h
  exact ⟨_, rfl⟩
theorem vCont_eq {s : Stmt} (h : vCont s = true) : ∃ p, s = .Continue p := by
  unfold vCont at h
  split at h
  · exact ⟨_, rfl⟩
  · cases h
theorem vPass_eq {s : Stmt} (h : vPass s = true) : ∃ p, s = .Pass p := by
  unfold vPass at h
  split at h
  · exact ⟨_, rfl⟩
  · cases h
/-- targets that are names, in these slots -/
def chNs (N : List Str) (sc : Scope) : List Nat → List Expr → Bool
  | [], [] => true
  | i :: is, e :: es => (match vName e with
    | some nm => decide (N[i]? = some nm) && sto sc (fun _ => true) nm
    | none => false) && chNs N sc is es
  | _, _ => false
def loc2 (sc : Scope) (e : Expr) : Bool := match vName e with
  | some nm => decide (sc.names.lookup nm = some .local)
  | none => false
/-- tuples on both sides that are no swap -/
def noSw (sc : Scope) (t e : Expr) : Bool := match vTup t, vTup e with
  | some ts, some vs => (match swSt sc ts vs with
    | some none => true
    | _ => false)
  | _, _ => false
theorem noSw_ok {env : Env} {sc : Scope} (hs : env.scope = sc) (hk : sc.kind = .function) {t e : Expr} (h : noSw sc t e = true) : swappedStores [t] e env = pure none := by
  unfold noSw at h
  cases w1 : vTup t with
  | none => rw [w1] at h; cases h
  | some ts =>
    cases w2 : vTup e with
    | none => rw [w1, w2] at h; cases h
    | some vs =>
      rw [w1, w2] at h
      obtain ⟨k1, p1, rfl⟩ := vTup_eq w1
      obtain ⟨k2, p2, rfl⟩ := vTup_eq w2
      cases w3 : swSt sc ts vs with
      | none => simp only [w3] at h; cases h
      | some r =>
        cases r with
        | none => exact swSt_ok hs hk w3
        | some _ => simp only [w3] at h; cases h
section
variable (gls : List (Str × Int)) (nms : List (Str × Nat)) (lim : Nat) (N : List Str)
mutual
def chS : Sx → Scope → Stmt → Bool
  | .set i x, sc, s => match vAsg s with
    | some (t, e) => (match vName t with
      | some nm => decide (N[i]? = some nm) && sto sc (fun _ => true) nm
      | none => false) && (chE gls nms lim N x false sc (fun _ => true) e && (notComp e || (vLc e).isSome))
    | none => false
  | .par is xs, sc, s => match vAsg s with
    | some (t, e) => (match vTup t, vTup e with
      | some ts, some vs => chNs N sc is ts && (chL gls nms lim N xs false sc (fun _ => true) vs && (decide (lenE xs = is.length) && (decide (is.length ≤ 1000) && (match swSt sc ts vs with
        | some none => true
        | some (some ns) => decide (ns = ts.filterMap vName) && (decide is.Nodup && (ts.all (loc2 sc) && (decide (is.length = 2) || decide (is.length = 3))))
        | none => false))))
      | _, _ => false)
    | none => false
  | .unp tg x, sc, s => match vAsg s with
    | some (t, e) => (vTup t).isSome && (chG N sc (fun _ => true) tg t && (chE gls nms lim N x false sc (fun _ => true) e && (notTup e || noSw sc t e)))
    | none => false
  | .six i k x, sc, s => match vAsg s with
    | some (t, e) => (match vSub t with
      | some (o, sl) => (match vName o with
        | some nm => decide (N[i]? = some nm) && (vis sc nm && okN nm)
        | none => false) && chE gls nms lim N k false sc (fun _ => true) sl
      | none => false) && (chE gls nms lim N x false sc (fun _ => true) e && notComp e)
    | none => false
  | .app i x, sc, s => match vExp s with
    | some c => (match vMeth c with
      | some (o, nm, ap, [e], cp) => decide (nm = ("append" : Str)) && ((match vName o with
        | some y => decide (N[i]? = some y) && (vis sc y && okN y)
        | none => false) && (chE gls nms lim N x false sc (fun _ => true) e && (notStar e && (ap.endLine == cp.line))))
      | _ => false)
    | none => false
  | .ext i x, sc, s => match vExp s with
    | some c => (match vMeth c with
      | some (o, nm, ap, [e], cp) => decide (nm = ("extend" : Str)) && ((match vName o with
        | some y => decide (N[i]? = some y) && (vis sc y && okN y)
        | none => false) && (chE gls nms lim N x false sc (fun _ => true) e && (notStar e && (ap.endLine == cp.line))))
      | _ => false)
    | none => false
  | .iff x a b, sc, s => match vIfS s with
    | some (t, p, q) => chE gls nms lim N x true sc (fun _ => true) t && (chSs a sc p && chSs b sc q)
    | none => false
  | .for tg ik ss body, sc, s => match vFor s with
    | some (t, it, b) => chG N sc (fun _ => true) tg t && ((!pairK ik || (isT tg && (vTup t).isSome)) && (notSet it && (chI gls nms lim N ik ss sc (fun _ => true) it && chSs body sc b)))
    | none => false
  | .whl x body, sc, s => match vWhl s with
    | some (t, b) => chE gls nms lim N x true sc (fun _ => true) t && chSs body sc b
    | none => false
  | .ret x, sc, s => match vRet s with
    | some e => chE gls nms lim N x false sc (fun _ => true) e
    | none => false
  | .cont, _, s => vCont s
  | .pass, _, s => vPass s
  | .never, _, _ => true
def chSs : Sxs → Scope → List Stmt → Bool
  | .nil, _, [] => true
  | .cons x r, sc, s :: ss => chS x sc s && chSs r sc ss
  | _, _, _ => false
end
end
end DT

/-! The check of statements is sound. -/
namespace DT
open PySem L2 PyProof.Rows
section
variable {F : List Fn} {gls : List (Str × Int)} {nms : List (Str × Nat)} {lim lev : Nat} {N : List Str}
theorem sF : ∀ (xs : Exs) (X : Cx) (sc : Scope) (fc : Str → Bool) (es : List Expr), Cok F gls nms lim lev N X sc fc → chL gls nms lim N xs false sc fc es = true → PA X es (tAF F xs)
  | .nil, X, sc, fc, [], C, _ => paF_nil
  | .nil, X, sc, fc, _ :: _, C, h => by rw [chL] at h <;> first | cases h | exact fun z => by cases z
  | .cons _ _, X, sc, fc, [], C, h => by rw [chL] at h <;> first | cases h | exact fun _ _ _ _ z => by cases z
  | .cons x r, X, sc, fc, e :: es, C, h => by
    rw [chL] at h
    obtain ⟨h1, h⟩ := ba h
    obtain ⟨h2, h3⟩ := ba h
    exact paF_cons ((sE x X sc fc e C).1 h2) (sF r X sc fc es C h3) (star_cons h1 _)
theorem sNs {X : Cx} {sc : Scope} (C : Cok F gls nms lim lev N X sc fun _ => true) : ∀ (is : List Nat) (ts : List Expr), chNs N sc is ts = true → PGs X ts (gNames is) ∧ ts.all notStar = true ∧ ts.length = is.length ∧ ∀ (k i : Nat), is[k]? = some i → ∃ (t : Expr) (nm : Str) (p : Pos), ts[k]? = some t ∧ t = Expr.Name nm p ∧ N[i]? = some nm
  | [], [], _ => ⟨pgs_nil, rfl, rfl, fun k i z => by simp at z⟩
  | [], _ :: _, h => by cases h
  | _ :: _, [], h => by cases h
  | i :: is, e :: es, h => by
    unfold chNs at h
    obtain ⟨h1, h2⟩ := ba h
    obtain ⟨q, st, ln, at_⟩ := sNs C is es h2
    cases v : vName e with
    | none => rw [v] at h1; cases h1
    | some nm =>
      rw [v] at h1
      obtain ⟨p, rfl⟩ := vName_eq v
      obtain ⟨h3, h4⟩ := ba h1
      have h3 := of_decide_eq_true h3
      obtain ⟨l1, l2⟩ := sto_ok C.hsc C.fnc h4
      refine ⟨pgs_cons (pg_name C.nd (by rw [C.hN]; exact h3) l1 l2) q (by rfl), by rw [List.all_cons, st]; rfl, by rw [List.length_cons, List.length_cons, ln], fun k j z => ?_⟩
      cases k with
      | zero =>
        have z' : i = j := Option.some.inj z
        subst z'
        exact ⟨_, nm, p, rfl, rfl, h3⟩
      | succ k => exact at_ k j z
/-- a comprehension's parts -/
theorem lcParts {elt : Ex} {tg : Tg} {ik : ItK} {ss ifs : Exs} {X : Cx} {sc : Scope} {fc : Str → Bool} {el te it : Expr} {fs : List Expr} {scope : Scope} {p : Pos} (C : Cok F gls nms lim lev N X sc fc) (h : chE gls nms lim N (.comp elt tg ik ss ifs) false sc fc (.ListComp el [⟨te, it, fs, 0⟩] scope p) = true) :
    (pairK ik = true → isT tg = true) ∧ PI X te it (tIt X.K F ik ss) ∧ BlkOk X.N X.env.scope scope (ownOf N (slotsT tg)) ∧ (ownOf N (slotsT tg)).map (·.2) = slotsT tg ∧
    (∀ (s : Shared) (H : Hp) (A : Addr) (cl : List (Str × Addr)) (fp : List Addr), PG (X.blk s H scope (compEnvC scope cl A X.env) fp) te (gD X.K tg)) ∧ (∀ (s : Shared) (H : Hp) (A : Addr) (cl : List (Str × Addr)) (fp : List Addr), PTs (X.blk s H scope (compEnvC scope cl A X.env) fp) fs (tIf F ifs)) ∧
    (∀ (s : Shared) (H : Hp) (A : Addr) (cl : List (Str × Addr)) (fp : List Addr), PE (X.blk s H scope (compEnvC scope cl A X.env) fp) el (tX F elt)) ∧ ∀ x, foldedSetIterable it X.env x = pure x := by
  rw [chE] at h
  have h := (ba h).2
  obtain ⟨h1, h⟩ := ba h
  obtain ⟨h2, h⟩ := ba h
  obtain ⟨h3, h⟩ := ba h
  obtain ⟨h4, h⟩ := ba h
  obtain ⟨h5, h⟩ := ba h
  obtain ⟨h6, h7⟩ := ba h
  obtain ⟨ok, own, hk⟩ := chB_ok h1
  have hcp : pairK ik = true → isT tg = true ∧ ∃ elts k p, te = .Tuple elts k p := fun z => by
    rw [z] at h3
    obtain ⟨i1, i2⟩ := ba (show (isT tg && (vTup te).isSome) = true from h3)
    obtain ⟨xs, w⟩ := Option.isSome_iff_exists.mp i2
    obtain ⟨k, p, rfl⟩ := vTup_eq w
    exact ⟨i1, xs, k, p, rfl⟩
  refine ⟨fun z => (hcp z).1, sI ss ik X sc fc it C h5 te fun z => (hcp z).2, by rw [C.hN, C.hsc]; exact ok, own, fun s H A cl fp => sG (C.blk hk s H A cl fp) tg te h2, fun s H A cl fp => ?_, fun s H A cl fp => (sE elt _ _ _ el (C.blk hk s H A cl fp)).1 h6, notSet_ok h4⟩
  have C' := C.blk hk s H A cl fp
  match ifs, fs, h7 with
  | .nil, [], _ => exact pts_nilD
  | .cons c .nil, [f], h7 => exact pts_oneD ((sE c _ _ _ f C').2 h7)
theorem ps_setLcD {elt : Ex} {tg : Tg} {ik : ItK} {ss ifs : Exs} {X : Cx} {sc : Scope} {el te it : Expr} {fs : List Expr} {scope : Scope} {p py spos : Pos} {i : Nat} {nm : Str} (C : Cok F gls nms lim lev N X sc fun _ => true) (h : chE gls nms lim N (.comp elt tg ik ss ifs) false sc (fun _ => true) (.ListComp el [⟨te, it, fs, 0⟩] scope p) = true)
    (hy : X.N[i]? = some nm) (hl : X.env.scope.names.lookup nm = some .local) (hsw : swapsWith (.ListComp el [⟨te, it, fs, 0⟩] scope p) (some (.Name nm py)) spos.line X.env = pure true) : PS X (.Assign [.Name nm py] (.ListComp el [⟨te, it, fs, 0⟩] scope p) spos) (tS F (.set i (.comp elt tg ik ss ifs))) := by
  obtain ⟨p1, p2, p3, p4, p5, p6, p7, p8⟩ := lcParts C h
  refine ⟨fun pins s σ H D I z => (ps_setLc C.calm C.nd hy hl hsw p2 p3 p5 p6 p7 p8).run pins s σ H D I ?_⟩
  rw [p4]
  exact tLc_of (fun _ => p1) (set_of z)
theorem comp_of {x : Ex} {t : Bool} {sc : Scope} {fc : Str → Bool} {e el te it : Expr} {fs : List Expr} {scope : Scope} {p : Pos} (he : e = .ListComp el [⟨te, it, fs, 0⟩] scope p) (h : chE gls nms lim N x t sc fc e = true) : ∃ elt tg ik ss ifs, x = .comp elt tg ik ss ifs := by
  subst he
  cases x with
  | comp elt tg ik ss ifs => exact ⟨elt, tg, ik, ss, ifs, rfl⟩
  | disp d fl es =>
    rw [chE] at h
    have h' := (ba h).2
    cases d <;> cases h'
  | _ =>
    rw [chE] at h
    first
      | cases h
      | (have h' := (ba h).2
         cases h')
theorem tups_of {α : Type} {l : List α} (h : l.length = 2) : ∃ a b, l = [a, b] := by
  match l, h with
  | [a, b], _ => exact ⟨a, b, rfl⟩
theorem trip_of {α : Type} {l : List α} (h : l.length = 3) : ∃ a b c, l = [a, b, c] := by
  match l, h with
  | [a, b, c], _ => exact ⟨a, b, c, rfl⟩
theorem chL_len {t : Bool} {sc : Scope} {fc : Str → Bool} : ∀ (xs : Exs) (es : List Expr), chL gls nms lim N xs t sc fc es = true → es.length = lenE xs
  | .nil, [], _ => rfl
  | .nil, _ :: _, h => by rw [chL] at h <;> first | cases h | exact fun z => by cases z
  | .cons _ _, [], h => by rw [chL] at h <;> first | cases h | exact fun _ _ _ _ z => by cases z
  | .cons x r, e :: es, h => by
    rw [chL] at h
    rw [List.length_cons, chL_len r es (ba (ba h).2).2]
    rfl
theorem loc2_ok {sc : Scope} {nm : Str} {p : Pos} (h : loc2 sc (.Name nm p) = true) : sc.names.lookup nm = some .local := of_decide_eq_true h
theorem sPar {X : Cx} {sc : Scope} (C : Cok F gls nms lim lev N X sc fun _ => true) {is : List Nat} {xs : Exs} {ts vs : List Expr} {k k' : Nat} {p p' pos : Pos} (h1 : chNs N sc is ts = true) (h2 : chL gls nms lim N xs false sc (fun _ => true) vs = true) (h3 : lenE xs = is.length) (h4 : is.length ≤ 1000)
    (h5 : (match swSt sc ts vs with
        | some none => true
        | some (some ns) => decide (ns = ts.filterMap vName) && (decide is.Nodup && (ts.all (loc2 sc) && (decide (is.length = 2) || decide (is.length = 3))))
        | none => false) = true) : PS X (.Assign [.Tuple ts k p] (.Tuple vs k' p') pos) (tS F (.par is xs)) := by
  obtain ⟨pg, st, ln, at_⟩ := sNs C is ts h1
  have pa := sF xs X sc _ vs C h2
  have lv := ((sL xs X sc _ vs C).1 h2)
  have lenV : vs.length = lenE xs := chL_len xs vs h2
  cases sw : swSt sc ts vs with
  | none => rw [sw] at h5; cases h5
  | some r =>
    rw [sw] at h5
    have hw := swSt_ok (k := k) (k' := k') (p := p) (p' := p') C.hsc C.kind sw
    cases r with
    | none => exact ps_parT h3 h4 C.calm pa pg (by rw [assign_len st, ln]) (assign_find st) swTup hw (by rfl)
    | some ns =>
      obtain ⟨i1, h5⟩ := ba h5
      obtain ⟨i2, h5⟩ := ba h5
      obtain ⟨i3, i4⟩ := ba h5
      have i2 := of_decide_eq_true i2
      cases of_decide_eq_true i1
      rcases Bool.or_eq_true_iff.mp i4 with i4 | i4
      · obtain ⟨i, j, rfl⟩ := tups_of (of_decide_eq_true i4)
        obtain ⟨t1, n1, q1, g1, rfl, m1⟩ := at_ 0 i rfl
        obtain ⟨t2, n2, q2, g2, rfl, m2⟩ := at_ 1 j rfl
        obtain ⟨a, b, rfl⟩ := tups_of ln
        cases g1
        cases g2
        obtain ⟨v1, v2, rfl⟩ := tups_of (lenV.trans h3)
        obtain ⟨z1, z2⟩ := ba i3
        obtain ⟨z2, _⟩ := ba z2
        have hij : i ≠ j := fun e => by
          rw [e] at i2
          exact (List.nodup_cons.mp i2).1 List.mem_cons_self
        exact ps_par2D h3 C.calm C.nd (by rw [C.hN]; exact m1) (by rw [C.hN]; exact m2) hij (by rw [C.hsc]; exact loc2_ok z1) (by rw [C.hsc]; exact loc2_ok z2) pa hw swTup
      · obtain ⟨i, j, l, rfl⟩ := trip_of (of_decide_eq_true i4)
        obtain ⟨t1, n1, q1, g1, rfl, m1⟩ := at_ 0 i rfl
        obtain ⟨t2, n2, q2, g2, rfl, m2⟩ := at_ 1 j rfl
        obtain ⟨t3, n3, q3, g3, rfl, m3⟩ := at_ 2 l rfl
        obtain ⟨a, b, c, rfl⟩ := trip_of ln
        cases g1
        cases g2
        cases g3
        obtain ⟨v1, v2, v3, rfl⟩ := trip_of (lenV.trans h3)
        obtain ⟨z1, z2⟩ := ba i3
        obtain ⟨z2, z3⟩ := ba z2
        obtain ⟨z3, _⟩ := ba z3
        obtain ⟨nd1, nd2⟩ := List.nodup_cons.mp i2
        obtain ⟨nd3, _⟩ := List.nodup_cons.mp nd2
        have hij : i ≠ j := fun e => nd1 (by rw [e]; exact List.mem_cons_self)
        have hil : i ≠ l := fun e => nd1 (by rw [e]; exact List.mem_cons_of_mem _ List.mem_cons_self)
        have hjl : j ≠ l := fun e => nd3 (by rw [e]; exact List.mem_cons_self)
        exact ps_par3D h3 C.calm C.nd (by rw [C.hN]; exact m1) (by rw [C.hN]; exact m2) (by rw [C.hN]; exact m3) hij hil hjl (by rw [C.hsc]; exact loc2_ok z1) (by rw [C.hsc]; exact loc2_ok z2) (by rw [C.hsc]; exact loc2_ok z3) pa hw swTup
mutual
theorem sS : ∀ (x : Sx) (X : Cx) (sc : Scope) (s : Stmt), Cok F gls nms lim lev N X sc (fun _ => true) → PassesOwn (model X.prog X.w) X.A X.env X.xe → chS gls nms lim N x sc s = true → PS X s (tS F x)
  | .set i x, X, sc, s, C, P, h => by
    rw [chS] at h
    cases v : vAsg s with
    | none => rw [v] at h; cases h
    | some q =>
      obtain ⟨t, e⟩ := q
      rw [v] at h
      dsimp only at h
      obtain ⟨pos, rfl⟩ := vAsg_eq v
      obtain ⟨h1, h⟩ := ba h
      obtain ⟨h2, h3⟩ := ba h
      cases w : vName t with
      | none => rw [w] at h1; cases h1
      | some nm =>
        rw [w] at h1
        obtain ⟨p, rfl⟩ := vName_eq w
        obtain ⟨h4, h5⟩ := ba h1
        have h4 := of_decide_eq_true h4
        obtain ⟨l1, l2⟩ := sto_ok C.hsc C.fnc h5
        have pe := (sE x X sc _ e C).1 h2
        have plain : swapsWith e (some (.Name nm p)) pos.line X.env = pure false → PS X (.Assign [.Name nm p] e pos) (tS F (.set i x)) := fun z => ps_setD C.nd (by rw [C.hN]; exact h4) l1 pe z l2
        rcases Bool.or_eq_true_iff.mp h3 with h3 | h3
        · exact plain (notComp_ok h3 _ _)
        · obtain ⟨q, hq⟩ := Option.isSome_iff_exists.mp h3
          obtain ⟨el, te, it, fs, scope⟩ := q
          obtain ⟨p2, e2⟩ := vLc_eq hq
          obtain ⟨elt, tg, ik, ss, ifs, rfl⟩ := comp_of e2 h2
          subst e2
          have sw := swB_ok (env := X.env) (el := el) (gs := [⟨te, it, fs, 0⟩]) (scope := scope) (q := p2) (p := p) (t := nm) (l := pos.line) C.hsc C.kind
          cases hb : swB sc scope nm p p2 with
          | false =>
            rw [hb] at sw
            exact plain sw
          | true =>
            rw [hb] at sw
            refine ps_setLcD C h2 (by rw [C.hN]; exact h4) ?_ sw
            unfold swB at hb
            have h6 := (ba (ba (ba hb).1).1).2
            rw [C.hsc]
            exact eq_of_beq h6
  | .par is xs, X, sc, s, C, P, h => by
    rw [chS] at h
    cases v : vAsg s with
    | none => rw [v] at h; cases h
    | some q =>
      obtain ⟨t, e⟩ := q
      rw [v] at h
      dsimp only at h
      obtain ⟨pos, rfl⟩ := vAsg_eq v
      cases w : vTup t with
      | none => rw [w] at h; cases h
      | some ts =>
        cases w2 : vTup e with
        | none => rw [w, w2] at h; cases h
        | some vs =>
          rw [w, w2] at h
          obtain ⟨k, p, rfl⟩ := vTup_eq w
          obtain ⟨k', p', rfl⟩ := vTup_eq w2
          obtain ⟨h1, g1⟩ := ba h
          obtain ⟨h2, g2⟩ := ba g1
          obtain ⟨h3, g3⟩ := ba g2
          obtain ⟨h4, h5⟩ := ba g3
          exact sPar C h1 h2 (of_decide_eq_true h3) (of_decide_eq_true h4) h5
  | .unp tg x, X, sc, s, C, P, h => by
    rw [chS] at h
    cases v : vAsg s with
    | none => rw [v] at h; cases h
    | some q =>
      obtain ⟨t, e⟩ := q
      rw [v] at h
      dsimp only at h
      obtain ⟨pos, rfl⟩ := vAsg_eq v
      obtain ⟨h1, g1⟩ := ba h
      obtain ⟨h2, g2⟩ := ba g1
      obtain ⟨h3, h4⟩ := ba g2
      obtain ⟨ts, w⟩ := Option.isSome_iff_exists.mp h1
      obtain ⟨k, p, rfl⟩ := vTup_eq w
      have hw : swappedStores [.Tuple ts k p] e X.env = pure none := by
        rcases Bool.or_eq_true_iff.mp h4 with h4 | h4
        · exact swNone h4
        · exact noSw_ok C.hsc C.kind h4
      exact ps_unpD ((sE x X sc _ e C).1 h3) (sG C tg _ h2) swTup hw (by rfl)
  | .six i k x, X, sc, s, C, P, h => by
    rw [chS] at h
    cases v : vAsg s with
    | none => rw [v] at h; cases h
    | some q =>
      obtain ⟨tt, e⟩ := q
      rw [v] at h
      obtain ⟨pos, rfl⟩ := vAsg_eq v
      obtain ⟨h1, h⟩ := ba h
      obtain ⟨h2, h3⟩ := ba h
      cases w : vSub tt with
      | none => rw [w] at h1; cases h1
      | some q =>
        obtain ⟨o, sl⟩ := q
        rw [w] at h1
        obtain ⟨pos', rfl⟩ := vSub_eq w
        obtain ⟨h4, h5⟩ := ba h1
        cases u : vName o with
        | none => rw [u] at h4; cases h4
        | some nm =>
          rw [u] at h4
          obtain ⟨p1, rfl⟩ := vName_eq u
          obtain ⟨h6, h4⟩ := ba h4
          obtain ⟨h7, h8⟩ := ba h4
          obtain ⟨o1, o2, _⟩ := okN_ok h8
          exact ps_sixD C.hu (by rw [C.hN]; exact of_decide_eq_true h6) (by rw [C.hsc]; exact vis_ok h7) o1 o2 ((sE k X sc _ sl C).1 h5) ((sE x X sc _ e C).1 h2) (notComp_ok h3 _ _)
  | .app i x, X, sc, s, C, P, h => by
    rw [chS] at h
    cases v : vExp s with
    | none => rw [v] at h; cases h
    | some c =>
      rw [v] at h
      dsimp only at h
      obtain ⟨pos, rfl⟩ := vExp_eq v
      cases w : vMeth c with
      | none => rw [w] at h; cases h
      | some q =>
        obtain ⟨o, nm, ap, es, cp⟩ := q
        rw [w] at h
        have ec := vMeth_eq w
        subst ec
        match es, h with
        | [e], h =>
          obtain ⟨h1, g1⟩ := ba h
          obtain ⟨h2, g2⟩ := ba g1
          obtain ⟨h3, g3⟩ := ba g2
          obtain ⟨h4, h5⟩ := ba g3
          cases of_decide_eq_true h1
          cases u : vName o with
          | none => rw [u] at h2; cases h2
          | some y =>
            rw [u] at h2
            obtain ⟨p, rfl⟩ := vName_eq u
            obtain ⟨h6, g6⟩ := ba h2
            obtain ⟨h7, h8⟩ := ba g6
            obtain ⟨o1, o2, _⟩ := okN_ok h8
            exact ps_appD (by rw [C.hN]; exact of_decide_eq_true h6) (by rw [C.hsc]; exact vis_ok h7) o1 o2 ((sE x X sc _ e C).1 h3) (by rfl) (few_one h4) h5 (star_cons h4 _) (by rfl) (by rfl)
  | .ext i x, X, sc, s, C, P, h => by
    rw [chS] at h
    cases v : vExp s with
    | none => rw [v] at h; cases h
    | some c =>
      rw [v] at h
      dsimp only at h
      obtain ⟨pos, rfl⟩ := vExp_eq v
      cases w : vMeth c with
      | none => rw [w] at h; cases h
      | some q =>
        obtain ⟨o, nm, ap, es, cp⟩ := q
        rw [w] at h
        have ec := vMeth_eq w
        subst ec
        match es, h with
        | [e], h =>
          obtain ⟨h1, g1⟩ := ba h
          obtain ⟨h2, g2⟩ := ba g1
          obtain ⟨h3, g3⟩ := ba g2
          obtain ⟨h4, h5⟩ := ba g3
          cases of_decide_eq_true h1
          cases u : vName o with
          | none => rw [u] at h2; cases h2
          | some y =>
            rw [u] at h2
            obtain ⟨p, rfl⟩ := vName_eq u
            obtain ⟨h6, g6⟩ := ba h2
            obtain ⟨h7, h8⟩ := ba g6
            obtain ⟨o1, o2, _⟩ := okN_ok h8
            exact ps_extD (by rw [C.hN]; exact of_decide_eq_true h6) (by rw [C.hsc]; exact vis_ok h7) o1 o2 ((sE x X sc _ e C).1 h3) (by rfl) (few_one h4) h5 (star_cons h4 _) (by rfl) (by rfl)
  | .iff x a b, X, sc, s, C, P, h => by
    rw [chS] at h
    cases v : vIfS s with
    | none => rw [v] at h; cases h
    | some q =>
      obtain ⟨t, p, r⟩ := q
      rw [v] at h
      dsimp only at h
      obtain ⟨pos, rfl⟩ := vIfS_eq v
      obtain ⟨h1, g1⟩ := ba h
      obtain ⟨h2, h3⟩ := ba g1
      exact ps_ifD ((sE x X sc _ t C).2 h1) (sSs a X sc p C P h2) (sSs b X sc r C P h3)
  | .for tg ik ss body, X, sc, s, C, P, h => by
    rw [chS] at h
    cases v : vFor s with
    | none => rw [v] at h; cases h
    | some q =>
      obtain ⟨t, it, b⟩ := q
      rw [v] at h
      dsimp only at h
      obtain ⟨pos, rfl⟩ := vFor_eq v
      obtain ⟨h1, g1⟩ := ba h
      obtain ⟨h2, g2⟩ := ba g1
      obtain ⟨h3, g3⟩ := ba g2
      obtain ⟨h4, h5⟩ := ba g3
      have hcp : pairK ik = true → isT tg = true ∧ ∃ elts k p, t = .Tuple elts k p := fun z => by
        rw [z] at h2
        obtain ⟨i1, i2⟩ := ba (show (isT tg && (vTup t).isSome) = true from h2)
        obtain ⟨xs, w⟩ := Option.isSome_iff_exists.mp i2
        obtain ⟨k, p, rfl⟩ := vTup_eq w
        exact ⟨i1, xs, k, p, rfl⟩
      exact ps_forD (fun z => (hcp z).1) P C.calm (sI ss ik X sc _ it C h4 t fun z => (hcp z).2) (sG C tg t h1) (sSs body X sc b C P h5) (notSet_ok h3)
  | .whl x body, X, sc, s, C, P, h => by
    rw [chS] at h
    cases v : vWhl s with
    | none => rw [v] at h; cases h
    | some q =>
      obtain ⟨t, b⟩ := q
      rw [v] at h
      dsimp only at h
      obtain ⟨pos, rfl⟩ := vWhl_eq v
      obtain ⟨h1, h2⟩ := ba h
      exact ps_whileD P ((sE x X sc _ t C).2 h1) (sSs body X sc b C P h2)
  | .ret x, X, sc, s, C, P, h => by
    rw [chS] at h
    cases v : vRet s with
    | none => rw [v] at h; cases h
    | some e =>
      rw [v] at h
      dsimp only at h
      obtain ⟨pos, rfl⟩ := vRet_eq v
      exact ps_retD ((sE x X sc _ e C).1 h)
  | .cont, X, sc, s, C, P, h => by
    rw [chS] at h
    obtain ⟨p, rfl⟩ := vCont_eq h
    exact ps_contD
  | .pass, X, sc, s, C, P, h => by
    rw [chS] at h
    obtain ⟨p, rfl⟩ := vPass_eq h
    exact ps_passD
  | .never, X, sc, s, C, P, h => ps_neverD
theorem sSs : ∀ (x : Sxs) (X : Cx) (sc : Scope) (s : List Stmt), Cok F gls nms lim lev N X sc (fun _ => true) → PassesOwn (model X.prog X.w) X.A X.env X.xe → chSs gls nms lim N x sc s = true → PSs X s (tSs F x)
  | .nil, X, sc, s, C, P, h => by
    cases s with
    | nil => exact pss_nilD
    | cons e es => rw [chSs] at h <;> first | cases h | exact fun z => by cases z
  | .cons x r, X, sc, s, C, P, h => by
    cases s with
    | nil => rw [chSs] at h <;> first | cases h | exact fun _ _ _ _ z => by cases z
    | cons e es =>
      rw [chSs] at h
      obtain ⟨h1, h2⟩ := ba h
      exact pss_consD (sS x X sc e C P h1) (sSs r X sc es C P h2)
end
end
end DT

/-! Defs, the table of a program's defs, the law's end. -/
namespace DT
open PySem L2 PyProof.Rows
/-- what is known of the defs of a table -/
def TabOk (P : Program) (w : World) (K : PySem.W.Frag) (mg : Str → Option Value) (base : Heap) (lev : Nat) (nms : List (Str × Nat)) (F : List Fn) : Prop := ∀ (i : Nat) (nm : Str) (n : Nat) (h : Fn), nms[i]? = some (nm, n) → F[i]? = some h →
  ∃ (f : Addr) (fd : FuncData) (ps : List Str), ps.length = n ∧ mg nm = some (.ref f) ∧ PySem.W.keepIn K (.ref f) = true ∧ Binds K fd ps [] ∧ FnG P w K mg base lev f fd ps (spF ps.length h)
section
variable {P : Program} {w : World} {K : PySem.W.Frag} {mg : Str → Option Value} {base : Heap} {lev : Nat} {gls : List (Str × Int)} {nms : List (Str × Nat)} {F : List Fn} {f : Addr} {fd : FuncData} {nm qual : Str} {params : Arguments} {body : List Stmt} {scope : Scope} {dvs : List V} {kws : List (Str × V)} {N ps : List Str}
theorem TabOk.nil : TabOk P w K mg base lev [] [] := fun i nm n h e => by simp at e
theorem TabOk.snoc {h : Fn} (T : TabOk P w K mg base lev nms F) (hl : nms.length = F.length) (gm : mg nm = some (.ref f)) (hk : PySem.W.keepIn K (.ref f) = true) (hb : Binds K fd ps []) (G : FnG P w K mg base (lev + 1) f fd ps (spF ps.length h)) : TabOk P w K mg base (lev + 1) (nms ++ [(nm, ps.length)]) (F ++ [h]) := by
  intro i x n h' e1 e2
  rcases Nat.lt_or_ge i nms.length with hi | hi
  · rw [List.getElem?_append_left hi] at e1
    rw [List.getElem?_append_left (by omega)] at e2
    obtain ⟨f', fd', ps', q1, q2, q3, q4, q5⟩ := T i x n h' e1 e2
    exact ⟨f', fd', ps', q1, q2, q3, q4, q5.mono (Nat.le_succ _)⟩
  · rw [List.getElem?_append_right hi] at e1
    rw [List.getElem?_append_right (by omega)] at e2
    have hz : i - nms.length = 0 := by
      rcases Nat.eq_zero_or_pos (i - nms.length) with z | z
      · exact z
      · rw [List.getElem?_eq_none (by simp; omega)] at e1
        cases e1
    rw [hz] at e1
    rw [← hl, hz] at e2
    cases e1
    cases e2
    exact ⟨f, fd, ps, rfl, gm, hk, hb, G⟩
theorem cok_def {cdv : Value} {A : Around} {outer : List Env} {s : Shared} {H : Hp} (T : TabOk P w K mg base lev nms F) (gl : ∀ x i, (x, i) ∈ gls → ∃ t, mg x = some (.int i t)) (S : FnScope N ps scope) (hr : Room lev (A.deeper (envOfC qual scope s.heap.objs.size f cdv))) (hg : (A.deeper (envOfC qual scope s.heap.objs.size f cdv)).guards = some []) (mb : ∀ x, x ∈ bltNames → mg x = none) :
    Cok F gls nms nms.length lev N (cxOf CXN P w K mg base N qual scope f cdv A outer s H EN) scope (fun _ => true) :=
  ⟨rfl, rfl, S.nd, rfl, S.kind, hr, hg, mb, fun _ _ => rfl, gl, fun i x n h _ e1 e2 => T i x n h e1 e2⟩
theorem ps_le (S : FnScope N ps scope) : ps.length ≤ N.length := by
  have := congrArg List.length S.pre
  rw [List.length_take] at this
  omega
/-- a def that its text tells -/
theorem fn_text {xb : Sxs} (D : FunD K nm qual params body scope dvs kws f fd) (S : FnScope N ps scope) (T : TabOk P w K mg base lev nms F) (gl : ∀ x i, (x, i) ∈ gls → ∃ t, mg x = some (.int i t)) (mb : ∀ x, x ∈ bltNames → mg x = none) (h : chSs gls nms nms.length N xb scope body = true) : FnG P w K mg base (lev + 1) f fd ps (spF ps.length (fnOf F N.length xb)) := by
  refine fnG_of D S (fun vs H Q z => ?_) fun cdv A outer s H vs Q hr hg z => ⟨_, sSs xb _ scope body (cok_def T gl S hr hg mb) PassesOwn.leaving h, entry_of (ps_le S) z⟩
  obtain ⟨M0, sa, as, g, d, g', hl, _, _, _, o, _⟩ := z
  rw [o.length, hl]
end

/-! ### the law's def: its first statement opens the source -/
/-- the promise of the opening def -/
def spOpen (K : PySem.W.Frag) (open_ : List Int → PState) : SpG := fun vs H Q => ∃ (a : Addr) (ns : List Int), vs = [.ref a] ∧ SqL K H a (ns.map V.int) ∧ ns.length ≤ 63 ∧ ∀ d c H', (∀ p o, H p = some o → H' p = some o) → SrcOk H' (d, c) (open_ ns) → Q (.ref d) H'
/-- the law's promise -/
def spLawG (K : PySem.W.Frag) : SpG := fun vs H Q => ∃ (a : Addr) (ns : List Int), vs = [.ref a] ∧ SqL K H a (ns.map V.int) ∧ ns.length ≤ 63 ∧ ∀ H', Q (.bl true) H'
def lawR (n : Nat) : Rho := none :: some .src :: List.replicate (n - 2) none
section
variable {P : Program} {w : World} {K : PySem.W.Frag} {mg : Str → Option Value} {base : Heap} {lev : Nat} {gls : List (Str × Int)} {nms : List (Str × Nat)} {F : List Fn} {f fo : Addr} {fd fdo : FuncData} {nm qual : Str} {params : Arguments} {body rest : List Stmt} {scope : Scope} {dvs : List V} {kws : List (Str × V)} {N : List Str}
theorem law_text {xb : Sxs} {open_ : List Int → PState} {s1 s2 : Str} {p1 p2 p3 p4 p5 : Pos} {so : Str} (hlev : 0 < lev) (D : FunD K nm qual params body scope dvs kws f fd) (S : FnScope N [s1] scope) (T : TabOk P w K mg base lev nms F) (gl : ∀ x i, (x, i) ∈ gls → ∃ t, mg x = some (.int i t)) (mb : ∀ x, x ∈ bltNames → mg x = none)
    (hb : body = .Assign [.Name s2 p1] (.Call (.Name so p2) [.Name s1 p3] [] p4) p5 :: rest) (h : chSs gls nms nms.length N xb scope rest = true) (n1 : N[0]? = some s1) (n2 : N[1]? = some s2) (v1 : vis scope s1 = true) (v2 : sto scope (fun _ => true) s2 = true) (o1 : okN s1 = true) (go : glb scope so = true) (oo : okN so = true)
    (mo : mg so = some (.ref fo)) (ko : PySem.W.keepIn K (.ref fo) = true) (bo : Binds K fdo ["script"] []) (O : FnG P w K mg base lev fo fdo ["script"] (spOpen K open_))
    (law : ∀ ns : List Int, ns.length ≤ 63 → ∃ ρ' g', exs F xb (lawR N.length) (open_ ns) = some ((.rt (.bool true), ρ'), g')) : FnG P w K mg base (lev + 1) f fd [s1] (spLawG K) := by
  refine fnG_of D S (fun vs H Q z => ?_) fun cdv A outer s H vs Q hr hg z => ?_
  · obtain ⟨a, ns, rfl, _⟩ := z
    rfl
  have C := cok_def (cdv := cdv) (f := f) (qual := qual) (outer := outer) (H := H) T gl S hr hg mb
  obtain ⟨q1, q2, q3⟩ := okN_ok o1
  obtain ⟨r1, r2, r3⟩ := okN_ok oo
  obtain ⟨l1, l2⟩ := sto_ok (sc := scope) C.hsc C.fnc v2
  subst hb
  refine ⟨_, pss_cons (ps_set (i := 1) C.nd (by rw [C.hN]; exact n2) l1 (pe_callG O hr hg (glb_ok C.hsc go) mo ko bo (pa_cons (pe_var (i := 0) (by rw [C.hN]; exact n1) (by rw [C.hsc]; exact vis_ok v1) q1 q2) pa_nil (by rfl)) r1 (by rfl) (by rfl)) (by rfl) l2) (sSs xb _ scope rest C PassesOwn.leaving h), ?_⟩
  obtain ⟨a, ns, rfl, hS, hl, want⟩ := z
  have h2 : 2 ≤ N.length := (List.getElem?_eq_some_iff.mp n2).1
  refine ⟨.ref a, start_get rfl, a, ns, rfl, hS, hl, fun d c H' k src => ?_⟩
  obtain ⟨ρ', g', e⟩ := law ns hl
  have k2 : isS (d, c) d := .inl rfl
  refine ⟨isS (d, c), (d, c), isS (d, c), lawR N.length, open_ ns, .rt (.bool true), ρ', g', ?_, e, fun v H2 _ _ rp => ?_⟩
  · refine ⟨?_, fun i sl hs => ?_, fun i j p o1 _ => ?_, fun _ z => z, fun _ z => z, fun p z => src.there z, src⟩
    · unfold lawR L2.start
      rw [List.length_set, List.length_append]
      simp
      omega
    · unfold lawR at hs
      match i, hs with
      | 0, hs => cases hs
      | 1, hs =>
        have hs' : Sl.src = sl := Option.some.inj (Option.some.inj hs)
        subst hs'
        refine ⟨.ref d, ?_, rfl⟩
        rw [List.getElem?_set_self]
        unfold L2.start
        rw [List.length_append]
        simp
        omega
      | i + 2, hs =>
        have hs' : (List.replicate (N.length - 2) none)[i]? = some (some sl) := hs
        rw [List.getElem?_replicate] at hs'
        split at hs' <;> cases hs'
    · obtain ⟨x, e1, _, _⟩ := o1
      unfold lawR at e1
      match i, e1 with
      | 0, e1 => cases e1
      | 1, e1 => cases e1
      | i + 2, e1 =>
        have e2 : (List.replicate (N.length - 2) none)[i]? = some (some (Sl.d true x)) := e1
        rw [List.getElem?_replicate] at e2
        split at e2 <;> cases e2
  · rw [Rep] at rp
    subst rp
    exact want H2
end
/-- the law's call -/
theorem law_callG {P : Program} {w : World} {K : PySem.W.Frag} {mg mb : Str → Option Value} {lev : Nat} {fa a : Addr} {fd : FuncData} {x : Str} {st : Shared} {vs : List Value} {ns : List Int}
    (kin : K.In st.heap) (gns : st.heap.Ns mainGlobals mg) (bns : st.heap.Ns builtinsNs mb) (bb : ∀ x : Str, x ≠ "__name__" → mb x = bootBuiltins x) (lim : st.heap.NoLimit) (gens : st.gens = #[])
    (obj : st.heap.get? a = some { cls := .type "list", data := .seq vs.toArray }) (are : IntsAre vs ns) (few : ns.length ≤ 63) (room : Room lev callerA)
    (G : ∀ base : Heap, K.In base → base.Ns mainGlobals mg → FnG P w K mg base lev fa fd [x] (spLawG K)) (bind : ∀ (s : Shared) (u : Value), BindsTo s fd ⟨[u], []⟩ [(x, u)]) :
    codeAny (model P w) callerA (.call (.ref fa) ⟨[.ref a], []⟩) (fun r t => r = .ok (.ret (.bool true)) ∧ OldK st.heap t.heap ∧ t.os = st.os ∧ AllBare t.gens) st := by
  have rvals := vals_ints are
  have lens := are.length
  have small : ns.length ≤ sizeLine := Nat.le_trans few (by decide)
  have main : ∀ Hh : Hp, Only Hh → SqL K Hh a (ns.map V.int) → HOk P w Hh st.heap → (∀ b, Hh b ≠ none → b = a) → (Hh a ≠ none → K.lookup a = none) →
      codeAny (model P w) callerA (.call (.ref fa) ⟨[.ref a], []⟩) (fun r t => r = .ok (.ret (.bool true)) ∧ OldK st.heap t.heap ∧ t.os = st.os ∧ AllBare t.gens) st := by
    intro Hh only sq hok at_a hK
    have under : ∀ {b : Addr} {o : Obj}, st.heap.get? b = some o → Hh b = none → (hidT st.heap Hh).get? b = some o := fun e n => hidT_get e n
    have free : ∀ {b : Addr} {o : Obj}, st.heap.get? b = some o → (b = a → False) → Hh b = none := fun {b o} _ n => by
      cases q : Hh b with
      | none => rfl
      | some u => exact (n (at_a b (by rw [q]; simp))).elim
    have noDict : ∀ {b : Addr} {o : Obj} {es : Array DictEntry} {ep : Nat}, st.heap.get? b = some o → o.data = .dict es ep → Hh b = none := fun {b o es ep} e d => free e fun z => by
      subst z
      rw [obj] at e
      cases e
      cases (show Data.seq vs.toArray _ = Data.dict es ep from d)
    have spaces : ∀ {b : Addr} {m : Str → Option Value}, st.heap.Ns b m → (hidT st.heap Hh).Ns b m := fun {b m} ⟨o, es, ep, e, d, r⟩ => ⟨o, es, ep, under e (noDict e d), d, r⟩
    have kbase : K.In (hidT st.heap Hh) := fun b o e => under (kin b o e) (by
      cases q : Hh b with
      | none => rfl
      | some u =>
        have z : b = a := at_a b (by rw [q]; simp)
        subst z
        rw [hK (by rw [q]; simp)] at e
        cases e)
    have modl : Mod K mg (hidT st.heap Hh) := ⟨kbase, spaces gns, ⟨mb, spaces bns, bb⟩, let ⟨mc, h1, h2⟩ := lim; ⟨mc, spaces h1, h2⟩⟩
    have env : Env0 P w K mg (hidT st.heap Hh) callerA [] st Hh := ⟨rfl, modl, fun b o e => of_hidT e, Nat.le_of_eq (hidT_size _ _), trivial, fun b hb => (List.not_mem_nil hb).elim, hok, .of_eq gens⟩
    refine codeAny_mono ((G _ kbase (spaces gns)).run callerA [] st Hh ⟨[.ref a], []⟩ [.ref a] [.ref a] (fun v _ => v = .bl true) room rfl env (bind st (.ref a)) (.cons rfl .nil) ⟨a, ns, rfl, sq, few, fun _ => rfl⟩) fun r t z => ?_
    cases r with
    | error e => exact False.elim z
    | ok fl =>
      cases fl with
      | ret u =>
        obtain ⟨v, H', os, bare, un, hok', r', q⟩ := z
        cases (show v = .bl true from q)
        cases (show u = Value.bool true from r')
        refine ⟨rfl, OldK.of_keep fun b o e => ?_, os, bare⟩
        cases q : Hh b with
        | none => exact un.keep b o e q (fun z => List.not_mem_nil z) List.not_mem_nil
        | some u =>
          rcases only b with z | ⟨ob, xs, z⟩
          · rw [q] at z
            cases z
          · obtain ⟨e1, _⟩ := hok b _ z
            obtain ⟨e2, _⟩ := hok' b _ (un.frzs b ob _ z)
            rw [e] at e1
            cases e1
            exact e2
      | _ => exact False.elim z
  cases hk : K.lookup a with
  | some o =>
    have e := kin a o hk
    rw [obj] at e
    cases e
    exact main (fun _ => none) (fun _ => .inl rfl) (.inr ⟨_, vs.toArray, _, hk, rfl, rfl, rfl, by rw [List.size_toArray, lens]; exact small, by simpa using rvals⟩) (fun b u z => by cases (show (none : Option HO) = some u from z)) (fun b z => (z rfl).elim) fun z => (z rfl).elim
  | none =>
    refine main (fun b => if b = a then some (.frz { cls := .type "list", data := .seq vs.toArray } (.lst (ns.map V.int))) else none) (fun b => ?_) (.inl (.inr ⟨{ cls := .type "list", data := .seq vs.toArray }, if_pos rfl⟩)) (fun b u z => ?_) (fun b z => ?_) fun _ => hk
    · rcases Classical.em (b = a) with hb | hb
      · exact .inr ⟨_, _, if_pos hb⟩
      · exact .inl (if_neg hb)
    · rcases Classical.em (b = a) with hb | hb
      · cases (if_pos hb).symm.trans z
        subst hb
        exact ⟨obj, by rw [List.length_map]; exact small, vs, _, rvals, obj⟩
      · cases (if_neg hb).symm.trans z
    · exact Classical.byContradiction fun hb => z (if_neg hb)
/-- a law, over a head by facts -/
theorem walk_G {l : PySem.W.OpenLaw} {lev : Nat} {q : Program} {loose : List Str} {XP : (Str → Option Value) → Heap → Prop} {YP : World → Heap → Prop} {d : DefRec} {x : Str} (hn : l.most = some 63) (hdf : d.params.defaults = []) (hr : Room lev callerA)
    (G : ∀ (w : World) (mg : Str → Option Value) (fa : Addr) (h : Heap), YP w h → h.Ns mainGlobals mg → mg d.name = some (.ref fa) →
      ∃ (K : PySem.W.Frag) (fd : FuncData), K.In h ∧ (∀ (s : Shared) (u : Value), BindsTo s fd ⟨[u], []⟩ [(x, u)]) ∧ ∀ base : Heap, K.In base → base.Ns mainGlobals mg → FnG l.prog w K mg base lev fa fd [x] (spLawG K)) :
    PySem.W.WalkO q loose XP YP l.row.toRowW d [] (fun f vs => PySem.call f vs) := by
  refine Att.attach_call hn hdf fun w s0 st mg mb fa o pm cd doc a vs ns Gd Y ho hd hcd hmg hobj hints hlen hg => ?_
  obtain ⟨K, fd, kin, hb, hF⟩ := G w mg fa _ Y Gd.T.g hmg
  exact law_callG kin Gd.T.g Gd.T.b Gd.T.builtins Gd.T.nolimit hg hobj hints hlen hr hF hb
end DT

/-! Running the functions: plain lemmas. -/
namespace DT
open PySem
theorem bnd_ret {α β : Type} (a : α) (f : α → M β) : bnd (ret a) f = f a := rfl
theorem bnd_ofO {α β : Type} (a : α) (f : α → M β) : bnd (ofO (some a)) f = f a := rfl
theorem bnd_bnd {α β γ : Type} (m : M α) (f : α → M β) (h : β → M γ) : bnd (bnd m f) h = bnd m fun a => bnd (f a) h := by
  funext g
  unfold bnd
  cases m g with
  | none => rfl
  | some p => rfl
theorem ofO_some' {α : Type} (a : α) : ofO (some a) = ret a := rfl
theorem toB_b (b : Bool) : toB (.bool b) = ret b := rfl
theorem partO_i (i : Int) : partO (.int i) = ret (some i) := rfl
/-- a step that gives h x, for each x -/
theorem compL_fm {f : D → M (Option D)} {h : D → Option D} : ∀ {xs : List D}, (∀ x, x ∈ xs → f x = ret (h x)) → compL f xs = ret (xs.filterMap h)
  | [], _ => rfl
  | x :: xs, e => by
    unfold compL
    rw [e x List.mem_cons_self, bnd_ret, compL_fm fun y hy => e y (List.mem_cons_of_mem _ hy), bnd_ret]
    cases hx : h x with
    | none => rw [List.filterMap_cons_none hx]
    | some y => rw [List.filterMap_cons_some hx]
theorem compL_map {f : D → M (Option D)} {h : D → D} {xs : List D} (e : ∀ x, x ∈ xs → f x = ret (some (h x))) : compL f xs = ret (xs.map h) := by
  rw [compL_fm (h := fun x => some (h x)) e]
  have z : xs.filterMap (fun x => some (h x)) = xs.map h := by
    induction xs with
    | nil => rfl
    | cons y ys ih =>
      rw [List.filterMap_cons, List.map_cons, ih fun x hx => e x (List.mem_cons_of_mem _ hx)]
  rw [z]
end DT

/-! Running the functions: step by step. -/
namespace DT
open PySem
section
variable {F : List Fn} {ρ ρ1 ρ2 : Rho} {g g1 g2 g3 : PState} {x y z d : D} {a b c e : Ex} {es r : Exs} {xs ys : List D}
theorem bnd_go {α β : Type} {m : M α} {f : α → M β} {g g1 : PState} {a : α} (h : m g = some (a, g1)) : bnd m f g = f a g1 := by
  unfold bnd
  rw [h]
theorem e_v {i : Nat} (h : getV ρ i = some d) : ev F (.v i) ρ g = some (d, g) := by
  rw [ev, h]
  rfl
theorem e_k : ev F (.k d) ρ g = some (d, g) := by
  rw [ev]
  rfl
theorem e_nil : evs F .nil ρ g = some ([], g) := by
  rw [evs]
  rfl
theorem e_cons (h1 : ev F a ρ g = some (x, g1)) (h2 : evs F r ρ g1 = some (xs, g2)) : evs F (.cons a r) ρ g = some (x :: xs, g2) := by
  rw [evs, bnd_go h1, bnd_go h2]
  rfl
theorem e_tup (h : evs F es ρ g = some (xs, g1)) : ev F (.tup es) ρ g = some (.tuple xs, g1) := by
  rw [ev, bnd_go h]
  rfl
theorem e_lst (h : evs F es ρ g = some (xs, g1)) : ev F (.lst es) ρ g = some (.list xs, g1) := by
  rw [ev, bnd_go h]
  rfl
theorem e_bin {o : BOp} (h1 : ev F a ρ g = some (x, g1)) (h2 : ev F b ρ g1 = some (y, g2)) (h : binD o x y = some d) : ev F (.bin o a b) ρ g = some (d, g2) := by
  rw [ev, bnd_go h1, bnd_go h2, h]
  rfl
theorem e_neg {i : Int} (h : ev F a ρ g = some (.int i, g1)) : ev F (.neg a) ρ g = some (.int (-i), g1) := by
  rw [ev, bnd_go h]
  rfl
theorem e_not {i : Bool} (h : ev F a ρ g = some (.bool i, g1)) : ev F (.not a) ρ g = some (.bool (!i), g1) := by
  rw [ev, bnd_go h]
  rfl
theorem e_cmp {o : COp} {i : Bool} (h1 : ev F a ρ g = some (x, g1)) (h2 : ev F b ρ g1 = some (y, g2)) (h : cmpO o x y = some i) : ev F (.cmp a (.cons o b .nil)) ρ g = some (.bool i, g2) := by
  rw [ev, bnd_go h1]
  have z : evC F x (.cons o b .nil) ρ g1 = some (i, g2) := by
    rw [evC, bnd_go h2, h]
    rfl
  rw [bnd_go z]
  rfl
/-- 0 <= k < n and its like, pure parts -/
theorem e_cmp2 {o o' : COp} {i j : Bool} (h1 : ev F a ρ g = some (x, g)) (h2 : ev F b ρ g = some (y, g)) (h3 : ev F c ρ g = some (z, g)) (h : cmpO o x y = some i) (h' : i = true → cmpO o' y z = some j) : ev F (.cmp a (.cons o b (.cons o' c .nil))) ρ g = some (.bool (i && j), g) := by
  rw [ev, bnd_go h1]
  have w : evC F x (.cons o b (.cons o' c .nil)) ρ g = some (i && j, g) := by
    rw [evC]
    · rw [bnd_go h2, h]
      show (if i = true then evC F y (.cons o' c .nil) ρ else ret false) g = _
      cases i with
      | false => rfl
      | true =>
        rw [if_pos rfl, evC, bnd_go h3, h' rfl]
        rfl
    · exact fun z => by cases z
  rw [bnd_go w]
  rfl
theorem e_iteT {t : Ex} (h1 : ev F t ρ g = some (.bool true, g1)) (h2 : ev F a ρ g1 = some (d, g2)) : ev F (.ite t a b) ρ g = some (d, g2) := by
  rw [ev, bnd_go h1]
  exact h2
theorem e_iteF {t : Ex} (h1 : ev F t ρ g = some (.bool false, g1)) (h2 : ev F b ρ g1 = some (d, g2)) : ev F (.ite t a b) ρ g = some (d, g2) := by
  rw [ev, bnd_go h1]
  exact h2
theorem e_ite {t : Ex} {i : Bool} (h1 : ev F t ρ g = some (.bool i, g1)) (h2 : i = true → ev F a ρ g1 = some (x, g2)) (h3 : i = false → ev F b ρ g1 = some (y, g2)) : ev F (.ite t a b) ρ g = some (if i = true then x else y, g2) := by
  cases i with
  | true => exact e_iteT h1 (h2 rfl)
  | false => exact e_iteF h1 (h3 rfl)
theorem e_ix (h1 : ev F a ρ g = some (x, g1)) (h2 : ev F b ρ g1 = some (y, g2)) (h : ixO x y = some d) : ev F (.ix a b) ρ g = some (d, g2) := by
  rw [ev, bnd_go h1, bnd_go h2, h]
  rfl
theorem p_abs : evP F .abs ρ g = some (none, g) := by
  rw [evP]
  rfl
theorem p_int {i : Int} (n : a ≠ .abs) (h : ev F a ρ g = some (.int i, g1)) : evP F a ρ g = some (some i, g1) := by
  rw [evP, bnd_go h]
  · rfl
  · exact n
theorem e_sl {lo hi : Ex} {l u : Option Int} (h1 : ev F a ρ g = some (x, g1)) (h2 : evP F lo ρ g1 = some (l, g2)) (h3 : evP F hi ρ g2 = some (u, g3)) (h : slO x l u = some d) : ev F (.sl a lo hi) ρ g = some (d, g3) := by
  rw [ev, bnd_go h1, bnd_go h2, bnd_go h3, h]
  rfl
theorem e_rev (h1 : ev F a ρ g = some (x, g1)) (h : revO x = some d) : ev F (.rev a) ρ g = some (d, g1) := by
  rw [ev, bnd_go h1, h]
  rfl
theorem e_blt {o : Bl} (h1 : evs F es ρ g = some (xs, g1)) (h : bltO o xs = some d) : ev F (.blt o es) ρ g = some (d, g1) := by
  rw [ev, bnd_go h1, h]
  rfl
theorem e_meth {m : Me} (h0 : ev F a ρ g = some (x, g1)) (h1 : evs F es ρ g1 = some (xs, g2)) (h : metO m x xs = some d) : ev F (.meth m a es) ρ g = some (d, g2) := by
  rw [ev, bnd_go h0, bnd_go h1, h]
  rfl
theorem r_nil : evr F .nil ρ g = some ([], g) := by
  rw [evr]
  rfl
theorem r_ex {q : Ars} {as : List (Option D)} (h1 : ev F a ρ g = some (x, g1)) (h2 : evr F q ρ g1 = some (as, g2)) : evr F (.ex a q) ρ g = some (some x :: as, g2) := by
  rw [evr, bnd_go h1, bnd_go h2]
  rfl
theorem r_src {i : Nat} {q : Ars} {as : List (Option D)} (h : ρ[i]? = some (some .src)) (h2 : evr F q ρ g = some (as, g2)) : evr F (.src i q) ρ g = some (none :: as, g2) := by
  rw [evr, h]
  exact bnd_go h2
theorem e_call {i : Nat} {q : Ars} {as : List (Option D)} {f : Fn} (h1 : evr F q ρ g = some (as, g1)) (hF : F[i]? = some f) (h : f as g1 = some (d, g2)) : ev F (.call i q) ρ g = some (d, g2) := by
  rw [ev, bnd_go h1, hF]
  exact h
/-- and, or of pure parts -/
theorem e_and {i : Bool} (h : evA F es ρ g = some (i, g1)) : ev F (.and es) ρ g = some (.bool i, g1) := by
  rw [ev, bnd_go h]
  rfl
theorem e_or {i : Bool} (h : evO F es ρ g = some (i, g1)) : ev F (.or es) ρ g = some (.bool i, g1) := by
  rw [ev, bnd_go h]
  rfl
theorem a_one {i : Bool} (h : ev F a ρ g = some (.bool i, g1)) : evA F (.cons a .nil) ρ g = some (i, g1) := by
  rw [evA, bnd_go h]
  rfl
theorem a_cons {i j : Bool} (h : ev F a ρ g = some (.bool i, g)) (h2 : i = true → evA F (.cons b r) ρ g = some (j, g)) : evA F (.cons a (.cons b r)) ρ g = some (i && j, g) := by
  rw [evA]
  · rw [bnd_go h]
    show (if i = true then evA F (.cons b r) ρ else ret false) g = _
    cases i with
    | false => rfl
    | true => exact h2 rfl
  · exact fun z => by cases z
theorem o_one {i : Bool} (h : ev F a ρ g = some (.bool i, g1)) : evO F (.cons a .nil) ρ g = some (i, g1) := by
  rw [evO, bnd_go h]
  rfl
theorem o_cons {i j : Bool} (h : ev F a ρ g = some (.bool i, g)) (h2 : i = false → evO F (.cons b r) ρ g = some (j, g)) : evO F (.cons a (.cons b r)) ρ g = some (i || j, g) := by
  rw [evO]
  · rw [bnd_go h]
    show (if i = true then ret true else evO F (.cons b r) ρ) g = _
    cases i with
    | true => rfl
    | false => exact h2 rfl
  · exact fun z => by cases z
/-! ### comprehensions -/
theorem i_nil : evI F .nil ρ g = some (true, g) := by
  rw [evI]
  rfl
theorem i_one {i : Bool} (h : ev F a ρ g = some (.bool i, g1)) : evI F (.cons a .nil) ρ g = some (i, g1) := by
  rw [evI, bnd_go h]
  show (if i = true then evI F .nil ρ else ret false) g1 = _
  cases i with
  | false => rfl
  | true => exact i_nil
theorem compL_go {f : D → M (Option D)} {h : D → Option D} {g : PState} : ∀ {xs : List D}, (∀ x, x ∈ xs → f x g = some (h x, g)) → compL f xs g = some (xs.filterMap h, g)
  | [], _ => rfl
  | x :: xs, e => by
    unfold compL
    rw [bnd_go (e x List.mem_cons_self), bnd_go (compL_go fun y hy => e y (List.mem_cons_of_mem _ hy))]
    cases hx : h x with
    | none => rw [List.filterMap_cons_none hx]; rfl
    | some y => rw [List.filterMap_cons_some hx]; rfl
/-- [elt for t in ..], pure -/
theorem e_map {t : Tg} {ik : ItK} {ss : Exs} {f : D → D} {bd : D → Rho} (h1 : evs F ss ρ g = some (xs, g1)) (h2 : itO ik xs = some ys) (hb : ∀ x, x ∈ ys → bindT t x (wipeR (freeze (escs ss) ρ) (slotsT t)) = some (bd x))
    (he : ∀ x, x ∈ ys → ev F e (bd x) g1 = some (f x, g1)) : ev F (.comp e t ik ss .nil) ρ g = some (.list (ys.map f), g1) := by
  rw [ev, bnd_go h1, h2]
  rw [bnd_ofO]
  have z := compL_go (g := g1) (h := fun x => some (f x)) (xs := ys) (f := fun d => bnd (ofO (bindT t d (wipeR (freeze (escs ss) ρ) (slotsT t)))) fun ρ' => bnd (evI F .nil ρ') fun b => if b = true then bnd (ev F e ρ') fun y => ret (some y) else ret none) fun x hx => by
    rw [hb x hx]
    show bnd (evI F .nil (bd x)) _ g1 = _
    rw [bnd_go i_nil, if_pos rfl, bnd_go (he x hx)]
    rfl
  rw [bnd_go z]
  have q : ys.filterMap (fun x => some (f x)) = ys.map f := by
    clear z he hb h2
    induction ys with
    | nil => rfl
    | cons y ys ih => rw [List.filterMap_cons, List.map_cons, ih]
  rw [q]
  rfl
/-- [elt for t in .. if c], pure -/
theorem e_filter {t : Tg} {ik : ItK} {ss : Exs} {f : D → D} {p : D → Bool} {bd : D → Rho} (h1 : evs F ss ρ g = some (xs, g1)) (h2 : itO ik xs = some ys) (hb : ∀ x, x ∈ ys → bindT t x (wipeR (freeze (escs ss) ρ) (slotsT t)) = some (bd x))
    (hc : ∀ x, x ∈ ys → ev F c (bd x) g1 = some (.bool (p x), g1)) (he : ∀ x, x ∈ ys → p x = true → ev F e (bd x) g1 = some (f x, g1)) : ev F (.comp e t ik ss (.cons c .nil)) ρ g = some (.list ((ys.filter p).map f), g1) := by
  rw [ev, bnd_go h1, h2]
  rw [bnd_ofO]
  have z := compL_go (g := g1) (h := fun x => if p x = true then some (f x) else none) (xs := ys) (f := fun d => bnd (ofO (bindT t d (wipeR (freeze (escs ss) ρ) (slotsT t)))) fun ρ' => bnd (evI F (.cons c .nil) ρ') fun b => if b = true then bnd (ev F e ρ') fun y => ret (some y) else ret none) fun x hx => by
    rw [hb x hx]
    show bnd (evI F (.cons c .nil) (bd x)) _ g1 = _
    rw [bnd_go (i_one (hc x hx))]
    cases hp : p x with
    | false => rfl
    | true =>
      rw [if_pos rfl, bnd_go (he x hx hp)]
      rfl
  rw [bnd_go z]
  have q : ys.filterMap (fun x => if p x = true then some (f x) else none) = (ys.filter p).map f := by
    clear z he hb h2 hc
    induction ys with
    | nil => rfl
    | cons y ys ih =>
      rw [List.filterMap_cons, List.filter_cons, ih]
      cases p y <;> rfl
  rw [q]
  rfl
/-! ### statements -/
theorem x_nil : exs F .nil ρ g = some ((.nx, ρ), g) := by
  rw [exs]
  rfl
theorem x_cons {s : Sx} {r : Sxs} {q : Fl × Rho} (h1 : ex F s ρ g = some ((.nx, ρ1), g1)) (h2 : exs F r ρ1 g1 = some (q, g2)) : exs F (.cons s r) ρ g = some (q, g2) := by
  rw [exs, bnd_go h1]
  exact h2
theorem x_stop {s : Sx} {r : Sxs} (h1 : ex F s ρ g = some ((.rt d, ρ1), g1)) : exs F (.cons s r) ρ g = some ((.rt d, ρ1), g1) := by
  rw [exs, bnd_go h1]
  rfl
theorem x_set {i : Nat} (h : ev F e ρ g = some (d, g1)) (hr : (freeze (esc e) ρ).set i (some (.d (fresh e) d)) = ρ1) : ex F (.set i e) ρ g = some ((.nx, ρ1), g1) := by
  rw [ex, bnd_go h, hr]
  rfl
theorem x_par {is : List Nat} (h : evs F es ρ g = some (xs, g1)) (hr : setIs is ((fres es).zip xs) (freeze (escs es) ρ) = ρ1) : ex F (.par is es) ρ g = some ((.nx, ρ1), g1) := by
  rw [ex, bnd_go h, hr]
  rfl
theorem x_unp {t : Tg} (h : ev F e ρ g = some (d, g1)) (hr : bindT t d (freeze (esc e) ρ) = some ρ1) : ex F (.unp t e) ρ g = some ((.nx, ρ1), g1) := by
  rw [ex, bnd_go h, hr]
  rfl
theorem x_app {i : Nat} {l : List D} (h : ev F e ρ g = some (d, g1)) (hs : (freeze (esc e) ρ)[i]? = some (some (.d true (.list l)))) (hl : l.length < LINE) (hr : (freeze (esc e) ρ).set i (some (.d true (.list (l ++ [d])))) = ρ1) : ex F (.app i e) ρ g = some ((.nx, ρ1), g1) := by
  rw [ex, bnd_go h, hs]
  dsimp only
  rw [if_pos (decide_eq_true hl), hr]
  rfl
theorem x_ext {i : Nat} {l l' : List D} (h : ev F e ρ g = some (.list l', g1)) (hs : (freeze (esc e) ρ)[i]? = some (some (.d true (.list l)))) (hl : l.length + l'.length ≤ LINE) (hr : (freeze (esc e) ρ).set i (some (.d true (.list (l ++ l')))) = ρ1) : ex F (.ext i e) ρ g = some ((.nx, ρ1), g1) := by
  rw [ex, bnd_go h, hs]
  dsimp only
  rw [if_pos (decide_eq_true hl), hr]
  rfl
theorem x_iffT {t : Ex} {p q : Sxs} {w : Fl × Rho} (h : ev F t ρ g = some (.bool true, g1)) (h2 : exs F p ρ g1 = some (w, g2)) : ex F (.iff t p q) ρ g = some (w, g2) := by
  rw [ex, bnd_go h]
  exact h2
theorem x_iffF {t : Ex} {p q : Sxs} {w : Fl × Rho} (h : ev F t ρ g = some (.bool false, g1)) (h2 : exs F q ρ g1 = some (w, g2)) : ex F (.iff t p q) ρ g = some (w, g2) := by
  rw [ex, bnd_go h]
  exact h2
theorem x_retE (h : ev F e ρ g = some (d, g1)) : ex F (.ret e) ρ g = some ((.rt d, ρ), g1) := by
  rw [ex, bnd_go h]
  rfl
theorem x_for {t : Tg} {ik : ItK} {ss : Exs} {body : Sxs} {w : Fl × Rho} (h1 : evs F ss ρ g = some (xs, g1)) (h2 : itO ik xs = some ys) (h3 : forL (fun ρ x => bnd (ofO (bindT t x ρ)) fun ρ' => exs F body ρ') ys (freeze (escs ss) ρ) g1 = some (w, g2)) : ex F (.for t ik ss body) ρ g = some (w, g2) := by
  rw [ex, bnd_go h1, h2]
  exact h3
theorem f_nil {f : Rho → D → M (Fl × Rho)} : forL f [] ρ g = some ((.nx, ρ), g) := rfl
theorem f_step {f : Rho → D → M (Fl × Rho)} {w : Fl × Rho} (h1 : f ρ x g = some ((.nx, ρ1), g1)) (h2 : forL f xs ρ1 g1 = some (w, g2)) : forL f (x :: xs) ρ g = some (w, g2) := by
  unfold forL
  rw [bnd_go h1]
  exact h2
theorem f_stop {f : Rho → D → M (Fl × Rho)} (h1 : f ρ x g = some ((.rt d, ρ1), g1)) : forL f (x :: xs) ρ g = some ((.rt d, ρ1), g1) := by
  unfold forL
  rw [bnd_go h1]
  rfl
theorem b_go {t : Tg} {body : Sxs} {w : Fl × Rho} (h1 : bindT t x ρ = some ρ1) (h2 : exs F body ρ1 g = some (w, g1)) : (bnd (ofO (bindT t x ρ)) fun ρ' => exs F body ρ') g = some (w, g1) := by
  rw [h1]
  exact h2
theorem fn_go {n : Nat} {body : Sxs} {as : List (Option D)} (h : exs F body (as.map sl0 ++ List.replicate (n - as.length) none) g = some ((.rt d, ρ1), g1)) : fnOf F n body as g = some (d, g1) := by
  unfold fnOf
  rw [bnd_go h]
  rfl
/-- a for with an invariant, which ends -/
theorem for_inv {f : Rho → D → M (Fl × Rho)} (P : List D → Rho → PState → Prop) : ∀ (xs : List D) (ρ : Rho) (g : PState), P xs ρ g → (∀ x r ρ g, (∃ pre, pre ++ x :: r = xs) → P (x :: r) ρ g → ∃ ρ' g', f ρ x g = some ((.nx, ρ'), g') ∧ P r ρ' g') → ∃ ρ' g', forL f xs ρ g = some ((.nx, ρ'), g') ∧ P [] ρ' g'
  | [], ρ, g, h, _ => ⟨ρ, g, rfl, h⟩
  | x :: xs, ρ, g, h, st => by
    obtain ⟨ρ1, g1, e1, h1⟩ := st x xs ρ g ⟨[], rfl⟩ h
    obtain ⟨ρ2, g2, e2, h2⟩ := for_inv P xs ρ1 g1 h1 fun y r ρ g ⟨pre, hp⟩ => st y r ρ g ⟨x :: pre, by rw [← hp]; rfl⟩
    exact ⟨ρ2, g2, f_step e1 e2, h2⟩
end
end DT

/-! Plain helpers over data. -/
namespace DT
open PySem
inductive All2 {α β : Type} (Q : α → β → Prop) : List α → List β → Prop where
  | nil : All2 Q [] []
  | cons {a b as bs} : Q a b → All2 Q as bs → All2 Q (a :: as) (b :: bs)
theorem All2.length {α β : Type} {Q : α → β → Prop} : ∀ {as : List α} {bs : List β}, All2 Q as bs → as.length = bs.length
  | _, _, .nil => rfl
  | _, _, .cons _ h => by rw [List.length_cons, List.length_cons, h.length]
theorem All2.right {α β : Type} {Q : α → β → Prop} : ∀ {as : List α} {bs : List β}, All2 Q as bs → ∀ b, b ∈ bs → ∃ a, a ∈ as ∧ Q a b
  | _, _, .nil, b, h => absurd h List.not_mem_nil
  | _, _, .cons q h, b, hb => by
    rcases List.mem_cons.mp hb with rfl | hb
    · exact ⟨_, List.mem_cons_self, q⟩
    · obtain ⟨a, ha, qa⟩ := h.right b hb
      exact ⟨a, List.mem_cons_of_mem _ ha, qa⟩
def intD (i : Int) : D := .int i
def natD (k : Nat) : D := .int (k : Int)
def tupI (l : List Int) : D := .tuple (l.map intD)
def lotD (l : List Nat) : D := .tuple (l.map natD)
theorem intsOf_map {α : Type} (f : α → Int) : ∀ l : List α, intsOf (l.map fun a => .int (f a)) = some (l.map f)
  | [] => rfl
  | a :: l => by
    rw [List.map_cons, intsOf, intsOf_map f l]
    rfl
theorem boolsOf_map {α : Type} (f : α → Bool) : ∀ l : List α, boolsOf (l.map fun a => .bool (f a)) = some (l.map f)
  | [] => rfl
  | a :: l => by
    rw [List.map_cons, boolsOf, boolsOf_map f l]
    rfl
theorem blt_min {α : Type} {l : List α} (f : α → Int) (ne : l ≠ []) : bltO .min [.list (l.map fun a => .int (f a))] = some (.int (minI (l.map f))) := by
  show (match intsOf (l.map fun a => .int (f a)) with
    | some (n :: ns) => some (PyData.int (minI (n :: ns)))
    | _ => none) = _
  rw [intsOf_map]
  cases l with
  | nil => exact absurd rfl ne
  | cons a l => rfl
theorem blt_sum {α : Type} {l : List α} (f : α → Int) : bltO .sum [.list (l.map fun a => .int (f a))] = some (.int (l.map f).sum) := by
  show Option.map (fun ns : List Int => PyData.int ns.sum) (intsOf (l.map fun a => .int (f a))) = _
  rw [intsOf_map]
  rfl
theorem blt_all {α : Type} {l : List α} (f : α → Bool) : bltO .all [.list (l.map fun a => .bool (f a))] = some (.bool (l.all f)) := by
  show Option.map (fun bs : List Bool => PyData.bool (bs.all id)) (boolsOf (l.map fun a => .bool (f a))) = _
  rw [boolsOf_map]
  show some (PyData.bool ((l.map f).all id)) = _
  rw [List.all_map]
  rfl
theorem blt_any {α : Type} {l : List α} (f : α → Bool) : bltO .any [.list (l.map fun a => .bool (f a))] = some (.bool (l.any f)) := by
  show Option.map (fun bs : List Bool => PyData.bool (bs.any id)) (boolsOf (l.map fun a => .bool (f a))) = _
  rw [boolsOf_map]
  show some (PyData.bool ((l.map f).any id)) = _
  rw [List.any_map]
  rfl
theorem blt_lenL {α : Type} {l : List α} (f : α → D) : bltO .len [.list (l.map f)] = some (.int l.length) := by
  show some (PyData.int ((l.map f).length : Int)) = _
  rw [List.length_map]
theorem blt_lenT {α : Type} {l : List α} (f : α → D) : bltO .len [.tuple (l.map f)] = some (.int l.length) := by
  show some (PyData.int ((l.map f).length : Int)) = _
  rw [List.length_map]
theorem it_rng {n : Nat} (h : n ≤ LINE) : itO .rng1 [.int n] = some ((List.range n).map natD) := by
  show rngO 0 n = _
  unfold rngO LINE at *
  have e : ((n : Int) - 0).toNat = n := by omega
  rw [if_pos]
  · unfold rngL
    rw [e]
    congr 1
    refine List.map_congr_left fun k _ => ?_
    unfold natD
    rw [Int.zero_add]
  · rw [e]
    simp only [Bool.and_eq_true, decide_eq_true_eq]
    omega
theorem it_rng2 {a b : Nat} (h : b ≤ LINE) (ha : a ≤ LINE) : itO .rng2 [.int a, .int b] = some ((List.range (b - a)).map fun i => natD (a + i)) := by
  show rngO a b = _
  unfold rngO LINE at *
  have e : ((b : Int) - a).toNat = b - a := by omega
  rw [if_pos]
  · unfold rngL
    rw [e]
    rfl
  · rw [e]
    simp only [Bool.and_eq_true, decide_eq_true_eq]
    omega
theorem atI_nat' {α : Type} {l : List α} {i : Nat} {x : α} (h : l[i]? = some x) : L2.atI l (i : Int) = some x := by
  have hi := (List.getElem?_eq_some_iff.mp h).1
  unfold L2.atI L2.ixN
  rw [if_pos (Int.natCast_nonneg i), if_pos (by omega)]
  show l[(i : Int).toNat]? = some x
  rw [Int.toNat_natCast]
  exact h
theorem ix_tup {α : Type} {l : List α} {f : α → D} {i : Nat} {x : α} {j : Int} (e : j = i) (h : l[i]? = some x) : ixO (.tuple (l.map f)) (.int j) = some (f x) := by
  subst e
  exact atI_nat' (by rw [List.getElem?_map, h]; rfl)
theorem ix_lst {α : Type} {l : List α} {f : α → D} {i : Nat} {x : α} {j : Int} (e : j = i) (h : l[i]? = some x) : ixO (.list (l.map f)) (.int j) = some (f x) := by
  subst e
  exact atI_nat' (by rw [List.getElem?_map, h]; rfl)
theorem ix_last {α : Type} {l : List α} {f : α → D} {x : α} (h : l.getLast? = some x) : ixO (.tuple (l.map f)) (.int (-1)) = some (f x) := by
  show L2.atI (l.map f) (-1) = _
  have hn : l ≠ [] := fun e => by
    rw [e] at h
    cases h
  have hl : 0 < l.length := List.length_pos_iff.mpr hn
  unfold L2.atI L2.ixN
  rw [if_neg (by decide), List.length_map, if_pos (by omega)]
  show (l.map f)[(l.length + (-1) : Int).toNat]? = _
  have e : (l.length + (-1) : Int).toNat = l.length - 1 := by omega
  rw [e, List.getElem?_map, ← List.getLast?_eq_getElem?, h]
  rfl
/-! ### comprehensions over a list that is a map -/
section
variable {F : List Fn} {ρ : Rho} {g : PState} {e c : Ex} {α : Type} {l : List α} {h : α → D} {t : Tg} {ik : ItK} {ss : Exs} {xs : List D}
theorem fm_some {β : Type} {l : List α} (f : α → β) : l.filterMap (fun x => some (f x)) = l.map f := by
  induction l with
  | nil => rfl
  | cons y ys ih => rw [List.filterMap_cons, List.map_cons, ih]
theorem fm_if {β : Type} {l : List α} (p : α → Bool) (f : α → β) : l.filterMap (fun x => if p x = true then some (f x) else none) = (l.filter p).map f := by
  induction l with
  | nil => rfl
  | cons y ys ih =>
    rw [List.filterMap_cons, List.filter_cons, ih]
    cases p y <;> rfl
theorem compL_goA {f : D → M (Option D)} {k : α → Option D} : ∀ {l : List α}, (∀ a, a ∈ l → f (h a) g = some (k a, g)) → compL f (l.map h) g = some (l.filterMap k, g)
  | [], _ => rfl
  | a :: l, e => by
    rw [List.map_cons]
    unfold compL
    rw [bnd_go (e a List.mem_cons_self), bnd_go (compL_goA fun y hy => e y (List.mem_cons_of_mem _ hy))]
    cases hx : k a with
    | none => rw [List.filterMap_cons_none hx]; rfl
    | some y => rw [List.filterMap_cons_some hx]; rfl
theorem e_mapA {f : α → D} {bd : α → Rho} (h1 : evs F ss ρ g = some (xs, g)) (h2 : itO ik xs = some (l.map h)) (hb : ∀ a, a ∈ l → bindT t (h a) (wipeR (freeze (escs ss) ρ) (slotsT t)) = some (bd a))
    (he : ∀ a, a ∈ l → ev F e (bd a) g = some (f a, g)) : ev F (.comp e t ik ss .nil) ρ g = some (.list (l.map f), g) := by
  rw [ev, bnd_go h1, h2, bnd_ofO]
  have z := compL_goA (g := g) (h := h) (k := fun a => some (f a)) (l := l) (f := fun d => bnd (ofO (bindT t d (wipeR (freeze (escs ss) ρ) (slotsT t)))) fun ρ' => bnd (evI F .nil ρ') fun b => if b = true then bnd (ev F e ρ') fun y => ret (some y) else ret none) fun x hx => by
    rw [hb x hx]
    show bnd (evI F .nil (bd x)) _ g = _
    rw [bnd_go i_nil, if_pos rfl, bnd_go (he x hx)]
    rfl
  rw [bnd_go z, fm_some]
  rfl
theorem e_filA {f : α → D} {p : α → Bool} {bd : α → Rho} (h1 : evs F ss ρ g = some (xs, g)) (h2 : itO ik xs = some (l.map h)) (hb : ∀ a, a ∈ l → bindT t (h a) (wipeR (freeze (escs ss) ρ) (slotsT t)) = some (bd a))
    (hc : ∀ a, a ∈ l → ev F c (bd a) g = some (.bool (p a), g)) (he : ∀ a, a ∈ l → p a = true → ev F e (bd a) g = some (f a, g)) : ev F (.comp e t ik ss (.cons c .nil)) ρ g = some (.list ((l.filter p).map f), g) := by
  rw [ev, bnd_go h1, h2, bnd_ofO]
  have z := compL_goA (g := g) (h := h) (k := fun a => if p a = true then some (f a) else none) (l := l) (f := fun d => bnd (ofO (bindT t d (wipeR (freeze (escs ss) ρ) (slotsT t)))) fun ρ' => bnd (evI F (.cons c .nil) ρ') fun b => if b = true then bnd (ev F e ρ') fun y => ret (some y) else ret none) fun x hx => by
    rw [hb x hx]
    show bnd (evI F (.cons c .nil) (bd x)) _ g = _
    rw [bnd_go (i_one (hc x hx))]
    cases hp : p x with
    | false => rfl
    | true =>
      rw [if_pos rfl, bnd_go (he x hx hp)]
      rfl
  rw [bnd_go z, fm_if]
  rfl
/-- a comprehension that draws -/
theorem compL_ex {β : Type} {f : D → M (Option D)} {k : β → D} {Q : α → β → Prop} : ∀ {l : List α} {g : PState}, (∀ a, a ∈ l → ∀ g, ∃ y g', f (h a) g = some (some (k y), g') ∧ Q a y) → ∃ ys g', compL f (l.map h) g = some (List.map k ys, g') ∧ All2 Q l ys
  | [], g, _ => ⟨[], g, rfl, .nil⟩
  | a :: l, g, e => by
    obtain ⟨y, g1, h1, q1⟩ := e a List.mem_cons_self g
    obtain ⟨ys, g2, h2, q2⟩ := compL_ex (l := l) (g := g1) fun y hy => e y (List.mem_cons_of_mem _ hy)
    refine ⟨y :: ys, g2, ?_, .cons q1 q2⟩
    rw [List.map_cons]
    unfold compL
    rw [bnd_go h1, bnd_go h2]
    rfl
theorem e_mapX {β : Type} {k : β → D} {Q : α → β → Prop} {bd : α → Rho} (h1 : evs F ss ρ g = some (xs, g)) (h2 : itO ik xs = some (l.map h)) (hb : ∀ a, a ∈ l → bindT t (h a) (wipeR (freeze (escs ss) ρ) (slotsT t)) = some (bd a))
    (he : ∀ a, a ∈ l → ∀ g, ∃ y g', ev F e (bd a) g = some (k y, g') ∧ Q a y) : ∃ ys g', ev F (.comp e t ik ss .nil) ρ g = some (.list (List.map k ys), g') ∧ All2 Q l ys := by
  obtain ⟨ys, g', e', q⟩ := compL_ex (k := k) (Q := Q) (h := h) (l := l) (g := g) (f := fun d => bnd (ofO (bindT t d (wipeR (freeze (escs ss) ρ) (slotsT t)))) fun ρ' => bnd (evI F .nil ρ') fun b => if b = true then bnd (ev F e ρ') fun y => ret (some y) else ret none) fun x hx g => by
    obtain ⟨y, g', e1, q1⟩ := he x hx g
    refine ⟨y, g', ?_, q1⟩
    rw [hb x hx]
    show bnd (evI F .nil (bd x)) _ g = _
    rw [bnd_go i_nil, if_pos rfl, bnd_go e1]
    rfl
  refine ⟨ys, g', ?_, q⟩
  rw [ev, bnd_go h1, h2, bnd_ofO, bnd_go e']
  rfl
end
/-! ### size and shape -/
/-- data of ints and nothing odd, within sizes -/
structure Fz (w k : Nat) (d : D) : Prop where
  lay : d.canLay0 = true
  dep : d.depth ≤ k
  wgt : d.weight ≤ w
  sht : d.intsShort 13 = true
  shw : d.showable = true
theorem Fz.mono {w k w' k' : Nat} {d : D} (h : Fz w k d) (hw : w ≤ w') (hk : k ≤ k') : Fz w' k' d := ⟨h.lay, Nat.le_trans h.dep hk, Nat.le_trans h.wgt hw, h.sht, h.shw⟩
theorem Fz.none : Fz 0 0 .none := ⟨rfl, by decide, by decide, rfl, rfl⟩
theorem Fz.bool (b : Bool) : Fz 0 0 (.bool b) := ⟨rfl, by decide +revert, by decide +revert, rfl, rfl⟩
theorem Fz.all {w k : Nat} : ∀ {xs : List D}, (∀ x, x ∈ xs → Fz w k x) → PyData.canLayAll0 xs = true ∧ PyData.depthAll xs ≤ k ∧ PyData.weightAll xs ≤ xs.length * (w + 1) ∧ PyData.intsShortAll 13 xs = true ∧ PyData.showableAll xs = true
  | [], _ => ⟨by rw [PyData.canLayAll0], by rw [PyData.depthAll]; omega, by rw [PyData.weightAll]; omega, by rw [PyData.intsShortAll], by rw [PyData.showableAll]⟩
  | x :: xs, h => by
    obtain ⟨a, b, c, d, e⟩ := Fz.all (xs := xs) fun y hy => h y (List.mem_cons_of_mem _ hy)
    have q := h x List.mem_cons_self
    rw [PyData.canLayAll0, PyData.depthAll, PyData.weightAll, PyData.intsShortAll, PyData.showableAll, q.lay, q.sht, q.shw, a, d, e]
    have q1 := q.dep
    have q2 := q.wgt
    refine ⟨rfl, by omega, ?_, rfl, rfl⟩
    rw [List.length_cons, Nat.add_mul]
    omega
theorem Fz.tup {w k : Nat} {xs : List D} (n : Nat) (hn : xs.length ≤ n) (h : ∀ x, x ∈ xs → Fz w k x) : Fz (n * (w + 1)) (k + 1) (.tuple xs) := by
  obtain ⟨a, b, c, d, e⟩ := Fz.all h
  refine ⟨by rw [PyData.canLay0]; exact a, by rw [PyData.depth]; omega, by rw [PyData.weight]; exact Nat.le_trans c (Nat.mul_le_mul_right _ hn), by rw [PyData.intsShort]; exact d, by rw [PyData.showable]; exact e⟩
theorem Fz.lst {w k : Nat} {xs : List D} (n : Nat) (hn : xs.length ≤ n) (h : ∀ x, x ∈ xs → Fz w k x) : Fz (n * (w + 1)) (k + 1) (.list xs) := by
  obtain ⟨a, b, c, d, e⟩ := Fz.all h
  refine ⟨by rw [PyData.canLay0]; exact a, by rw [PyData.depth]; omega, by rw [PyData.weight]; exact Nat.le_trans c (Nat.mul_le_mul_right _ hn), by rw [PyData.intsShort]; exact d, by rw [PyData.showable]; exact e⟩
theorem Fz.shaped {w k : Nat} {d : D} (h : Fz w k d) (hk : k ≤ 64) : SeqAt.shaped d = true := by
  unfold SeqAt.shaped
  rw [h.lay, Bool.true_and]
  exact decide_eq_true (Nat.le_trans h.dep hk)
theorem Fz.repr {w k : Nat} {d : D} (h : Fz w k d) (hw : w ≤ 1048576) (hk : k ≤ 64) : reprO d = some (.str d.shown) := by
  have hd : d.depth ≤ 64 := Nat.le_trans h.dep hk
  have hl : PyData.layable0 d = true := by
    unfold PyData.layable0
    rw [h.lay, Bool.true_and, Bool.and_eq_true]
    exact ⟨decide_eq_true hd, decide_eq_true (Nat.le_trans (Nat.le_trans h.wgt hw) (by decide))⟩
  have hs := PyProof.Rows.shown_le13 hl h.sht
  have nk : noKeys d = true := by
    unfold noKeys
    split
    · rfl
    · exact h.lay
  unfold reprO
  rw [if_pos]
  rw [nk, h.shw, decide_eq_true hd, decide_eq_true]
  · rfl
  · unfold LINE
    omega
theorem natD_short : ∀ k : Nat, k < 64 → (natD k).intsShort 13 = true := by decide +kernel
theorem natD_weight : ∀ k : Nat, k < 64 → (natD k).weight ≤ 7 := by decide +kernel
theorem natD_showable : ∀ k : Nat, k < 64 → (natD k).showable = true := by decide +kernel
theorem Fz.nat {k : Nat} (h : k < 64) : Fz 7 0 (natD k) := ⟨rfl, by unfold natD; rw [PyData.depth]; exact Nat.le_refl _, natD_weight k h, natD_short k h, natD_showable k h⟩
theorem Fz.lot {l : List Nat} (n : Nat) (hn : l.length ≤ n) (h : ∀ k, k ∈ l → k < 64) : Fz (n * 8) 1 (lotD l) := Fz.tup (w := 7) (k := 0) n (by rw [List.length_map]; exact hn) fun x hx => by
  obtain ⟨k, hk, rfl⟩ := List.mem_map.mp hx
  exact .nat (h k hk)
theorem eqv_nat (a b : Nat) : PyData.eqv (natD a) (natD b) = decide (a = b) := by
  unfold natD
  rw [PyData.eqv]
  by_cases h : a = b
  · rw [decide_eq_true h, h]
    exact beq_self_eq_true _
  · rw [decide_eq_false h]
    exact beq_eq_false_iff_ne.mpr fun e => h (by omega)
theorem eqvAll_nat : ∀ a b : List Nat, PyData.eqvAll (a.map natD) (b.map natD) = decide (a = b)
  | [], [] => by rw [List.map_nil, PyData.eqvAll]; rfl
  | [], b :: bs => by rw [List.map_nil, List.map_cons, PyData.eqvAll]; rfl
  | a :: as, [] => by rw [List.map_nil, List.map_cons, PyData.eqvAll]; rfl
  | a :: as, b :: bs => by
    rw [List.map_cons, List.map_cons, PyData.eqvAll, eqv_nat, eqvAll_nat as bs]
    by_cases h : a = b
    · subst h
      rw [decide_eq_true rfl, Bool.true_and]
      by_cases h' : as = bs
      · subst h'
        rw [decide_eq_true rfl, decide_eq_true rfl]
      · rw [decide_eq_false h', decide_eq_false fun e => h' (List.cons.inj e).2]
    · rw [decide_eq_false h, decide_eq_false fun e => h (List.cons.inj e).1]
      rfl
theorem eqv_lot (a b : List Nat) : PyData.eqv (lotD a) (lotD b) = decide (a = b) := by
  unfold lotD
  rw [PyData.eqv]
  exact eqvAll_nat a b
/-- sorted of small numbers -/
theorem sort_nat (l : List Nat) : sortO (l.map natD) = some ((l.mergeSort fun a b => decide (a ≤ b)).map natD) := by
  have h1 : sortOk (l.map natD) = true := by
    unfold sortOk
    rw [Bool.and_eq_true, Bool.and_eq_true]
    refine ⟨⟨?_, ?_⟩, ?_⟩
    · refine List.all_eq_true.mpr fun d hd => List.all_eq_true.mpr fun e he => ?_
      obtain ⟨a, _, rfl⟩ := List.mem_map.mp hd
      obtain ⟨b, _, rfl⟩ := List.mem_map.mp he
      rfl
    · refine (Bool.or_eq_true ..).mpr (.inr (List.all_eq_true.mpr fun d hd => ?_))
      obtain ⟨a, _, rfl⟩ := List.mem_map.mp hd
      rfl
    · rw [Bool.and_eq_true]
      constructor
      · induction l with
        | nil => rfl
        | cons a l ih =>
          rw [List.map_cons, PyData.canLayAll0, ih]
          rfl
      · refine List.all_eq_true.mpr fun d hd => ?_
        obtain ⟨a, _, rfl⟩ := List.mem_map.mp hd
        rfl
  unfold sortO
  rw [if_pos h1]
  congr 1
  refine (List.map_mergeSort fun a _ b _ => ?_).symm
  have q := congrFun (congrFun (PySem.W.dataLe_int fun b : Nat => (b : Int)) a) b
  have q2 : PySem.W.dataLe false id (natD a) (natD b) = PySem.W.dataLe false (fun b : Nat => PyData.int (b : Int)) a b := rfl
  rw [q2, q]
  by_cases h : a ≤ b
  · rw [decide_eq_true h, decide_eq_true (by omega)]
  · rw [decide_eq_false h, decide_eq_false (by omega)]
end DT

/-! More plain helpers: comprehensions whose target is a name, texts compared. -/
namespace DT
open PySem
/-- what stands at a place of a table of functions -/
def At (F : List Fn) (i : Nat) (Sp : Fn → Prop) : Prop := ∃ f, F[i]? = some f ∧ Sp f
section
variable {F : List Fn} {ρ ρ1 : Rho} {g g1 g2 : PState} {a b e c : Ex} {α : Type} {l : List α} {h : α → D} {i : Nat} {ik : ItK} {ss : Exs} {xs : List D} {d x : D}
/-- the slots within a comprehension over the name i -/
abbrev inC (ss : Exs) (ρ : Rho) (i : Nat) (x : D) : Rho := (wipeR (freeze (escs ss) ρ) [i]).set i (some (.d false x))
theorem e_mapV {f : α → D} (h1 : evs F ss ρ g = some (xs, g)) (h2 : itO ik xs = some (l.map h)) (he : ∀ a, a ∈ l → ev F e (inC ss ρ i (h a)) g = some (f a, g)) : ev F (.comp e (.n i) ik ss .nil) ρ g = some (.list (l.map f), g) :=
  e_mapA h1 h2 (fun _ _ => rfl) he
theorem e_filV {f : α → D} {p : α → Bool} (h1 : evs F ss ρ g = some (xs, g)) (h2 : itO ik xs = some (l.map h)) (hc : ∀ a, a ∈ l → ev F c (inC ss ρ i (h a)) g = some (.bool (p a), g)) (he : ∀ a, a ∈ l → p a = true → ev F e (inC ss ρ i (h a)) g = some (f a, g)) : ev F (.comp e (.n i) ik ss (.cons c .nil)) ρ g = some (.list ((l.filter p).map f), g) :=
  e_filA h1 h2 (fun _ _ => rfl) hc he
theorem e_allV {p : α → Bool} (h1 : evs F ss ρ g = some (xs, g)) (h2 : itO ik xs = some (l.map h)) (he : ∀ a, a ∈ l → ev F e (inC ss ρ i (h a)) g = some (.bool (p a), g)) : ev F (.blt .all (.cons (.comp e (.n i) ik ss .nil) .nil)) ρ g = some (.bool (l.all p), g) :=
  e_blt (e_cons (e_mapV (f := fun a => .bool (p a)) h1 h2 he) e_nil) (blt_all p)
theorem e_anyV {p : α → Bool} (h1 : evs F ss ρ g = some (xs, g)) (h2 : itO ik xs = some (l.map h)) (he : ∀ a, a ∈ l → ev F e (inC ss ρ i (h a)) g = some (.bool (p a), g)) : ev F (.blt .any (.cons (.comp e (.n i) ik ss .nil) .nil)) ρ g = some (.bool (l.any p), g) :=
  e_blt (e_cons (e_mapV (f := fun a => .bool (p a)) h1 h2 he) e_nil) (blt_any p)
theorem e_minV {f : α → Int} (ne : l ≠ []) (h1 : evs F ss ρ g = some (xs, g)) (h2 : itO ik xs = some (l.map h)) (he : ∀ a, a ∈ l → ev F e (inC ss ρ i (h a)) g = some (.int (f a), g)) : ev F (.blt .min (.cons (.comp e (.n i) ik ss .nil) .nil)) ρ g = some (.int (minI (l.map f)), g) :=
  e_blt (e_cons (e_mapV (f := fun a => .int (f a)) h1 h2 he) e_nil) (blt_min f ne)
/-- over a range -/
theorem r_rng {n : Nat} (h : ev F a ρ g = some (natD n, g)) (hn : n ≤ LINE) : ∃ xs, evs F (.cons a .nil) ρ g = some (xs, g) ∧ itO .rng1 xs = some ((List.range n).map natD) :=
  ⟨_, e_cons h e_nil, it_rng hn⟩
theorem eqO_str (s t : Str) : eqO (.str s) (.str t) = some (decide (s = t)) := rfl
/-- two texts of the same data -/
theorem e_rne {w k : Nat} (z : Fz w k d) (hw : w ≤ 1048576) (hk : k ≤ 64) (h1 : ev F a ρ g = some (d, g1)) (h2 : ev F b ρ g1 = some (d, g2)) : ev F (.cmp (.blt .repr (.cons a .nil)) (.cons .ne (.blt .repr (.cons b .nil)) .nil)) ρ g = some (.bool false, g2) :=
  e_cmp (e_blt (e_cons h1 e_nil) (z.repr hw hk)) (e_blt (e_cons h2 e_nil) (z.repr hw hk)) (by
    show Option.map not (some (decide (d.shown = d.shown))) = _
    rw [decide_eq_true rfl]
    rfl)
theorem e_req {w k : Nat} (z : Fz w k d) (hw : w ≤ 1048576) (hk : k ≤ 64) (h1 : ev F a ρ g = some (d, g1)) (h2 : ev F b ρ g1 = some (d, g2)) : ev F (.cmp (.blt .repr (.cons a .nil)) (.cons .eq (.blt .repr (.cons b .nil)) .nil)) ρ g = some (.bool true, g2) :=
  e_cmp (e_blt (e_cons h1 e_nil) (z.repr hw hk)) (e_blt (e_cons h2 e_nil) (z.repr hw hk)) (by
    show some (decide (d.shown = d.shown)) = _
    rw [decide_eq_true rfl])
/-- a test that does not hold, and nothing else -/
theorem x_no {t : Ex} {p r : Sxs} {q : Fl × Rho} (h : ev F t ρ g = some (.bool false, g1)) (h2 : exs F r ρ g1 = some (q, g2)) : exs F (.cons (.iff t p .nil) r) ρ g = some (q, g2) :=
  x_cons (x_iffF h x_nil) h2
end
theorem dec_nat_lt (a b : Nat) : decide ((a : Int) < b) = decide (a < b) := by
  by_cases h : a < b
  · rw [decide_eq_true h, decide_eq_true (by omega)]
  · rw [decide_eq_false h, decide_eq_false (by omega)]
theorem dec_nat_le (a b : Nat) : decide ((a : Int) ≤ b) = decide (a ≤ b) := by
  by_cases h : a ≤ b
  · rw [decide_eq_true h, decide_eq_true (by omega)]
  · rw [decide_eq_false h, decide_eq_false (by omega)]
theorem c_lt_nat (a b : Nat) : cmpO .lt (natD a) (natD b) = some (decide (a < b)) := congrArg some (dec_nat_lt a b)
theorem c_ge_nat (a b : Nat) : cmpO .ge (natD a) (natD b) = some (decide (b ≤ a)) := congrArg some (dec_nat_le b a)
theorem c_le_nat (a b : Nat) : cmpO .le (natD a) (natD b) = some (decide (a ≤ b)) := congrArg some (dec_nat_le a b)
theorem c_gt_nat (a b : Nat) : cmpO .gt (natD a) (natD b) = some (decide (b < a)) := congrArg some (dec_nat_lt b a)
theorem eqv_int (a b : Int) : PyData.eqv (.int a) (.int b) = decide (a = b) := by
  rw [PyData.eqv]
  by_cases h : a = b
  · rw [decide_eq_true h, h]
    exact beq_self_eq_true _
  · rw [decide_eq_false h]
    exact beq_eq_false_iff_ne.mpr h
theorem c_eq_int (a b : Int) : cmpO .eq (.int a) (.int b) = some (decide (a = b)) := congrArg some (eqv_int a b)
theorem c_ne_int (a b : Int) : cmpO .ne (.int a) (.int b) = some (!decide (a = b)) := congrArg (fun z => some (!z)) (eqv_int a b)
theorem c_eq_nat (a b : Nat) : cmpO .eq (natD a) (natD b) = some (decide (a = b)) := congrArg some (eqv_nat a b)
theorem c_ne_nat (a b : Nat) : cmpO .ne (natD a) (natD b) = some (!decide (a = b)) := congrArg (fun z => some (!z)) (eqv_nat a b)
end DT

/-! Plain helpers: dicts, displays with stars. -/
namespace DT
open PySem
section
variable {F : List Fn} {ρ ρ1 ρ2 : Rho} {g g1 g2 g3 : PState} {x y z d : D} {a b c e k : Ex} {es r : Exs} {xs ys : List D}
theorem e_dnew {t : Bool} : ev F (.dnew t) ρ g = some (.dict [], g) := by
  rw [ev]
  rfl
theorem e_disp {t : Bool} {fl : List Bool} (h : evs F es ρ g = some (xs, g1)) (h2 : dispO t fl xs = some d) : ev F (.disp t fl es) ρ g = some (d, g1) := by
  rw [ev, bnd_go h, h2]
  rfl
theorem e_sabs (h : ev F a ρ g = some (x, g1)) (h2 : sabsO x = some d) : ev F (.sabs a) ρ g = some (d, g1) := by
  rw [ev, bnd_go h, h2]
  rfl
theorem x_six {i : Nat} {kvs : List (D × D)} (h1 : ev F e ρ g = some (d, g1)) (h2 : ev F k ρ g1 = some (y, g2)) (hs : (freeze (escV e d) ρ)[i]? = some (some (.d true (.dict kvs)))) (ok : sixOk kvs y = true)
    (hr : (freeze (escV e d) ρ).set i (some (.d true (.dict (dPut kvs y d)))) = ρ1) : ex F (.six i k e) ρ g = some ((.nx, ρ1), g2) := by
  rw [ex, bnd_go h1, bnd_go h2, hs]
  dsimp only
  rw [if_pos ok, hr]
  rfl
end
end DT

/-! The source of drawn numbers: what it gives. -/
namespace DT
open PySem L2 PyProof.Rows
def mixG : Int → List Int → Int
  | s, [] => s
  | s, c :: r => mixG ((s * 69069 + c * 31 + 5).fmod 2147483629) r
def openG (ns : List Int) : PState := ⟨(ns.map absI).reverse, 1, mixG 11 ns, 0⟩
def drainR : Int → List Int → Int × List Int
  | l, [] => (l, [])
  | l, x :: r => if l < 2 then drainR x r else (l, x :: r)
def drainG (l : Int) (cells : List Int) : Int × List Int := ((drainR l cells.reverse).1, (drainR l cells.reverse).2.reverse)
def pickG (n : Int) (g : PState) : Int × PState :=
  if n < 2 then (0, g) else
  if 1 < (drainG g.left g.cells).1 then ((drainG g.left g.cells).1.fmod n, ⟨(drainG g.left g.cells).2, (drainG g.left g.cells).1.fdiv n, g.mixed, g.turn⟩)
  else (((((g.mixed + (g.turn + 1) * 104729).fmod 998244353 * (g.mixed + (g.turn + 1) * 104729).fmod 998244353 + (g.turn + 1) * 17).fmod 2147483647).fdiv 16).fmod n, ⟨(drainG g.left g.cells).2, (drainG g.left g.cells).1, g.mixed, g.turn + 1⟩)
def pickFn : Fn := fun as g => match as with
  | [none, some (.int n)] => if n < 1073741824 then some (.int (pickG n g).1, (pickG n g).2) else none
  | _ => none
def anyG : Nat → List D → PState → List D × PState
  | 0, _, g => ([], g)
  | n + 1, xs, g => (xs.getD (pickG xs.length g).1.toNat .none :: (anyG n (xs.eraseIdx (pickG xs.length g).1.toNat) (pickG xs.length g).2).1, (anyG n (xs.eraseIdx (pickG xs.length g).1.toNat) (pickG xs.length g).2).2)
def anyFn : Fn := fun as g => match as with
  | [none, some d] => match seqO d with
    | some xs => some (.list (anyG xs.length xs g).1, (anyG xs.length xs g).2)
    | none => none
  | _ => none
theorem pickG_range (n : Int) (g : PState) : 0 ≤ (pickG n g).1 ∧ (pickG n g).1 < max 1 n := by
  unfold pickG
  by_cases h : n < 2
  · rw [if_pos h]
    exact ⟨Int.le_refl _, by show (0 : Int) < _; omega⟩
  · rw [if_neg h]
    have hn : (0 : Int) < n := by omega
    split
    · exact ⟨Int.fmod_nonneg_of_pos _ hn, by have := Int.fmod_lt_of_pos (drainG g.left g.cells).1 hn; show _ < _; simp only []; omega⟩
    · refine ⟨Int.fmod_nonneg_of_pos _ hn, ?_⟩
      have := Int.fmod_lt_of_pos (((((g.mixed + (g.turn + 1) * 104729).fmod 998244353 * (g.mixed + (g.turn + 1) * 104729).fmod 998244353 + (g.turn + 1) * 17).fmod 2147483647).fdiv 16)) hn
      simp only []
      omega
theorem pickFn_eq {n : Int} {g : PState} (h : n < 1073741824) : pickFn [none, some (.int n)] g = some (.int (pickG n g).1, (pickG n g).2) := by
  unfold pickFn
  exact if_pos h
theorem pick_ok {n : Nat} (h1 : 1 ≤ n) (h2 : n < 1073741824) (g : PState) : ∃ r g', pickFn [none, some (natD n)] g = some (natD r, g') ∧ r < n := by
  have h := pickG_range (n : Int) g
  refine ⟨(pickG n g).1.toNat, (pickG n g).2, ?_, by omega⟩
  refine (pickFn_eq (by omega)).trans ?_
  unfold natD
  rw [Int.toNat_of_nonneg h.1]
theorem erase_perm {α : Type} : ∀ {l : List α} {i : Nat} (h : i < l.length), (l[i] :: l.eraseIdx i).Perm l
  | a :: l, 0, _ => List.Perm.refl _
  | a :: l, i + 1, h => by
    have hl : i < l.length := by rw [List.length_cons] at h; omega
    have ih := erase_perm hl
    rw [List.eraseIdx_cons_succ, List.getElem_cons_succ]
    exact (List.Perm.swap a (l[i]'hl) (l.eraseIdx i)).trans (ih.cons a)
theorem erase_map {α : Type} (f : α → D) : ∀ (l : List α) (i : Nat), (l.map f).eraseIdx i = (l.eraseIdx i).map f
  | [], _ => rfl
  | a :: l, 0 => rfl
  | a :: l, i + 1 => by
    rw [List.map_cons, List.eraseIdx_cons_succ, List.eraseIdx_cons_succ, List.map_cons, erase_map f l i]
theorem anyG_map {α : Type} (h : α → D) : ∀ (n : Nat) (xs : List α) (g : PState), xs.length = n → ∃ ys : List α, ys.Perm xs ∧ (anyG n (xs.map h) g).1 = ys.map h
  | 0, xs, g, e => ⟨[], by rw [List.length_eq_zero_iff.mp e], rfl⟩
  | n + 1, xs, g, e => by
    have hr := pickG_range ((xs.map h).length : Int) g
    rw [List.length_map] at hr
    have hi : (pickG (xs.length : Int) g).1.toNat < xs.length := by omega
    obtain ⟨ys, hp, hy⟩ := anyG_map h n (xs.eraseIdx (pickG (xs.length : Int) g).1.toNat) (pickG (xs.length : Int) g).2 (by rw [List.length_eraseIdx_of_lt hi]; omega)
    refine ⟨xs[(pickG (xs.length : Int) g).1.toNat] :: ys, (List.Perm.cons _ hp).trans (erase_perm hi), ?_⟩
    rw [anyG, List.length_map, List.map_cons, ← hy, erase_map, List.getD_eq_getElem?_getD, List.getElem?_map, List.getElem?_eq_getElem hi]
    rfl
theorem any_ok {α : Type} {h : α → D} {xs : List α} (g : PState) : ∃ (ys : List α) (g' : PState), anyFn [none, some (.list (xs.map h))] g = some (.list (ys.map h), g') ∧ ys.Perm xs := by
  obtain ⟨ys, hp, hy⟩ := anyG_map h xs.length xs g rfl
  refine ⟨ys, (anyG (xs.map h).length (xs.map h) g).2, ?_, hp⟩
  show some (PyData.list (anyG (xs.map h).length (xs.map h) g).1, _) = _
  rw [← hy, List.length_map]
theorem e_pick1 {F : List Fn} {ρ : Rho} {n : Nat} (hF : F[0]? = some pickFn) (h0 : ρ[0]? = some (some .src)) (h1 : 1 ≤ n) (h2 : n < 1073741824) (g : PState) : ∃ r g', ev F (.bin .add (.k (.int 1)) (.call 0 (.src 0 (.ex (.k (.int n)) .nil)))) ρ g = some (natD (r + 1), g') ∧ r < n := by
  obtain ⟨r, g', e, hr⟩ := pick_ok h1 h2 g
  refine ⟨r, g', e_bin e_k (e_call (r_src h0 (r_ex e_k r_nil)) hF e) ?_, hr⟩
  show some (PyData.int (1 + (r : Int))) = some (PyData.int ((r + 1 : Nat) : Int))
  rw [Int.natCast_add, Int.add_comm]
  rfl
end DT

/-! Plain helpers: numbers, sorts, dicts whose keys are ties. -/
namespace DT
open PySem
section
variable {F : List Fn} {ρ ρ1 : Rho} {g g1 : PState} {a b c e : Ex}
theorem fn_eq {n : Nat} {body : Sxs} {as : List (Option D)} {d d' : D} (h : exs F body (as.map sl0 ++ List.replicate (n - as.length) none) g = some ((.rt d', ρ1), g1)) (e : d' = d) : fnOf F n body as g = some (d, g1) := by
  subst e
  exact fn_go h
theorem ev_eq {d d' : D} (h : ev F a ρ g = some (d', g1)) (e : d' = d) : ev F a ρ g = some (d, g1) := by
  subst e
  exact h
theorem o_eq {α : Type} {o : Option α} {d d' : α} (h : o = some d') (e : d' = d) : o = some d := by
  subst e
  exact h
theorem mulA {a b : Int} (h : wid a = true) : binD .mul (.int a) (.int b) = some (.int (a * b)) := if_pos (by rw [h]; rfl)
theorem mulB {a b : Int} (h : wid b = true) : binD .mul (.int a) (.int b) = some (.int (a * b)) := if_pos (by rw [h, Bool.or_true])
theorem wid_le {a : Int} (h : a.natAbs ≤ 1000000) : wid a = true := by
  unfold wid
  rw [Bool.and_eq_true, decide_eq_true_eq, decide_eq_true_eq]
  omega
theorem intN {i : Int} {n : Nat} (h : i = n) : PyData.int i = natD n := congrArg PyData.int h
theorem addN (a b : Nat) : binD .add (natD a) (natD b) = some (natD (a + b)) := congrArg some (intN (by omega))
theorem subN {a b : Nat} (h : b ≤ a) : binD .sub (natD a) (natD b) = some (natD (a - b)) := congrArg some (intN (by omega))
theorem mulN {a b : Nat} (h : a ≤ 1000000) : binD .mul (natD a) (natD b) = some (natD (a * b)) := (mulA (wid_le (by omega))).trans (congrArg some (intN (Int.natCast_mul a b).symm))
theorem modN {a b : Nat} (h : 0 < b) : binD .mod (natD a) (natD b) = some (natD (a % b)) := by
  show (if (b : Int) ≠ 0 then some (PyData.int ((a : Int).fmod b)) else none) = _
  rw [if_pos (by omega)]
  exact congrArg some (intN (by rw [Int.fmod_eq_emod_of_nonneg _ (Int.natCast_nonneg b)]; exact (Int.natCast_emod a b).symm))
theorem catL {xs ys : List D} (h : xs.length + ys.length ≤ LINE) : binD .add (.list xs) (.list ys) = some (.list (xs ++ ys)) := by
  show (if lenOk (xs ++ ys).length = true then some (PyData.list (xs ++ ys)) else none) = _
  rw [if_pos]
  exact decide_eq_true (by rw [List.length_append]; exact h)
theorem catT {xs ys : List D} (h : xs.length + ys.length ≤ LINE) : binD .add (.tuple xs) (.tuple ys) = some (.tuple (xs ++ ys)) := by
  show (if lenOk (xs ++ ys).length = true then some (PyData.tuple (xs ++ ys)) else none) = _
  rw [if_pos]
  exact decide_eq_true (by rw [List.length_append]; exact h)
theorem lenLN (xs : List D) : bltO .len [.list xs] = some (natD xs.length) := rfl
theorem lenTN (xs : List D) : bltO .len [.tuple xs] = some (natD xs.length) := rfl
end
/-! ### sorts -/
/-- sorted as data are -/
def srt {α : Type} (h : α → D) (l : List α) : List α := l.mergeSort fun a b => PySem.W.dataLe false id (h a) (h b)
theorem srt_perm {α : Type} (h : α → D) (l : List α) : (srt h l).Perm l := List.mergeSort_perm l _
theorem srt_mem {α : Type} {h : α → D} {l : List α} {a : α} : a ∈ srt h l ↔ a ∈ l := (srt_perm h l).mem_iff
theorem srt_len {α : Type} (h : α → D) (l : List α) : (srt h l).length = l.length := (srt_perm h l).length_eq
structure SrtOk {α : Type} (h : α → D) : Prop where
  alike : ∀ a b, PySem.W.alike (h a) (h b) = true
  tup : ∀ a, ∃ x r, h a = .tuple (x :: r)
  lay : ∀ a, (h a).canLay0 = true
  dep : ∀ a, (h a).depth ≤ 64
theorem lay_all {α : Type} {h : α → D} (hl : ∀ a, (h a).canLay0 = true) : ∀ l : List α, PyData.canLayAll0 (l.map h) = true
  | [] => rfl
  | a :: l => by
    rw [List.map_cons, PyData.canLayAll0, hl a, lay_all hl l]
    rfl
theorem sort_map {α : Type} {h : α → D} (S : SrtOk h) (l : List α) : sortO (l.map h) = some ((srt h l).map h) := by
  have h1 : sortOk (l.map h) = true := by
    unfold sortOk
    rw [Bool.and_eq_true, Bool.and_eq_true]
    refine ⟨⟨?_, ?_⟩, ?_⟩
    · refine List.all_eq_true.mpr fun d hd => List.all_eq_true.mpr fun e he => ?_
      obtain ⟨a, _, rfl⟩ := List.mem_map.mp hd
      obtain ⟨b, _, rfl⟩ := List.mem_map.mp he
      exact S.alike a b
    · refine (Bool.or_eq_true ..).mpr (.inl (List.all_eq_true.mpr fun d hd => ?_))
      obtain ⟨a, _, rfl⟩ := List.mem_map.mp hd
      obtain ⟨x, r, e⟩ := S.tup a
      rw [e]
    · rw [Bool.and_eq_true]
      refine ⟨lay_all S.lay l, List.all_eq_true.mpr fun d hd => ?_⟩
      obtain ⟨a, _, rfl⟩ := List.mem_map.mp hd
      exact decide_eq_true (S.dep a)
  unfold sortO
  rw [if_pos h1]
  congr 1
  exact (List.map_mergeSort (r := fun a b => PySem.W.dataLe false id (h a) (h b)) (s := PySem.W.dataLe false id) (f := h) (l := l) fun a _ b _ => rfl).symm
theorem sortedL {α : Type} {h : α → D} (S : SrtOk h) (l : List α) : bltO .sorted [.list (l.map h)] = some (.list ((srt h l).map h)) := by
  show (match some (l.map h) with
    | some xs => (sortO xs).map PyData.list
    | none => none) = _
  dsimp only
  rw [sort_map S]
  rfl
theorem sortedN (l : List Nat) : bltO .sorted [.list (l.map natD)] = some (.list ((l.mergeSort fun a b => decide (a ≤ b)).map natD)) := by
  show (match some (l.map natD) with
    | some xs => (sortO xs).map PyData.list
    | none => none) = _
  dsimp only
  rw [sort_nat]
  rfl
/-- a key more, once -/
def dedF {α : Type} [DecidableEq α] (acc : List α) (k : α) : List α := if k ∈ acc then acc else acc ++ [k]
theorem dedK_F {α : Type} [DecidableEq α] (ks : List α) : dedK ks = ks.foldl dedF [] := rfl
/-! ### dicts by ties -/
abbrev Tie := Nat × Nat
def tieD (e : Tie) : D := .tuple [natD e.1, natD e.2]
theorem tie_srt : SrtOk tieD := ⟨fun _ _ => rfl, fun _ => ⟨_, _, rfl⟩, fun _ => rfl, fun _ => (by decide : 1 ≤ 64)⟩
theorem tie_key {a b : Tie} : toKey (tieD a) = toKey (tieD b) ↔ a = b := by
  refine ⟨fun h => ?_, fun h => by rw [h]⟩
  have h' : NestedKey.tup [.num (a.1 : Int), .num (a.2 : Int)] = NestedKey.tup [.num (b.1 : Int), .num (b.2 : Int)] := h
  injection h' with h1
  injection h1 with h2 h3
  injection h3 with h4 _
  injection h2 with h2
  injection h4 with h4
  exact Prod.ext (Int.ofNat.inj h2) (Int.ofNat.inj h4)
theorem tie_kd (a : Tie) : tupKD (tieD a) = true := by
  show (isTup (tieD a) && (keyOk (tieD a) && decide ((toKey (tieD a)).depth ≤ 8))) = true
  rfl
section
variable {β : Type} {enc : β → D}
def dictD (enc : β → D) (A : List (Tie × β)) : D := .dict (A.map fun p => (tieD p.1, enc p.2))
def getA (A : List (Tie × β)) (k : Tie) : Option β := (A.find? fun p => decide (p.1 = k)).map (·.2)
def putA (A : List (Tie × β)) (k : Tie) (v : β) : List (Tie × β) := if (A.any fun p => decide (p.1 = k)) = true then A.map (fun p => if p.1 = k then (p.1, v) else p) else A ++ [(k, v)]
theorem all_kd (A : List (Tie × β)) : ((A.map fun p => (tieD p.1, enc p.2)).all fun p => tupKD p.1) = true := by
  rw [List.all_map]
  exact List.all_eq_true.mpr fun p _ => tie_kd p.1
theorem dOk_tie (A : List (Tie × β)) (k : Tie) : dOk (A.map fun p => (tieD p.1, enc p.2)) (tieD k) = true := by
  unfold dOk
  rw [tie_kd, all_kd]
  rfl
theorem dGet_tie (A : List (Tie × β)) (k : Tie) : dGet (A.map fun p => (tieD p.1, enc p.2)) (tieD k) = (getA A k).map enc := by
  unfold dGet getA
  rw [List.find?_map, Option.map_map, Option.map_map]
  have e : (fun p : D × D => decide (toKey p.1 = toKey (tieD k))) ∘ (fun p : Tie × β => (tieD p.1, enc p.2)) = fun p => decide (p.1 = k) := by
    funext p
    exact decide_eq_decide.mpr tie_key
  rw [e]
  rfl
theorem dPut_tie (A : List (Tie × β)) (k : Tie) (v : β) : dPut (A.map fun p => (tieD p.1, enc p.2)) (tieD k) (enc v) = (putA A k v).map fun p => (tieD p.1, enc p.2) := by
  unfold dPut putA
  rw [List.any_map]
  have e : (fun p : D × D => decide (toKey p.1 = toKey (tieD k))) ∘ (fun p : Tie × β => (tieD p.1, enc p.2)) = fun p => decide (p.1 = k) := by
    funext p
    exact decide_eq_decide.mpr tie_key
  rw [e]
  by_cases h : (A.any fun p => decide (p.1 = k)) = true
  · rw [if_pos h, if_pos h, List.map_map, List.map_map]
    refine List.map_congr_left fun p _ => ?_
    show (if toKey (tieD p.1) = toKey (tieD k) then (tieD p.1, enc v) else (tieD p.1, enc p.2)) = (fun q : Tie × β => (tieD q.1, enc q.2)) (if p.1 = k then (p.1, v) else p)
    by_cases c : p.1 = k
    · rw [if_pos (tie_key.mpr c), if_pos c]
    · rw [if_neg (fun z => c (tie_key.mp z)), if_neg c]
  · rw [if_neg h, if_neg h, List.map_append]
    rfl
theorem get_tie (A : List (Tie × β)) (k : Tie) (d : D) : metO .get (dictD enc A) [tieD k, d] = some (((getA A k).map enc).getD d) := by
  show (if dOk (A.map fun p => (tieD p.1, enc p.2)) (tieD k) = true then some ((dGet (A.map fun p => (tieD p.1, enc p.2)) (tieD k)).getD d) else none) = _
  rw [if_pos (dOk_tie A k), dGet_tie]
theorem ix_tie {A : List (Tie × β)} {k : Tie} {v : β} (h : getA A k = some v) : ixO (dictD enc A) (tieD k) = some (enc v) := by
  show (if dOk (A.map fun p => (tieD p.1, enc p.2)) (tieD k) = true then dGet (A.map fun p => (tieD p.1, enc p.2)) (tieD k) else none) = _
  rw [if_pos (dOk_tie A k), dGet_tie, h]
  rfl
theorem mem_tie (A : List (Tie × β)) (k : Tie) : memO (tieD k) (dictD enc A) = some (getA A k).isSome := by
  show (if dOk (A.map fun p => (tieD p.1, enc p.2)) (tieD k) = true then some (dGet (A.map fun p => (tieD p.1, enc p.2)) (tieD k)).isSome else none) = _
  rw [if_pos (dOk_tie A k), dGet_tie, Option.isSome_map]
theorem six_tie (A : List (Tie × β)) (k : Tie) (h : A.length < LINE) : sixOk (A.map fun p => (tieD p.1, enc p.2)) (tieD k) = true := by
  unfold sixOk
  rw [tie_kd, all_kd, List.length_map, decide_eq_true h]
  rfl
theorem list_tie (A : List (Tie × β)) : bltO .list [dictD enc A] = some (.list ((A.map (·.1)).map tieD)) := by
  show some (PyData.list ((A.map fun p => (tieD p.1, enc p.2)).map (·.1))) = _
  rw [List.map_map, List.map_map]
  rfl
theorem sorted_tie (A : List (Tie × β)) : bltO .sorted [dictD enc A] = some (.list ((srt tieD (A.map (·.1))).map tieD)) := by
  show (sortO ((A.map fun p => (tieD p.1, enc p.2)).map (·.1))).map PyData.list = _
  have e : (A.map fun p => (tieD p.1, enc p.2)).map (·.1) = (A.map (·.1)).map tieD := by
    rw [List.map_map, List.map_map]
    rfl
  rw [e, sort_map tie_srt]
  rfl
theorem putA_len (A : List (Tie × β)) (k : Tie) (v : β) : (putA A k v).length ≤ A.length + 1 := by
  unfold putA
  split
  · rw [List.length_map]
    omega
  · rw [List.length_append]
    exact Nat.le_refl _
theorem putA_keys (A : List (Tie × β)) (k : Tie) (v : β) : (putA A k v).map (·.1) = dedF (A.map (·.1)) k := by
  unfold putA dedF
  by_cases h : k ∈ A.map (·.1)
  · have e : (A.any fun p => decide (p.1 = k)) = true := by
      obtain ⟨x, hx, e⟩ := List.mem_map.mp h
      exact List.any_eq_true.mpr ⟨x, hx, decide_eq_true e⟩
    rw [if_pos e, if_pos h, List.map_map]
    refine List.map_congr_left fun x _ => ?_
    show (if x.1 = k then (x.1, v) else x).1 = x.1
    split <;> rfl
  · have e : ¬ (A.any fun p => decide (p.1 = k)) = true := fun z => by
      obtain ⟨x, hx, e⟩ := List.any_eq_true.mp z
      exact h (List.mem_map.mpr ⟨x, hx, of_decide_eq_true e⟩)
    rw [if_neg e, if_neg h, List.map_append]
    rfl
theorem getA_put (A : List (Tie × β)) (k : Tie) (v : β) (j : Tie) : getA (putA A k v) j = if j = k then some v else getA A j := by
  unfold putA
  by_cases h : (A.any fun p => decide (p.1 = k)) = true
  · rw [if_pos h]
    unfold getA
    rw [List.find?_map]
    have e : (fun p : Tie × β => decide (p.1 = j)) ∘ (fun p => if p.1 = k then (p.1, v) else p) = fun p => decide (p.1 = j) := by
      funext p
      show decide ((if p.1 = k then (p.1, v) else p).1 = j) = _
      split <;> rfl
    rw [e]
    by_cases c : j = k
    · subst c
      rw [if_pos rfl]
      cases q : A.find? fun p => decide (p.1 = j) with
      | none =>
        exfalso
        obtain ⟨x, hx, e⟩ := List.any_eq_true.mp h
        exact List.find?_eq_none.mp q x hx e
      | some p =>
        have := List.find?_some q
        show some (if p.1 = j then (p.1, v) else p).2 = some v
        rw [if_pos (of_decide_eq_true this)]
    · rw [if_neg c]
      cases q : A.find? fun p => decide (p.1 = j) with
      | none => rfl
      | some p =>
        have z0 := List.find?_some q
        have := of_decide_eq_true z0
        show some (if p.1 = k then (p.1, v) else p).2 = some p.2
        rw [if_neg (fun z => c (this.symm.trans z))]
  · rw [if_neg h]
    unfold getA
    rw [List.find?_append]
    cases q : A.find? fun p => decide (p.1 = j) with
    | some p =>
      have z0 := List.find?_some q
      have hp := of_decide_eq_true z0
      have c : j ≠ k := fun z => h (List.any_eq_true.mpr ⟨p, List.mem_of_find?_eq_some q, decide_eq_true (hp.trans z)⟩)
      rw [if_neg c]
      rfl
    | none =>
      by_cases c : j = k
      · subst c
        rw [if_pos rfl, List.find?_cons_of_pos (by simp)]
        rfl
      · rw [if_neg c, List.find?_cons_of_neg (by simpa using fun z => c z.symm)]
        rfl
theorem getA_mem {A : List (Tie × β)} {k : Tie} : (getA A k).isSome = true ↔ k ∈ A.map (·.1) := by
  unfold getA
  rw [Option.isSome_map, List.find?_isSome]
  constructor
  · rintro ⟨p, hp, e⟩
    exact List.mem_map.mpr ⟨p, hp, of_decide_eq_true e⟩
  · intro h
    obtain ⟨p, hp, e⟩ := List.mem_map.mp h
    exact ⟨p, hp, decide_eq_true e⟩
end
end DT

/-! Sizes of ints, texts, tuples. -/
namespace DT
open PySem
theorem Fz.int {i : Int} (h : i.natAbs < 10 ^ 12) : Fz 40 0 (.int i) := by
  refine ⟨rfl, by rw [PyData.depth]; exact Nat.le_refl _, ?_, ?_, ?_⟩
  · have e : (PyData.int i).weight = Builtin.Int.intBits i := by simp only [PyData.weight, Builtin.Int.intBits]
    rw [e]
    exact intBits_le_iff.mpr (Nat.lt_trans h (by decide))
  · rw [PyData.intsShort]
    exact decide_eq_true (PyData.shown_int_le h)
  · rw [PyData.showable]
    refine decide_eq_true ?_
    by_cases z : i.natAbs = 0
    · rw [z]
      decide
    · exact Nat.lt_of_lt_of_le ((Nat.log2_lt (k := 40) z).mpr (Nat.lt_trans h (by decide))) (by decide)
theorem Fz.any {w k : Nat} {d : D} (h : Fz w k d) {w' k' : Nat} (hw : w ≤ w' := by decide) (hk : k ≤ k' := by decide) : Fz w' k' d := h.mono hw hk
/-- a tuple of ints within 10^12 -/
theorem Fz.tupI {l : List Int} (n : Nat) (hn : l.length ≤ n) (h : ∀ x, x ∈ l → x.natAbs < 10 ^ 12) : Fz (n * 41) 1 (tupI l) := Fz.tup (w := 40) (k := 0) n (by rw [List.length_map]; exact hn) fun x hx => by
  obtain ⟨i, hi, rfl⟩ := List.mem_map.mp hx
  exact .int (h i hi)
/-- a tuple of data -/
theorem Fz.tupM {α : Type} {f : α → D} {l : List α} {w k : Nat} (n : Nat) (hn : l.length ≤ n) (h : ∀ x, x ∈ l → Fz w k (f x)) : Fz (n * (w + 1)) (k + 1) (.tuple (l.map f)) := Fz.tup n (by rw [List.length_map]; exact hn) fun x hx => by
  obtain ⟨i, hi, rfl⟩ := List.mem_map.mp hx
  exact h i hi
theorem Fz.lstM {α : Type} {f : α → D} {l : List α} {w k : Nat} (n : Nat) (hn : l.length ≤ n) (h : ∀ x, x ∈ l → Fz w k (f x)) : Fz (n * (w + 1)) (k + 1) (.list (l.map f)) := Fz.lst n (by rw [List.length_map]; exact hn) fun x hx => by
  obtain ⟨i, hi, rfl⟩ := List.mem_map.mp hx
  exact h i hi
end DT

/-! Texts: clubs. -/
namespace DT
open PySem
def X_is_number_under : Sxs := (.cons (.ret (.and (.cons (.blt (.isi .int) (.cons (.v 0) .nil)) (.cons (.not (.blt (.isi .bool) (.cons (.v 0) .nil))) (.cons (.cmp (.k (.int 0)) (.cons .le (.v 0) (.cons .lt (.v 1) .nil))) .nil))))) .nil)
abbrev F_is_number_under (F : List Fn) : Fn := fnOf F 2 (X_is_number_under)
def X_is_club (c_is_number_under : Nat) : Sxs := (.cons (.iff (.or (.cons (.not (.blt (.isi .tuple) (.cons (.v 1) .nil))) (.cons (.cmp (.v 1) (.cons .eq (.tup .nil) .nil)) (.cons (.not (.blt .all (.cons (.comp (.call c_is_number_under (.ex (.v 2) (.ex (.v 0) .nil))) (.n 2) .seq (.cons (.v 1) .nil) .nil) .nil))) .nil)))) (.cons (.ret (.k (.bool false))) .nil) .nil) (.cons (.ret (.blt .all (.cons (.comp (.cmp (.ix (.v 1) (.bin .sub (.v 3) (.k (.int 1)))) (.cons .lt (.ix (.v 1) (.v 3)) .nil)) (.n 3) .rng2 (.cons (.k (.int 1)) (.cons (.blt .len (.cons (.v 1) .nil)) .nil)) .nil) .nil))) .nil))
abbrev F_is_club (F : List Fn) (c_is_number_under : Nat) : Fn := fnOf F 4 (X_is_club c_is_number_under)
def X_is_clubs (c_is_club : Nat) : Sxs := (.cons (.iff (.or (.cons (.not (.blt (.isi .tuple) (.cons (.v 1) .nil))) (.cons (.cmp (.v 1) (.cons .eq (.tup .nil) .nil)) (.cons (.not (.blt .all (.cons (.comp (.call c_is_club (.ex (.v 0) (.ex (.v 2) .nil))) (.n 2) .seq (.cons (.v 1) .nil) .nil) .nil))) .nil)))) (.cons (.ret (.k (.bool false))) .nil) .nil) (.cons (.ret (.cmp (.blt .lenSet (.cons (.v 1) .nil)) (.cons .eq (.blt .len (.cons (.v 1) .nil)) .nil))) .nil))
abbrev F_is_clubs (F : List Fn) (c_is_club : Nat) : Fn := fnOf F 3 (X_is_clubs c_is_club)
def W1_is_lists (c_is_number_under : Nat) : Sxs := (.cons (.iff (.not (.blt .all (.cons (.comp (.call c_is_number_under (.ex (.v 5) (.ex (.blt .len (.cons (.v 1) .nil)) .nil))) (.n 5) .seq (.cons (.v 3) .nil) .nil) .nil))) (.cons (.ret (.k (.bool false))) .nil) .nil) (.cons (.iff (.cmp (.blt .sorted (.cons (.v 3) .nil)) (.cons .ne (.comp (.v 5) (.t [(.n 5), (.n 6)]) .enum (.cons (.v 1) .nil) (.cons (.cmp (.v 4) (.cons .mem (.v 6) .nil)) .nil)) .nil)) (.cons (.ret (.k (.bool false))) .nil) .nil) .nil))
def X_is_lists (c_is_number_under : Nat) : Sxs := (.cons (.iff (.or (.cons (.not (.blt (.isi .tuple) (.cons (.v 2) .nil))) (.cons (.cmp (.blt .len (.cons (.v 2) .nil)) (.cons .ne (.v 0) .nil)) (.cons (.not (.blt .all (.cons (.comp (.blt (.isi .tuple) (.cons (.v 3) .nil)) (.n 3) .seq (.cons (.v 2) .nil) .nil) .nil))) .nil)))) (.cons (.ret (.k (.bool false))) .nil) .nil) (.cons (.for (.t [(.n 4), (.n 3)]) .enum (.cons (.v 2) .nil) (W1_is_lists c_is_number_under)) (.cons (.ret (.k (.bool true))) .nil)))
abbrev F_is_lists (F : List Fn) (c_is_number_under : Nat) : Fn := fnOf F 7 (X_is_lists c_is_number_under)
def X_club_rank : Sxs := (.cons (.set 4 (.ix (.v 0) (.v 3))) (.cons (.ret (.ite (.cmp (.v 3) (.cons .mem (.v 1) .nil)) (.bin .sub (.bin .sub (.blt .len (.cons (.v 4) .nil)) (.k (.int 1))) (.meth .index (.v 4) (.cons (.v 2) .nil))) (.bin .add (.blt .len (.cons (.v 4) .nil)) (.v 2)))) .nil))
abbrev F_club_rank (F : List Fn) : Fn := fnOf F 5 (X_club_rank)
def W1_great_number : Sxs := (.cons (.set 1 (.bin .mul (.v 1) (.v 2))) .nil)
def X_great_number : Sxs := (.cons (.set 1 (.k (.int 1))) (.cons (.for (.n 2) .rng2 (.cons (.k (.int 1)) (.cons (.bin .add (.v 0) (.k (.int 1))) .nil)) (W1_great_number)) (.cons (.ret (.bin .add (.v 1) (.k (.int 1)))) .nil)))
abbrev F_great_number (F : List Fn) : Fn := fnOf F 3 (X_great_number)
def W1_club_table (c_club_rank c_great_number : Nat) : Sxs := (.cons (.set 8 (.blt .tuple (.cons (.comp (.blt .int (.cons (.cmp (.v 9) (.cons .mem (.v 7) .nil)) .nil)) (.n 9) .rng1 (.cons (.v 0) .nil) .nil) .nil))) (.cons (.app 5 (.tup (.cons (.v 8) (.cons (.blt .tuple (.cons (.comp (.call c_club_rank (.ex (.v 2) (.ex (.v 7) (.ex (.v 6) (.ex (.v 9) .nil))))) (.n 9) .rng1 (.cons (.v 0) .nil) .nil) .nil)) .nil)))) .nil))
def W2_club_table (c_club_rank c_great_number : Nat) : Sxs := (.cons (.app 3 (.bin .mul (.ix (.v 3) (.neg (.k (.int 1)))) (.call c_great_number (.ex (.v 0) .nil)))) .nil)
def X_club_table (c_club_rank c_great_number : Nat) : Sxs := (.cons (.set 3 (.lst (.cons (.k (.int 1)) .nil))) (.cons (.for (.n 4) .rng1 (.cons (.v 0) .nil) (W2_club_table c_club_rank c_great_number)) (.cons (.set 5 (.lst .nil)) (.cons (.for (.t [(.n 6), (.n 7)]) .enum (.cons (.v 1) .nil) (W1_club_table c_club_rank c_great_number)) (.cons (.ret (.tup (.cons (.blt .tuple (.cons (.comp (.bin .add (.ix (.v 3) (.v 0)) (.ix (.v 3) (.v 9))) (.n 9) .rng1 (.cons (.v 0) .nil) .nil) .nil)) (.cons (.blt .tuple (.cons (.v 5) .nil)) .nil)))) .nil)))))
abbrev F_club_table (F : List Fn) (c_club_rank c_great_number : Nat) : Fn := fnOf F 10 (X_club_table c_club_rank c_great_number)
def X_is_two_sided : Sxs := (.cons (.ret (.blt .all (.cons (.comp (.or (.cons (.cmp (.blt .len (.cons (.v 2) .nil)) (.cons .eq (.k (.int 1)) .nil)) (.cons (.and (.cons (.cmp (.blt .len (.cons (.v 2) .nil)) (.cons .eq (.k (.int 2)) .nil)) (.cons (.cmp (.cmp (.ix (.v 2) (.k (.int 0))) (.cons .mem (.v 1) .nil)) (.cons .ne (.cmp (.ix (.v 2) (.k (.int 1))) (.cons .mem (.v 1) .nil)) .nil)) .nil))) .nil))) (.n 2) .seq (.cons (.v 0) .nil) .nil) .nil))) .nil)
abbrev F_is_two_sided (F : List Fn) : Fn := fnOf F 3 (X_is_two_sided)
def W1_law_drawC : Sxs := (.cons (.set 3 (.bin .add (.v 3) (.comp (.bin .add (.v 5) (.tup (.cons (.v 4) .nil))) (.n 5) .seq (.cons (.v 3) .nil) .nil))) .nil)
def X_law_drawC : Sxs := (.cons (.set 3 (.lst (.cons (.tup .nil) .nil))) (.cons (.for (.n 4) .rng1 (.cons (.v 1) .nil) (W1_law_drawC)) (.cons (.set 6 (.blt .tuple (.cons (.sl (.call 1 (.src 0 (.ex (.comp (.v 5) (.n 5) .seq (.cons (.v 3) .nil) (.cons (.cmp (.v 5) (.cons .ne (.tup .nil) .nil)) .nil)) .nil))) .abs (.bin .add (.k (.int 1)) (.call 0 (.src 0 (.ex (.v 2) .nil))))) .nil))) (.cons (.set 7 (.comp (.call 1 (.src 0 (.ex (.comp (.v 8) (.t [(.n 8), (.n 5)]) .enum (.cons (.v 6) .nil) (.cons (.cmp (.v 4) (.cons .mem (.v 5) .nil)) .nil)) .nil))) (.n 4) .rng1 (.cons (.v 1) .nil) .nil)) (.cons (.ret (.tup (.cons (.v 6) (.cons (.blt .tuple (.cons (.comp (.blt .tuple (.cons (.v 9) .nil)) (.n 9) .seq (.cons (.v 7) .nil) .nil) .nil)) .nil)))) .nil)))))
abbrev F_law_drawC (F : List Fn) : Fn := fnOf F 10 (X_law_drawC)
def W1_law_tableC : Sxs := (.cons (.set 11 (.ix (.v 2) (.v 10))) (.cons (.app 9 (.ite (.cmp (.v 10) (.cons .mem (.v 8) .nil)) (.bin .sub (.bin .sub (.blt .len (.cons (.v 11) .nil)) (.meth .index (.v 11) (.cons (.v 7) .nil))) (.k (.int 1))) (.bin .add (.blt .len (.cons (.v 11) .nil)) (.v 7)))) .nil))
def W2_law_tableC : Sxs := (.cons (.set 9 (.lst .nil)) (.cons (.for (.n 10) .rng1 (.cons (.v 0) .nil) (W1_law_tableC)) (.cons (.app 6 (.tup (.cons (.blt .tuple (.cons (.comp (.blt .int (.cons (.cmp (.v 10) (.cons .mem (.v 8) .nil)) .nil)) (.n 10) .rng1 (.cons (.v 0) .nil) .nil) .nil)) (.cons (.blt .tuple (.cons (.v 9) .nil)) .nil)))) .nil)))
def W3_law_tableC : Sxs := (.cons (.app 5 (.bin .mul (.ix (.v 5) (.neg (.k (.int 1)))) (.v 3))) .nil)
def W4_law_tableC : Sxs := (.cons (.set 3 (.bin .mul (.v 3) (.v 4))) .nil)
def X_law_tableC : Sxs := (.cons (.set 3 (.k (.int 1))) (.cons (.for (.n 4) .rng2 (.cons (.k (.int 1)) (.cons (.bin .add (.v 0) (.k (.int 1))) .nil)) (W4_law_tableC)) (.cons (.par [3, 5] (.cons (.bin .add (.v 3) (.k (.int 1))) (.cons (.lst (.cons (.k (.int 1)) .nil)) .nil))) (.cons (.for (.n 4) .rng1 (.cons (.v 0) .nil) (W3_law_tableC)) (.cons (.set 6 (.lst .nil)) (.cons (.for (.t [(.n 7), (.n 8)]) .enum (.cons (.v 1) .nil) (W2_law_tableC)) (.cons (.ret (.tup (.cons (.blt .tuple (.cons (.comp (.bin .add (.ix (.v 5) (.v 0)) (.ix (.v 5) (.v 10))) (.n 10) .rng1 (.cons (.v 0) .nil) .nil) .nil)) (.cons (.blt .tuple (.cons (.v 6) .nil)) .nil)))) .nil)))))))
abbrev F_law_tableC (F : List Fn) : Fn := fnOf F 12 (X_law_tableC)
def X_law_is_number : Sxs := (.cons (.ret (.and (.cons (.blt (.isi .int) (.cons (.v 0) .nil)) (.cons (.not (.blt (.isi .bool) (.cons (.v 0) .nil))) (.cons (.cmp (.k (.int 0)) (.cons .le (.v 0) (.cons .lt (.v 1) .nil))) .nil))))) .nil)
abbrev F_law_is_number (F : List Fn) : Fn := fnOf F 2 (X_law_is_number)
def W1_law_is_clubs (c_law_is_number : Nat) : Sxs := (.cons (.iff (.or (.cons (.cmp (.v 2) (.cons .eq (.tup .nil) .nil)) (.cons (.cmp (.comp (.v 4) (.n 4) .seq (.cons (.v 2) .nil) (.cons (.not (.call c_law_is_number (.ex (.v 4) (.ex (.v 0) .nil)))) .nil)) (.cons .ne (.lst .nil) .nil)) .nil))) (.cons (.ret (.k (.bool false))) .nil) .nil) (.cons (.iff (.or (.cons (.cmp (.blt .list (.cons (.v 2) .nil)) (.cons .ne (.blt .sortSet (.cons (.v 2) .nil)) .nil)) (.cons (.cmp (.v 2) (.cons .mem (.sl (.v 1) .abs (.v 3)) .nil)) .nil))) (.cons (.ret (.k (.bool false))) .nil) .nil) .nil))
def X_law_is_clubs (c_law_is_number : Nat) : Sxs := (.cons (.iff (.or (.cons (.not (.blt (.isi .tuple) (.cons (.v 1) .nil))) (.cons (.cmp (.v 1) (.cons .eq (.tup .nil) .nil)) (.cons (.not (.blt .all (.cons (.comp (.blt (.isi .tuple) (.cons (.v 2) .nil)) (.n 2) .seq (.cons (.v 1) .nil) .nil) .nil))) .nil)))) (.cons (.ret (.k (.bool false))) .nil) .nil) (.cons (.for (.t [(.n 3), (.n 2)]) .enum (.cons (.v 1) .nil) (W1_law_is_clubs c_law_is_number)) (.cons (.ret (.k (.bool true))) .nil)))
abbrev F_law_is_clubs (F : List Fn) (c_law_is_number : Nat) : Fn := fnOf F 5 (X_law_is_clubs c_law_is_number)
def W1_law_is_lists (c_law_is_number : Nat) : Sxs := (.cons (.iff (.or (.cons (.not (.blt (.isi .tuple) (.cons (.v 4) .nil))) (.cons (.cmp (.comp (.v 5) (.n 5) .seq (.cons (.v 4) .nil) (.cons (.not (.call c_law_is_number (.ex (.v 5) (.ex (.blt .len (.cons (.v 1) .nil)) .nil)))) .nil)) (.cons .ne (.lst .nil) .nil)) .nil))) (.cons (.ret (.k (.bool false))) .nil) .nil) (.cons (.iff (.cmp (.blt .sorted (.cons (.v 4) .nil)) (.cons .ne (.comp (.v 5) (.t [(.n 5), (.n 6)]) .enum (.cons (.v 1) .nil) (.cons (.cmp (.v 3) (.cons .mem (.v 6) .nil)) .nil)) .nil)) (.cons (.ret (.k (.bool false))) .nil) .nil) .nil))
def X_law_is_lists (c_law_is_number : Nat) : Sxs := (.cons (.iff (.or (.cons (.not (.blt (.isi .tuple) (.cons (.v 2) .nil))) (.cons (.cmp (.blt .len (.cons (.v 2) .nil)) (.cons .ne (.v 0) .nil)) .nil))) (.cons (.ret (.k (.bool false))) .nil) .nil) (.cons (.for (.t [(.n 3), (.n 4)]) .enum (.cons (.v 2) .nil) (W1_law_is_lists c_law_is_number)) (.cons (.ret (.k (.bool true))) .nil)))
abbrev F_law_is_lists (F : List Fn) (c_law_is_number : Nat) : Fn := fnOf F 7 (X_law_is_lists c_law_is_number)
end DT

/-! Clubs: what are clubs. -/
namespace DT
open PySem
def numU (d : D) (most : Nat) : Bool := match d with
  | .int i => decide (0 ≤ i) && decide (i < (most : Int))
  | _ => false
def ascI (ns : List Int) : Bool := decide (ns.Pairwise (· < ·))
def clubT (m : Nat) (ds : List D) : Bool := !decide (ds = []) && (ds.all (fun d => numU d m) && match intsOf ds with
  | some ns => ascI ns
  | none => false)
def clubQ (m : Nat) : D → Bool
  | .tuple ds => clubT m ds
  | _ => false
theorem nums_ints {m : Nat} : ∀ {ds : List D}, ds.all (fun d => numU d m) = true → ∃ ns : List Int, ds = ns.map intD ∧ intsOf ds = some ns ∧ ∀ n, n ∈ ns → 0 ≤ n ∧ n < m
  | [], _ => ⟨[], rfl, rfl, fun _ h => by cases h⟩
  | d :: ds, h => by
    rw [List.all_cons, Bool.and_eq_true] at h
    obtain ⟨ns, e1, e2, e3⟩ := nums_ints h.2
    cases d with
    | int i =>
      have hi : (decide (0 ≤ i) && decide (i < (m : Int))) = true := h.1
      rw [Bool.and_eq_true, decide_eq_true_eq, decide_eq_true_eq] at hi
      refine ⟨i :: ns, by rw [e1]; rfl, by rw [intsOf, e2], fun n hn => ?_⟩
      rcases List.mem_cons.mp hn with rfl | hn
      · exact hi
      · exact e3 n hn
    | _ => cases h.1
/-- what may be asked: no tuple, or one of a plain shape -/
def TV (v : D) : Prop := tyOf v .tuple = false ∨ ∃ ds, v = .tuple ds ∧ SeqAt.shaped v = true ∧ ds.length < 60
theorem eq_nilD {ds : List D} (sh : SeqAt.shaped (.tuple ds) = true) : cmpO .eq (.tuple ds) (.tuple []) = some (decide (ds = [])) := by
  show (if SeqAt.shaped (.tuple ds) && SeqAt.shaped (.tuple []) then some (PyData.eqv (.tuple ds) (.tuple [])) else none) = _
  have e : SeqAt.shaped (.tuple []) = true := by decide +kernel
  rw [sh, e, Bool.and_self, if_pos rfl, PyData.eqv]
  cases ds with
  | nil => rfl
  | cons a l =>
    rw [decide_eq_false (by simp)]
    rfl
theorem asc_rng (ns : List Int) : ((List.range (ns.length - 1)).all fun i => decide (ns.getD i 0 < ns.getD (i + 1) 0)) = ascI ns := by
  unfold ascI
  have key : (∀ i, i < ns.length - 1 → ns.getD i 0 < ns.getD (i + 1) 0) ↔ ns.Pairwise (· < ·) := by
    induction ns with
    | nil => simp
    | cons a ns ih =>
      cases ns with
      | nil => simp
      | cons b ns =>
        rw [List.pairwise_cons]
        constructor
        · intro h
          have h0 := h 0 (by simp)
          have hr := ih.mp fun i hi => h (i + 1) (by simp at hi ⊢; omega)
          refine ⟨fun x hx => ?_, hr⟩
          rcases List.mem_cons.mp hx with rfl | hx
          · exact h0
          · exact Int.lt_trans h0 ((List.pairwise_cons.mp hr).1 x hx)
        · rintro ⟨h1, h2⟩ i hi
          cases i with
          | zero => exact h1 b List.mem_cons_self
          | succ i => exact ih.mpr h2 i (by simp at hi ⊢; omega)
  by_cases h : ns.Pairwise (· < ·)
  · rw [decide_eq_true h]
    exact List.all_eq_true.mpr fun i hi => decide_eq_true (key.mpr h i (List.mem_range.mp hi))
  · rw [decide_eq_false h]
    refine Bool.eq_false_iff.mpr fun z => h (key.mp fun i hi => ?_)
    exact of_decide_eq_true (List.all_eq_true.mp z i (List.mem_range.mpr hi))
section
variable {F : List Fn}
def SpNumU (f : Fn) : Prop := ∀ (d : D) (most : Nat) g, f [some d, some (natD most)] g = some (.bool (numU d most), g)
theorem numU_ev {d : D} {most : Nat} {g : PState} : exs F X_is_number_under [some (.d false d), some (.d false (natD most))] g = some ((.rt (.bool (numU d most)), [some (.d false d), some (.d false (natD most))]), g) := by
  cases d with
  | int i => exact x_stop (x_retE (e_and (a_cons (i := true) (j := decide (0 ≤ i) && decide (i < (most : Int))) (e_blt (e_cons (e_v rfl) e_nil) rfl) fun _ => a_cons (i := true) (j := decide (0 ≤ i) && decide (i < (most : Int))) (e_not (i := false) (e_blt (e_cons (e_v rfl) e_nil) rfl)) fun _ => a_one (e_cmp2 e_k (e_v rfl) (e_v rfl) rfl fun _ => rfl))))
  | bool b => exact x_stop (x_retE (e_and (a_cons (i := true) (j := false) (e_blt (e_cons (e_v rfl) e_nil) rfl) fun _ => a_cons (i := false) (j := false) (e_not (i := true) (e_blt (e_cons (e_v rfl) e_nil) rfl)) fun z => by cases z)))
  | _ => exact x_stop (x_retE (e_and (a_cons (i := false) (j := false) (e_blt (e_cons (e_v rfl) e_nil) rfl) fun z => by cases z)))
theorem numU_sp : SpNumU (F_is_number_under F) := fun d most g => fn_go numU_ev
theorem lnumU_sp : SpNumU (F_law_is_number F) := fun d most g => fn_go numU_ev
theorem c_no {ρ : Rho} {g : PState} {r : Sxs} {t : Ex} (h : ev F t ρ g = some (.bool true, g)) : exs F (.cons (.iff t (.cons (.ret (.k (.bool false))) .nil) .nil) r) ρ g = some ((.rt (.bool false), ρ), g) := x_stop (x_iffT h (x_stop (x_retE e_k)))
theorem c_isT {ρ : Rho} {g : PState} {i : Nat} {v : D} (h : getV ρ i = some v) {ty : Ty} : ev F (.not (.blt (.isi ty) (.cons (.v i) .nil))) ρ g = some (.bool (!tyOf v ty), g) := e_not (e_blt (e_cons (e_v h) e_nil) rfl)
def SpClub (f : Fn) : Prop := ∀ (m : Nat) (v : D), TV v → ∀ g, f [some (natD m), some v] g = some (.bool (clubQ m v), g)
theorem club_sp {c : Nat} (hc : At F c SpNumU) : SpClub (F_is_club F c) := fun m v hv g => by
  obtain ⟨_, q1, q2⟩ := hc
  rcases hv with h | ⟨ds, rfl, sh, hl⟩
  · have e0 := c_isT (F := F) (g := g) (ρ := [some (.d false (natD m)), some (.d false v), none, none]) (i := 1) (v := v) (ty := .tuple) rfl
    rw [h] at e0
    have : clubQ m v = false := by cases v <;> first | rfl | cases h
    rw [this]
    exact fn_go (c_no (e_or (o_cons (i := true) (j := false) e0 fun z => by cases z)))
  · have t0 : ev F (.or (.cons (.not (.blt (.isi .tuple) (.cons (.v 1) .nil))) (.cons (.cmp (.v 1) (.cons .eq (.tup .nil) .nil)) (.cons (.not (.blt .all (.cons (.comp (.call c (.ex (.v 2) (.ex (.v 0) .nil))) (.n 2) .seq (.cons (.v 1) .nil) .nil) .nil))) .nil)))) [some (.d false (natD m)), some (.d false (.tuple ds)), none, none] g = some (.bool (decide (ds = []) || !ds.all fun d => numU d m), g) :=
      e_or (o_cons (i := false) (j := decide (ds = []) || !ds.all fun d => numU d m) (c_isT (v := .tuple ds) (ty := .tuple) rfl) fun _ => o_cons (e_cmp (e_v rfl) (e_tup e_nil) (eq_nilD sh)) fun _ => o_one (e_not (e_allV (l := ds) (h := fun x : D => x) (p := fun d => numU d m) (e_cons (e_v rfl) e_nil) (by rw [List.map_id']; rfl) fun x _ => e_call (r_ex (e_v rfl) (r_ex (e_v rfl) r_nil)) q1 (q2 x m g))))
    by_cases h0 : ds = []
    · have : clubQ m (.tuple ds) = false := by
        show clubT m ds = false
        unfold clubT
        rw [decide_eq_true h0]
        rfl
      rw [this]
      rw [decide_eq_true h0] at t0
      exact fn_go (c_no t0)
    · cases hn : ds.all fun d => numU d m with
      | false =>
        have : clubQ m (.tuple ds) = false := by
          show clubT m ds = false
          unfold clubT
          rw [hn, decide_eq_false h0]
          rfl
        rw [this]
        rw [hn, decide_eq_false h0] at t0
        exact fn_go (c_no t0)
      | true =>
        rw [hn, decide_eq_false h0] at t0
        obtain ⟨ns, rfl, e2, e3⟩ := nums_ints hn
        have : clubQ m (.tuple (ns.map intD)) = ascI ns := by
          show clubT m (ns.map intD) = _
          unfold clubT
          rw [hn, decide_eq_false h0, e2]
          rfl
        rw [this, ← asc_rng]
        have ln : ns.length < 60 := by rw [List.length_map] at hl; exact hl
        refine fn_go (x_no t0 (x_stop (x_retE (e_blt (e_cons (e_mapV (l := List.range (ns.length - 1)) (h := fun i => natD (1 + i)) (f := fun i => .bool (decide (ns.getD i 0 < ns.getD (i + 1) 0))) (e_cons (x := natD 1) e_k (e_cons (ev_eq (e_blt (e_cons (e_v rfl) e_nil) (lenTN _)) (congrArg natD (List.length_map ..))) e_nil)) (it_rng2 (by unfold LINE; omega) (by decide)) fun i hi => ?_) e_nil) (blt_all _)))))
        have hi := List.mem_range.mp hi
        refine e_cmp (i := decide (ns.getD i 0 < ns.getD (i + 1) 0)) (x := intD (ns.getD i 0)) (y := intD (ns.getD (i + 1) 0)) (e_ix (e_v rfl) (e_bin (d := natD i) (x := natD (1 + i)) (y := natD 1) (e_v rfl) e_k (o_eq (subN (by omega)) (by rw [show 1 + i - 1 = i by omega]))) (ix_tup (f := intD) rfl ?_)) (e_ix (e_v rfl) (e_v rfl) (ix_tup (f := intD) rfl ?_)) rfl
        · rw [List.getD_eq_getElem?_getD, List.getElem?_eq_getElem (by omega)]
          rfl
        · rw [List.getD_eq_getElem?_getD, show 1 + i = i + 1 by omega, List.getElem?_eq_getElem (by omega)]
          rfl
end
end DT

/-! Clubs: what are clubs, both ways. -/
namespace DT
open PySem
theorem eqvAll_int : ∀ a b : List Int, PyData.eqvAll (a.map intD) (b.map intD) = decide (a = b)
  | [], [] => rfl
  | [], _ :: _ => rfl
  | _ :: _, [] => rfl
  | a :: as, b :: bs => by
    show (PyData.eqv (.int a) (.int b) && PyData.eqvAll (as.map intD) (bs.map intD)) = _
    rw [eqv_int, eqvAll_int as bs]
    by_cases h : a = b
    · subst h
      rw [decide_eq_true rfl, Bool.true_and]
      by_cases h' : as = bs
      · subst h'
        rw [decide_eq_true rfl, decide_eq_true rfl]
      · rw [decide_eq_false h', decide_eq_false fun e => h' (List.cons.inj e).2]
    · rw [decide_eq_false h, decide_eq_false fun e => h (List.cons.inj e).1]
      rfl
theorem eqv_tupI (a b : List Int) : PyData.eqv (tupI a) (tupI b) = decide (a = b) := by
  unfold tupI
  rw [PyData.eqv]
  exact eqvAll_int a b
theorem sh_intL (l : List Int) : SeqAt.shaped (.list (l.map intD)) = true := by
  unfold SeqAt.shaped
  rw [PyData.canLay0, lay_all (h := intD) (fun _ => rfl), Bool.true_and, PyData.depth]
  have : PyData.depthAll (l.map intD) ≤ 0 := depthAll_le fun d hd' => by
    obtain ⟨a, _, rfl⟩ := List.mem_map.mp hd'
    exact Nat.zero_le _
  exact decide_eq_true (by omega)
theorem sh_tupI (l : List Int) : SeqAt.shaped (tupI l) = true := by
  unfold SeqAt.shaped tupI
  rw [PyData.canLay0, lay_all (h := intD) (fun _ => rfl), Bool.true_and, PyData.depth]
  have : PyData.depthAll (l.map intD) ≤ 0 := depthAll_le fun d hd' => by
    obtain ⟨a, _, rfl⟩ := List.mem_map.mp hd'
    exact Nat.zero_le _
  exact decide_eq_true (by omega)
theorem eq_intL (a b : List Int) : cmpO .eq (.list (a.map intD)) (.list (b.map intD)) = some (decide (a = b)) := by
  show (if SeqAt.shaped (.list (a.map intD)) && SeqAt.shaped (.list (b.map intD)) then some (PyData.eqv (.list (a.map intD)) (.list (b.map intD))) else none) = _
  rw [sh_intL, sh_intL, Bool.and_self, if_pos rfl, PyData.eqv, eqvAll_int]
theorem ne_intL (a b : List Int) : cmpO .ne (.list (a.map intD)) (.list (b.map intD)) = some (!decide (a = b)) := congrArg (Option.map not) (eq_intL a b)
theorem lay_mem : ∀ {ds : List D}, PyData.canLayAll0 ds = true → ∀ d, d ∈ ds → d.canLay0 = true
  | d :: ds, h, x, hx => by
    rw [PyData.canLayAll0, Bool.and_eq_true] at h
    rcases List.mem_cons.mp hx with rfl | hx
    · exact h.1
    · exact lay_mem h.2 x hx
theorem lay_of : ∀ {ds : List D}, (∀ d, d ∈ ds → d.canLay0 = true) → PyData.canLayAll0 ds = true
  | [], _ => rfl
  | d :: ds, h => by
    rw [PyData.canLayAll0, h d List.mem_cons_self, lay_of fun x hx => h x (List.mem_cons_of_mem _ hx)]
    rfl
theorem dep_mem : ∀ {ds : List D} {n : Nat}, PyData.depthAll ds ≤ n → ∀ d, d ∈ ds → d.depth ≤ n
  | d :: ds, n, h, x, hx => by
    simp only [PyData.depthAll] at h
    rcases List.mem_cons.mp hx with rfl | hx
    · omega
    · exact dep_mem (by omega) x hx
/-- of a plain shape: some of its items, in a list -/
theorem sh_sub {ds l : List D} (h : SeqAt.shaped (.tuple ds) = true) (hl : ∀ x, x ∈ l → x ∈ ds) : SeqAt.shaped (.list l) = true ∧ SeqAt.shaped (.tuple l) = true := by
  unfold SeqAt.shaped at h ⊢
  rw [Bool.and_eq_true, PyData.canLay0, PyData.depth, decide_eq_true_eq] at h
  have a : PyData.canLayAll0 l = true := lay_of fun x hx => lay_mem h.1 x (hl x hx)
  have b : PyData.depthAll l ≤ PyData.depthAll ds := depthAll_le fun x hx => dep_mem (Nat.le_refl _) x (hl x hx)
  rw [PyData.canLay0, PyData.canLay0, PyData.depth, PyData.depth, a]
  exact ⟨decide_eq_true (by omega), decide_eq_true (by omega)⟩
theorem ne_nilX {l : List D} (h : SeqAt.shaped (.list l) = true) : cmpO .ne (.list l) (.list []) = some (!decide (l = [])) := by
  have e : SeqAt.shaped (.list []) = true := by decide +kernel
  show Option.map not (if SeqAt.shaped (.list l) && SeqAt.shaped (.list []) then some (PyData.eqv (.list l) (.list [])) else none) = _
  rw [h, e, Bool.and_self, if_pos rfl, PyData.eqv]
  cases l with
  | nil => rfl
  | cons a l =>
    rw [decide_eq_false (by simp)]
    rfl
def nodQ (vs : List D) : Bool := match tupsOf vs with
  | some ks => decide ks.Nodup
  | none => false
def clubsT (m : Nat) (vs : List D) : Bool := !decide (vs = []) && (vs.all (clubQ m) && nodQ vs)
def clubsQ (m : Nat) : D → Bool
  | .tuple vs => clubsT m vs
  | _ => false
def CV (v : D) : Prop := tyOf v .tuple = false ∨ ∃ vs, v = .tuple vs ∧ SeqAt.shaped v = true ∧ vs.length < 60 ∧ ∀ x, x ∈ vs → TV x
theorem club_ints {m : Nat} {x : D} (h : clubQ m x = true) : ∃ ns : List Int, x = tupI ns ∧ ns ≠ [] ∧ (∀ n, n ∈ ns → 0 ≤ n ∧ n < m) ∧ ns.Pairwise (· < ·) := by
  cases x with
  | tuple ds =>
    have h' : clubT m ds = true := h
    unfold clubT at h'
    rw [Bool.and_eq_true, Bool.and_eq_true] at h'
    obtain ⟨ns, e1, e2, e3⟩ := nums_ints h'.2.1
    rw [e2] at h'
    subst e1
    refine ⟨ns, rfl, fun z => ?_, e3, of_decide_eq_true h'.2.2⟩
    rw [z] at h'
    simp at h'
  | _ => cases h
theorem ints_of (ns : List Int) : intsOf (ns.map intD) = some ns := by
  induction ns with
  | nil => rfl
  | cons a ns ih =>
    show (match intsOf (ns.map intD) with
      | some ns => some (a :: ns)
      | none => none) = _
    rw [ih]
theorem tupsK (ks : List (List Int)) : tupsOf (ks.map tupI) = some ks := by
  induction ks with
  | nil => rfl
  | cons a ks ih =>
    show (match intsOf (a.map intD), tupsOf (ks.map tupI) with
      | some k, some ks => some (k :: ks)
      | _, _ => none) = _
    rw [ints_of, ih]
theorem clubs_tups {m : Nat} : ∀ {vs : List D}, vs.all (clubQ m) = true → ∃ ks : List (List Int), vs = ks.map tupI
  | [], _ => ⟨[], rfl⟩
  | x :: vs, h => by
    rw [List.all_cons, Bool.and_eq_true] at h
    obtain ⟨ns, e, _⟩ := club_ints h.1
    obtain ⟨ks, e2⟩ := clubs_tups h.2
    exact ⟨ns :: ks, by rw [e, e2]; rfl⟩
theorem ded_self {α : Type} [DecidableEq α] {ks : List α} (h : ks.Nodup) : dedK ks = ks := by
  rw [dedK_F]
  have go : ∀ (l acc : List α), (acc ++ l).Nodup → l.foldl dedF acc = acc ++ l := fun l => by
    induction l with
    | nil => intro acc _; rw [List.append_nil]; rfl
    | cons a l ih =>
      intro acc nd
      have na : a ∉ acc := fun m => (List.nodup_append.mp nd).2.2 a m a List.mem_cons_self rfl
      rw [List.foldl_cons]
      have e : dedF acc a = acc ++ [a] := if_neg na
      rw [e, ih (acc ++ [a]) (by rw [List.append_assoc]; exact nd), List.append_assoc]
      rfl
  exact go ks [] h
theorem ded_len {α : Type} [DecidableEq α] (ks : List α) : decide ((dedK ks).length = ks.length) = decide ks.Nodup := by
  refine decide_eq_decide.mpr ⟨fun h => ?_, fun h => by rw [ded_self h]⟩
  have nd := dedK_nodup ks
  refine Classical.byContradiction fun c => ?_
  have lt : ∀ l : List α, ¬ l.Nodup → ∃ l' : List α, l'.length < l.length ∧ ∀ x, x ∈ l → x ∈ l' := fun l => by
    induction l with
    | nil => intro h; exact absurd List.nodup_nil h
    | cons a l ih =>
      intro h
      by_cases m : a ∈ l
      · exact ⟨l, by rw [List.length_cons]; omega, fun x hx => by
          rcases List.mem_cons.mp hx with rfl | hx
          · exact m
          · exact hx⟩
      · obtain ⟨l', h1, h2⟩ := ih fun z => h (List.nodup_cons.mpr ⟨m, z⟩)
        exact ⟨a :: l', by rw [List.length_cons, List.length_cons]; omega, fun x hx => by
          rcases List.mem_cons.mp hx with rfl | hx
          · exact List.mem_cons_self
          · exact List.mem_cons_of_mem _ (h2 x hx)⟩
  have sub : ∀ {S A : List α}, S.Nodup → (∀ x, x ∈ S → x ∈ A) → S.length ≤ A.length := fun {S} => by
    induction S with
    | nil => intro A _ _; exact Nat.zero_le _
    | cons x S ih =>
      intro A nd h
      have hx := h x List.mem_cons_self
      have := ih (A := A.erase x) (List.nodup_cons.mp nd).2 fun y hy => (List.mem_erase_of_ne fun e => (List.nodup_cons.mp nd).1 (by rw [← e]; exact hy)).mpr (h y (List.mem_cons_of_mem _ hy))
      rw [List.length_erase_of_mem hx] at this
      have := List.length_pos_of_mem hx
      rw [List.length_cons]
      omega
  obtain ⟨l', h1, h2⟩ := lt ks c
  have := sub nd fun x hx => h2 x ((dedK_mem ks x).mp hx)
  omega
theorem asc_sorted (ns : List Int) : decide (ns = (dedK ns).mergeSort fun a b => decide (a ≤ b)) = decide (ns.Pairwise (· < ·)) := by
  have ps : ∀ l : List Int, (l.mergeSort fun a b => decide (a ≤ b)).Pairwise (· ≤ ·) := fun l => by
    have := List.pairwise_mergeSort (le := fun a b : Int => decide (a ≤ b)) (fun a b c x y => decide_eq_true (Int.le_trans (of_decide_eq_true x) (of_decide_eq_true y))) (fun a b => by
      rcases Int.le_total a b with z | z
      · simp [z]
      · simp [z]) l
    exact this.imp fun z => of_decide_eq_true z
  refine decide_eq_decide.mpr ⟨fun h => ?_, fun h => ?_⟩
  · have a := ps (dedK ns)
    have b : (((dedK ns).mergeSort fun a b => decide (a ≤ b)) : List Int).Nodup := (List.mergeSort_perm _ _).nodup_iff.mpr (dedK_nodup ns)
    rw [← h] at a b
    have : ns.Pairwise fun a b => a ≤ b ∧ a ≠ b := List.pairwise_and_iff.mpr ⟨a, b⟩
    exact this.imp fun z => by omega
  · have nd : ns.Nodup := h.imp fun z => by omega
    rw [ded_self nd]
    exact (List.Perm.eq_of_pairwise (le := (· ≤ ·)) (fun a b _ _ x y => Int.le_antisymm x y) (ps ns) (h.imp fun z => by omega) (List.mergeSort_perm ns _)).symm
section
variable {F : List Fn}
def SpClubs (f : Fn) : Prop := ∀ (m : Nat) (v : D), CV v → ∀ g, f [some (natD m), some v] g = some (.bool (clubsQ m v), g)
theorem clubs_sp {c : Nat} (hc : At F c SpClub) : SpClubs (F_is_clubs F c) := fun m v hv g => by
  obtain ⟨_, q1, q2⟩ := hc
  rcases hv with h | ⟨vs, rfl, sh, hl, hx⟩
  · have e0 := c_isT (F := F) (g := g) (ρ := [some (.d false (natD m)), some (.d false v), none]) (i := 1) (v := v) (ty := .tuple) rfl
    rw [h] at e0
    have : clubsQ m v = false := by cases v <;> first | rfl | cases h
    rw [this]
    exact fn_go (c_no (e_or (o_cons (i := true) (j := false) e0 fun z => by cases z)))
  · have t0 : ev F (.or (.cons (.not (.blt (.isi .tuple) (.cons (.v 1) .nil))) (.cons (.cmp (.v 1) (.cons .eq (.tup .nil) .nil)) (.cons (.not (.blt .all (.cons (.comp (.call c (.ex (.v 0) (.ex (.v 2) .nil))) (.n 2) .seq (.cons (.v 1) .nil) .nil) .nil))) .nil)))) [some (.d false (natD m)), some (.d false (.tuple vs)), none] g = some (.bool (decide (vs = []) || !vs.all (clubQ m)), g) :=
      e_or (o_cons (i := false) (j := decide (vs = []) || !vs.all (clubQ m)) (c_isT (v := .tuple vs) (ty := .tuple) rfl) fun _ => o_cons (e_cmp (e_v rfl) (e_tup e_nil) (eq_nilD sh)) fun _ => o_one (e_not (e_allV (l := vs) (h := fun x : D => x) (p := clubQ m) (e_cons (e_v rfl) e_nil) (by rw [List.map_id']; rfl) fun x hx' => e_call (r_ex (e_v rfl) (r_ex (e_v rfl) r_nil)) q1 (q2 m x (hx x hx') g))))
    show _ = some (PyData.bool (clubsT m vs), g)
    unfold clubsT
    by_cases h0 : vs = []
    · rw [decide_eq_true h0] at t0
      rw [decide_eq_true h0]
      exact fn_go (c_no t0)
    · cases hn : vs.all (clubQ m) with
      | false =>
        rw [hn, decide_eq_false h0] at t0
        rw [decide_eq_false h0]
        exact fn_go (c_no t0)
      | true =>
        rw [hn, decide_eq_false h0] at t0
        rw [decide_eq_false h0]
        obtain ⟨ks, rfl⟩ := clubs_tups hn
        have ln : ks.length < 60 := by rw [List.length_map] at hl; exact hl
        unfold nodQ
        rw [tupsK]
        show _ = some (PyData.bool (decide ks.Nodup), g)
        rw [← ded_len]
        have ls : bltO .lenSet [.tuple (ks.map tupI)] = some (natD (dedK ks).length) := by
          show (match tupsOf (ks.map tupI) with
            | some ks => if decide (ks.length < 64) then some (PyData.int (dedK ks).length) else none
            | none => none) = _
          rw [tupsK]
          exact if_pos (decide_eq_true (by omega))
        exact fn_go (x_no t0 (x_stop (x_retE (e_cmp (x := natD (dedK ks).length) (y := natD ks.length) (e_blt (e_cons (e_v rfl) e_nil) ls) (ev_eq (e_blt (e_cons (e_v rfl) e_nil) (lenTN _)) (congrArg natD (List.length_map ..))) (c_eq_nat _ _)))))
abbrev kS (m : Nat) (v : D) (o2 o3 o4 : Option Sl) : Rho := [some (.d false (natD m)), some (.d false v), o2, o3, o4]
def okR (m : Nat) (ks : List (List Int)) (r : List D) : Bool := r.all (clubQ m) && match tupsOf r with
  | some ks' => decide (ks ++ ks').Nodup
  | none => false
set_option maxHeartbeats 1000000 in
theorem lcl_loop {c : Nat} (hc : At F c SpNumU) {m : Nat} {vs : List D} (sh : SeqAt.shaped (.tuple vs) = true) {g : PState} : ∀ (r : List D) (ks : List (List Int)), vs = ks.map tupI ++ r → ks.Nodup → (∀ x, x ∈ r → ∃ ds, x = .tuple ds ∧ SeqAt.shaped x = true ∧ ds.length < 60) → ∀ (o2 o3 o4 : Option Sl), ∃ ρ', forL (fun ρ x => bnd (ofO (bindT (.t [(.n 3), (.n 2)]) x ρ)) fun ρ' => exs F (W1_law_is_clubs c) ρ') ((r.zipIdx ks.length).map fun p => .tuple [natD p.2, p.1]) (kS m (.tuple vs) o2 o3 o4) g = some ((if okR m ks r = true then .nx else .rt (.bool false), ρ'), g)
  | [], ks, _, nd, _, o2, o3, o4 => ⟨_, by
      have : okR m ks [] = true := by
        show (true && decide (ks ++ []).Nodup) = true
        rw [List.append_nil, decide_eq_true nd]
        rfl
      rw [this]
      rfl⟩
  | x :: r, ks, hvs, nd, hr, o2, o3, o4 => by
    obtain ⟨_, q1, q2⟩ := id hc
    obtain ⟨ds, rfl, shx, lx⟩ := hr x List.mem_cons_self
    rw [List.zipIdx_cons, List.map_cons]
    let R := fun (a4 : Option Sl) => kS m (.tuple vs) (some (.d false (.tuple ds))) (some (.d false (natD ks.length))) a4
    have t1 : ev F (.or (.cons (.cmp (.v 2) (.cons .eq (.tup .nil) .nil)) (.cons (.cmp (.comp (.v 4) (.n 4) .seq (.cons (.v 2) .nil) (.cons (.not (.call c (.ex (.v 4) (.ex (.v 0) .nil)))) .nil)) (.cons .ne (.lst .nil) .nil)) .nil))) (R o4) g = some (.bool (decide (ds = []) || !ds.all fun d => numU d m), g) := by
      refine e_or (o_cons (e_cmp (e_v rfl) (e_tup e_nil) (eq_nilD shx)) fun _ => o_one (ev_eq (e_cmp (e_filV (l := ds) (h := fun x : D => x) (f := fun x : D => x) (p := fun d => !numU d m) (e_cons (e_v rfl) e_nil) (by rw [List.map_id']; rfl) (fun d _ => e_not (e_call (r_ex (e_v rfl) (r_ex (e_v rfl) r_nil)) q1 (q2 d m g))) fun d _ _ => e_v rfl) (e_lst e_nil) (ne_nilX ?_)) ?_))
      · rw [List.map_id']
        exact (sh_sub shx fun y hy => (List.mem_filter.mp hy).1).1
      · rw [List.map_id']
        congr 1
        cases h : ds.all fun d => numU d m with
        | true => rw [decide_eq_true (List.filter_eq_nil_iff.mpr fun d hd => by rw [(List.all_eq_true.mp h) d hd]; simp)]
        | false =>
          obtain ⟨d, hd, hn⟩ := List.all_eq_false.mp h
          rw [decide_eq_false fun z => (List.filter_eq_nil_iff.mp z) d hd (by simpa using hn)]
    have bad : okR m ks (.tuple ds :: r) = false → (∃ ρ', exs F (W1_law_is_clubs c) (R o4) g = some ((.rt (.bool false), ρ'), g)) → ∃ ρ', forL (fun ρ x => bnd (ofO (bindT (.t [(.n 3), (.n 2)]) x ρ)) fun ρ' => exs F (W1_law_is_clubs c) ρ') (PyData.tuple [natD ks.length, .tuple ds] :: (r.zipIdx (ks.length + 1)).map fun p => .tuple [natD p.2, p.1]) (kS m (.tuple vs) o2 o3 o4) g = some ((if okR m ks (.tuple ds :: r) = true then .nx else .rt (.bool false), ρ'), g) := fun h ⟨ρ', e⟩ => ⟨ρ', by rw [h]; exact f_stop (b_go (ρ1 := R o4) rfl e)⟩
    by_cases h0 : ds = []
    · rw [decide_eq_true h0] at t1
      refine bad ?_ ⟨_, c_no t1⟩
      show (((clubT m ds) && _) && _) = false
      unfold clubT
      rw [decide_eq_true h0]
      rfl
    cases hn : ds.all fun d => numU d m with
    | false =>
      rw [decide_eq_false h0, hn] at t1
      refine bad ?_ ⟨_, c_no t1⟩
      show (((clubT m ds) && _) && _) = false
      unfold clubT
      rw [decide_eq_false h0, hn]
      rfl
    | true =>
      rw [decide_eq_false h0, hn] at t1
      obtain ⟨ns, rfl, e2, e3⟩ := nums_ints hn
      have ln : ns.length < 60 := by rw [List.length_map] at lx; exact lx
      have cq : clubQ m (.tuple (ns.map intD)) = ascI ns := by
        show clubT m _ = _
        unfold clubT
        rw [decide_eq_false h0, hn, e2]
        rfl
      have ss : bltO .sortSet [.tuple (ns.map intD)] = some (.list (((dedK ns).mergeSort fun a b => decide (a ≤ b)).map intD)) := by
        show (match intsOf (ns.map intD) with
          | some ns => if decide (ns.length < 60) then some (PyData.list (((dedK ns).mergeSort fun a b => decide (a ≤ b)).map .int)) else none
          | none => none) = _
        rw [e2]
        exact if_pos (decide_eq_true ln)
      have pre : slO (.tuple vs) none (some ((ks.length : Nat) : Int)) = some (.tuple (ks.map tupI)) := by
        show some (PyData.tuple (cutL vs none (some ((ks.length : Nat) : Int)))) = _
        have : cutL vs none (some ((ks.length : Nat) : Int)) = vs.take ks.length := by
          unfold cutL
          rw [HT.sIx_nat, HT.sIx_none, List.drop_zero, Nat.sub_zero]
          by_cases h : ks.length ≤ vs.length
          · rw [Nat.min_eq_left h]
          · rw [Nat.min_eq_right (by omega), List.take_of_length_le (Nat.le_refl _), List.take_of_length_le (by omega)]
        rw [this, hvs, List.take_left' (List.length_map ..)]
      have mm : memO (tupI ns) (.tuple (ks.map tupI)) = some (decide (ns ∈ ks)) := by
        have s2 : SeqAt.shaped (.tuple (ks.map tupI)) = true := (sh_sub sh fun y hy => by rw [hvs]; exact List.mem_append_left _ hy).2
        show (if (SeqAt.shaped (tupI ns) && SeqAt.shaped (.tuple (ks.map tupI))) = true then some ((ks.map tupI).any fun z => PyData.eqv z (tupI ns)) else none) = _
        rw [sh_tupI, s2, Bool.and_self, if_pos rfl, List.any_map]
        congr 1
        by_cases c : ns ∈ ks
        · rw [decide_eq_true c]
          exact List.any_eq_true.mpr ⟨ns, c, by show PyData.eqv (tupI ns) (tupI ns) = true; rw [eqv_tupI]; exact decide_eq_true rfl⟩
        · rw [decide_eq_false c]
          refine List.any_eq_false.mpr fun y hy z => c ?_
          have z' : PyData.eqv (tupI y) (tupI ns) = true := z
          rw [eqv_tupI] at z'
          exact of_decide_eq_true z' ▸ hy
      have t2 : ev F (.or (.cons (.cmp (.blt .list (.cons (.v 2) .nil)) (.cons .ne (.blt .sortSet (.cons (.v 2) .nil)) .nil)) (.cons (.cmp (.v 2) (.cons .mem (.sl (.v 1) .abs (.v 3)) .nil)) .nil))) (R o4) g = some (.bool (!ascI ns || decide (ns ∈ ks)), g) := by
        unfold ascI
        rw [← asc_sorted]
        exact e_or (o_cons (e_cmp (x := .list (ns.map intD)) (e_blt (e_cons (e_v rfl) e_nil) rfl) (e_blt (e_cons (e_v rfl) e_nil) ss) (ne_intL _ _)) fun _ => o_one (e_cmp (x := tupI ns) (e_v rfl) (e_sl (e_v rfl) p_abs (p_int (by intro z; cases z) (e_v rfl)) pre) mm))
      have oq : ∀ b, ascI ns = b → okR m ks (.tuple (ns.map intD) :: r) = (b && (r.all (clubQ m) && match tupsOf r with
          | some ks' => decide (ks ++ ns :: ks').Nodup
          | none => false)) := fun b hb => by
        unfold okR
        rw [List.all_cons, cq, hb]
        have : tupsOf (.tuple (ns.map intD) :: r) = match tupsOf r with
          | some ks' => some (ns :: ks')
          | none => none := by
          show (match intsOf (ns.map intD), tupsOf r with
            | some k, some ks => some (k :: ks)
            | _, _ => none) = _
          rw [e2]
          cases tupsOf r <;> rfl
        rw [this, Bool.and_assoc]
        cases tupsOf r <;> rfl
      cases ha : ascI ns with
      | false =>
        rw [ha] at t2
        refine bad ?_ ⟨_, x_no t1 (c_no t2)⟩
        rw [oq false ha]
        rfl
      | true =>
        rw [ha] at t2
        by_cases hm : ns ∈ ks
        · rw [decide_eq_true hm] at t2
          refine bad ?_ ⟨_, x_no t1 (c_no t2)⟩
          rw [oq true ha]
          cases tupsOf r with
          | none => rw [Bool.and_false]; rfl
          | some ks' =>
            show (true && (_ && decide (ks ++ ns :: ks').Nodup)) = false
            rw [decide_eq_false fun z => (List.nodup_append.mp z).2.2 ns hm ns List.mem_cons_self rfl, Bool.and_false]
            rfl
        · rw [decide_eq_false hm] at t2
          obtain ⟨ρ', e⟩ := lcl_loop hc sh (g := g) (m := m) (vs := vs) r (ks ++ [ns]) (by rw [hvs, List.map_append, List.append_assoc]; rfl) (by
            refine List.nodup_append.mpr ⟨nd, List.nodup_cons.mpr ⟨List.not_mem_nil, List.nodup_nil⟩, fun a ham b hb => ?_⟩
            obtain rfl := List.mem_singleton.mp hb
            exact fun z => hm (by rw [← z]; exact ham)) (fun y hy => hr y (List.mem_cons_of_mem _ hy)) (some (.d false (tupI ns))) (some (.d false (natD ks.length))) o4
          have oe : okR m (ks ++ [ns]) r = okR m ks (.tuple (ns.map intD) :: r) := by
            rw [oq true ha, Bool.true_and]
            unfold okR
            cases tupsOf r with
            | none => rfl
            | some ks' =>
              show (_ && decide (ks ++ [ns] ++ ks').Nodup) = _
              rw [List.append_assoc]
              rfl
          rw [oe, List.length_append] at e
          exact ⟨ρ', f_step (b_go (ρ1 := R o4) rfl (x_no t1 (x_no t2 x_nil))) e⟩
end
end DT

/-! Clubs: by the law's own; what are lists. -/
namespace DT
open PySem
theorem enum_D (vs : List D) : enumL vs = (vs.zipIdx 0).map fun p => .tuple [natD p.2, p.1] := by
  unfold enumL
  refine List.ext_getElem (by simp) fun i h1 h2 => ?_
  simp [natD]
theorem memC (k : Nat) (l : List Nat) : memO (natD k) (lotD l) = some (decide (k ∈ l)) := by
  have sh : SeqAt.shaped (lotD l) = true := by
    unfold SeqAt.shaped lotD
    rw [PyData.canLay0, lay_all (h := natD) (fun _ => rfl), Bool.true_and, PyData.depth]
    have : PyData.depthAll (l.map natD) ≤ 0 := depthAll_le fun d hd' => by
      obtain ⟨a, _, rfl⟩ := List.mem_map.mp hd'
      exact Nat.zero_le _
    exact decide_eq_true (by omega)
  show (if (SeqAt.shaped (natD k) && SeqAt.shaped (lotD l)) = true then some ((l.map natD).any fun z => PyData.eqv z (natD k)) else none) = _
  rw [show SeqAt.shaped (natD k) = true from rfl, sh, Bool.and_self, if_pos rfl, List.any_map]
  congr 1
  by_cases c : k ∈ l
  · rw [decide_eq_true c]
    exact List.any_eq_true.mpr ⟨k, c, by show PyData.eqv (natD k) (natD k) = true; rw [eqv_nat]; exact decide_eq_true rfl⟩
  · rw [decide_eq_false c]
    refine List.any_eq_false.mpr fun y hy z => c ?_
    have z' : PyData.eqv (natD y) (natD k) = true := z
    rw [eqv_nat] at z'
    exact of_decide_eq_true z' ▸ hy
def isrt (l : List Int) : List Int := l.mergeSort fun a b => decide (a ≤ b)
theorem sortC (l : List Int) : bltO .sorted [tupI l] = some (.list ((isrt l).map intD)) := by
  have h1 : sortOk (l.map intD) = true := by
    unfold sortOk
    rw [Bool.and_eq_true, Bool.and_eq_true]
    refine ⟨⟨?_, ?_⟩, ?_⟩
    · refine List.all_eq_true.mpr fun d hd => List.all_eq_true.mpr fun e he => ?_
      obtain ⟨a, _, rfl⟩ := List.mem_map.mp hd
      obtain ⟨b, _, rfl⟩ := List.mem_map.mp he
      rfl
    · refine (Bool.or_eq_true ..).mpr (.inr (List.all_eq_true.mpr fun d hd => ?_))
      obtain ⟨a, _, rfl⟩ := List.mem_map.mp hd
      rfl
    · rw [Bool.and_eq_true]
      refine ⟨lay_all (h := intD) (fun _ => rfl) l, List.all_eq_true.mpr fun d hd => ?_⟩
      obtain ⟨a, _, rfl⟩ := List.mem_map.mp hd
      rfl
  have e : sortO (l.map intD) = some ((isrt l).map intD) := by
    unfold sortO
    rw [if_pos h1]
    congr 1
    refine (List.map_mergeSort fun a _ b _ => ?_).symm
    have q := congrFun (congrFun (PySem.W.dataLe_int fun b : Int => b) a) b
    exact q.symm
  show (match some (l.map intD) with
    | some xs => (sortO xs).map PyData.list
    | none => none) = _
  dsimp only
  rw [e]
  rfl
def idxN (cs : List (List Nat)) (i : Nat) : List Nat := (cs.zipIdx.filter fun p => decide (i ∈ p.1)).map (·.2)
def idxI (cs : List (List Nat)) (i : Nat) : List Int := (idxN cs i).map fun j : Nat => (j : Int)
def rowT (cs : List (List Nat)) (i : Nat) (ds : List D) : Bool := (ds.all fun d => numU d cs.length) && match intsOf ds with
  | some ns => decide (isrt ns = idxI cs i)
  | none => false
def rowQ (cs : List (List Nat)) (i : Nat) : D → Bool
  | .tuple ds => rowT cs i ds
  | _ => false
def listsT (m : Nat) (cs : List (List Nat)) (vs : List D) : Bool := decide (vs.length = m) && (vs.zipIdx.all fun p => rowQ cs p.2 p.1)
def listsQ (m : Nat) (cs : List (List Nat)) : D → Bool
  | .tuple vs => listsT m cs vs
  | _ => false
def csD (cs : List (List Nat)) : D := .tuple (cs.map lotD)
section
variable {F : List Fn}
theorem lclubs_sp {c : Nat} (hc : At F c SpNumU) : SpClubs (F_law_is_clubs F c) := fun m v hv g => by
  rcases hv with h | ⟨vs, rfl, sh, hl, hx⟩
  · have e0 := c_isT (F := F) (g := g) (ρ := kS m v none none none) (i := 1) (v := v) (ty := .tuple) rfl
    rw [h] at e0
    have : clubsQ m v = false := by cases v <;> first | rfl | cases h
    rw [this]
    exact fn_go (c_no (e_or (o_cons (i := true) (j := false) e0 fun z => by cases z)))
  · have t0 : ev F (.or (.cons (.not (.blt (.isi .tuple) (.cons (.v 1) .nil))) (.cons (.cmp (.v 1) (.cons .eq (.tup .nil) .nil)) (.cons (.not (.blt .all (.cons (.comp (.blt (.isi .tuple) (.cons (.v 2) .nil)) (.n 2) .seq (.cons (.v 1) .nil) .nil) .nil))) .nil)))) (kS m (.tuple vs) none none none) g = some (.bool (decide (vs = []) || !vs.all fun x => tyOf x .tuple), g) :=
      e_or (o_cons (i := false) (j := decide (vs = []) || !vs.all fun x => tyOf x .tuple) (c_isT (v := .tuple vs) (ty := .tuple) rfl) fun _ => o_cons (e_cmp (e_v rfl) (e_tup e_nil) (eq_nilD sh)) fun _ => o_one (e_not (e_allV (l := vs) (h := fun x : D => x) (p := fun x => tyOf x .tuple) (e_cons (e_v rfl) e_nil) (by rw [List.map_id']; rfl) fun x hx' => e_blt (e_cons (e_v rfl) e_nil) rfl)))
    show _ = some (PyData.bool (clubsT m vs), g)
    by_cases h0 : vs = []
    · have : clubsT m vs = false := by
        unfold clubsT
        rw [decide_eq_true h0]
        rfl
      rw [this]
      rw [decide_eq_true h0] at t0
      exact fn_go (c_no t0)
    cases ht : vs.all fun x => tyOf x .tuple with
    | false =>
      have : clubsT m vs = false := by
        obtain ⟨x, hx1, hx2⟩ := List.all_eq_false.mp ht
        have : vs.all (clubQ m) = false := List.all_eq_false.mpr ⟨x, hx1, by
          cases x with
          | tuple ds => exact absurd rfl hx2
          | _ => intro z; cases z⟩
        unfold clubsT
        rw [this, Bool.false_and, Bool.and_false]
      rw [this]
      rw [ht, decide_eq_false h0] at t0
      exact fn_go (c_no t0)
    | true =>
      rw [ht, decide_eq_false h0] at t0
      obtain ⟨ρ', lp⟩ := lcl_loop hc sh (g := g) (m := m) vs [] rfl List.nodup_nil (fun x hx1 => by
        rcases hx x hx1 with q | ⟨ds, e, s, l⟩
        · have := List.all_eq_true.mp ht x hx1
          rw [q] at this
          cases this
        · exact ⟨ds, e, s, l⟩) none none none
      have e1 : clubsT m vs = okR m [] vs := by
        unfold clubsT okR nodQ
        rw [decide_eq_false h0]
        rfl
      rw [e1]
      have en : itO .enum [.tuple vs] = some ((vs.zipIdx 0).map fun p => .tuple [natD p.2, p.1]) := congrArg some (enum_D vs)
      cases hq : okR m [] vs with
      | true =>
        rw [hq] at lp
        exact fn_go (x_no t0 (x_cons (x_for (e_cons (e_v rfl) e_nil) en lp) (x_stop (x_retE e_k))))
      | false =>
        rw [hq] at lp
        exact fn_go (x_no t0 (x_stop (x_for (e_cons (e_v rfl) e_nil) en lp)))
def SpLists (f : Fn) : Prop := ∀ (m : Nat) (cs : List (List Nat)) (v : D), cs.length < 60 → CV v → ∀ g, f [some (natD m), some (csD cs), some v] g = some (.bool (listsQ m cs v), g)
abbrev roS (m : Nat) (cs : List (List Nat)) (v : D) (o3 o4 o5 o6 : Option Sl) : Rho := [some (.d false (natD m)), some (.d false (csD cs)), some (.d false v), o3, o4, o5, o6]
theorem ids_ne (cs : List (List Nat)) (i : Nat) (ns : List Int) : cmpO .ne (.list ((isrt ns).map intD)) (.list ((cs.zipIdx.filter fun p => decide (i ∈ p.1)).map fun p => natD p.2)) = some (!decide (isrt ns = idxI cs i)) := by
  have e : ((cs.zipIdx.filter fun p => decide (i ∈ p.1)).map fun p => natD p.2) = (idxI cs i).map intD := by
    unfold idxI idxN
    rw [List.map_map, List.map_map]
    rfl
  rw [e]
  exact ne_intL _ _
theorem lenC {ρ : Rho} {g : PState} {cs : List (List Nat)} (h : getV ρ 1 = some (csD cs)) : ev F (.blt .len (.cons (.v 1) .nil)) ρ g = some (natD cs.length, g) := ev_eq (e_blt (e_cons (e_v h) e_nil) (lenTN _)) (congrArg natD (List.length_map ..))
theorem enC (cs : List (List Nat)) : itO .enum [csD cs] = some (cs.zipIdx.map fun p => .tuple [natD p.2, lotD p.1]) := by
  show some (enumL (cs.map lotD)) = _
  rw [enum_D, List.zipIdx_map, List.map_map]
  rfl
theorem ls_loop {c : Nat} (hc : At F c SpNumU) {m : Nat} {cs : List (List Nat)} {v : D} {g : PState} : ∀ (r : List D) (k : Nat), (∀ x, x ∈ r → ∃ ds, x = .tuple ds) → ∀ (o3 o4 o5 o6 : Option Sl), ∃ ρ', forL (fun ρ x => bnd (ofO (bindT (.t [(.n 4), (.n 3)]) x ρ)) fun ρ' => exs F (W1_is_lists c) ρ') ((r.zipIdx k).map fun p => .tuple [natD p.2, p.1]) (roS m cs v o3 o4 o5 o6) g = some ((if (r.zipIdx k).all (fun p => rowQ cs p.2 p.1) = true then .nx else .rt (.bool false), ρ'), g)
  | [], k, _, o3, o4, o5, o6 => ⟨_, rfl⟩
  | x :: r, k, hr, o3, o4, o5, o6 => by
    obtain ⟨_, q1, q2⟩ := id hc
    obtain ⟨ds, rfl⟩ := hr x List.mem_cons_self
    rw [List.zipIdx_cons, List.map_cons]
    let R := fun (a5 a6 : Option Sl) => roS m cs v (some (.d false (.tuple ds))) (some (.d false (natD k))) a5 a6
    have t1 : ev F (.not (.blt .all (.cons (.comp (.call c (.ex (.v 5) (.ex (.blt .len (.cons (.v 1) .nil)) .nil))) (.n 5) .seq (.cons (.v 3) .nil) .nil) .nil))) (R o5 o6) g = some (.bool (!ds.all fun d => numU d cs.length), g) := e_not (e_allV (l := ds) (h := fun x : D => x) (p := fun d => numU d cs.length) (e_cons (e_v rfl) e_nil) (by rw [List.map_id']; rfl) fun x hx' => e_call (r_ex (e_v rfl) (r_ex (lenC (cs := cs) rfl) r_nil)) q1 (q2 x _ g))
    have st : ∀ b, rowT cs k ds = b → ((PyData.tuple ds, k) :: r.zipIdx (k + 1)).all (fun p => rowQ cs p.2 p.1) = (b && (r.zipIdx (k + 1)).all fun p => rowQ cs p.2 p.1) := fun b hb => by
      rw [List.all_cons]
      show (rowT cs k ds && _) = _
      rw [hb]
    have bad : rowT cs k ds = false → (∃ ρ', exs F (W1_is_lists c) (R o5 o6) g = some ((.rt (.bool false), ρ'), g)) → ∃ ρ', forL (fun ρ x => bnd (ofO (bindT (.t [(.n 4), (.n 3)]) x ρ)) fun ρ' => exs F (W1_is_lists c) ρ') (PyData.tuple [natD k, .tuple ds] :: (r.zipIdx (k + 1)).map fun p => .tuple [natD p.2, p.1]) (roS m cs v o3 o4 o5 o6) g = some ((if ((PyData.tuple ds, k) :: r.zipIdx (k + 1)).all (fun p => rowQ cs p.2 p.1) = true then .nx else .rt (.bool false), ρ'), g) := fun h ⟨ρ', e⟩ => ⟨ρ', by rw [st _ h]; exact f_stop (b_go (ρ1 := R o5 o6) rfl e)⟩
    cases hn : ds.all fun d => numU d cs.length with
    | false =>
      rw [hn] at t1
      refine bad ?_ ⟨_, c_no t1⟩
      unfold rowT
      rw [hn]
      rfl
    | true =>
      rw [hn] at t1
      obtain ⟨ns, rfl, e2, e3⟩ := nums_ints hn
      have t2 : ev F (.cmp (.blt .sorted (.cons (.v 3) .nil)) (.cons .ne (.comp (.v 5) (.t [(.n 5), (.n 6)]) .enum (.cons (.v 1) .nil) (.cons (.cmp (.v 4) (.cons .mem (.v 6) .nil)) .nil)) .nil)) (R o5 o6) g = some (.bool (!decide (isrt ns = idxI cs k)), g) := e_cmp (x := .list ((isrt ns).map intD)) (e_blt (e_cons (e_v rfl) e_nil) (sortC ns)) (e_filA (l := cs.zipIdx) (h := fun p => .tuple [natD p.2, lotD p.1]) (f := fun p => natD p.2) (p := fun p => decide (k ∈ p.1)) (bd := fun p => R (some (.d false (natD p.2))) (some (.d false (lotD p.1)))) (e_cons (e_v rfl) e_nil) (enC cs) (fun _ _ => rfl) (fun p _ => e_cmp (e_v rfl) (e_v rfl) (memC k p.1)) fun p _ _ => e_v rfl) (ids_ne cs k ns)
      have rq : rowT cs k (ns.map intD) = decide (isrt ns = idxI cs k) := by
        unfold rowT
        rw [hn, e2]
        rfl
      cases hd : decide (isrt ns = idxI cs k) with
      | false =>
        rw [hd] at t2
        exact bad (rq.trans hd) ⟨_, x_no t1 (c_no t2)⟩
      | true =>
        rw [hd] at t2
        obtain ⟨ρ', e⟩ := ls_loop hc (m := m) (cs := cs) (v := v) (g := g) r (k + 1) (fun y hy => hr y (List.mem_cons_of_mem _ hy)) (some (.d false (.tuple (ns.map intD)))) (some (.d false (natD k))) o5 o6
        rw [st _ (rq.trans hd), Bool.true_and]
        exact ⟨ρ', f_step (b_go (ρ1 := R o5 o6) rfl (x_no t1 (x_no t2 x_nil))) e⟩
theorem lists_sp {c : Nat} (hc : At F c SpNumU) : SpLists (F_is_lists F c) := fun m cs v hcs hv g => by
  rcases hv with h | ⟨vs, rfl, sh, hl, hx⟩
  · have e0 := c_isT (F := F) (g := g) (ρ := roS m cs v none none none none) (i := 2) (v := v) (ty := .tuple) rfl
    rw [h] at e0
    have : listsQ m cs v = false := by cases v <;> first | rfl | cases h
    rw [this]
    exact fn_go (c_no (e_or (o_cons (i := true) (j := false) e0 fun z => by cases z)))
  · have t0 : ev F (.or (.cons (.not (.blt (.isi .tuple) (.cons (.v 2) .nil))) (.cons (.cmp (.blt .len (.cons (.v 2) .nil)) (.cons .ne (.v 0) .nil)) (.cons (.not (.blt .all (.cons (.comp (.blt (.isi .tuple) (.cons (.v 3) .nil)) (.n 3) .seq (.cons (.v 2) .nil) .nil) .nil))) .nil)))) (roS m cs (.tuple vs) none none none none) g = some (.bool (!decide (vs.length = m) || !vs.all fun x => tyOf x .tuple), g) :=
      e_or (o_cons (i := false) (j := !decide (vs.length = m) || !vs.all fun x => tyOf x .tuple) (c_isT (v := .tuple vs) (ty := .tuple) rfl) fun _ => o_cons (e_cmp (x := natD vs.length) (e_blt (e_cons (e_v rfl) e_nil) (lenTN _)) (e_v rfl) (c_ne_nat _ _)) fun _ => o_one (e_not (e_allV (l := vs) (h := fun x : D => x) (p := fun x => tyOf x .tuple) (e_cons (e_v rfl) e_nil) (by rw [List.map_id']; rfl) fun x hx' => e_blt (e_cons (e_v rfl) e_nil) rfl)))
    show _ = some (PyData.bool (listsT m cs vs), g)
    by_cases h0 : vs.length = m
    · cases ht : vs.all fun x => tyOf x .tuple with
      | false =>
        have : listsT m cs vs = false := by
          obtain ⟨x, hx1, hx2⟩ := List.all_eq_false.mp ht
          have : (vs.zipIdx.all fun p => rowQ cs p.2 p.1) = false := by
            obtain ⟨i, hi⟩ := List.mem_iff_getElem?.mp hx1
            refine List.all_eq_false.mpr ⟨(x, i), List.mem_iff_getElem?.mpr ⟨i, by rw [List.getElem?_zipIdx, hi]; simp⟩, ?_⟩
            cases x with
            | tuple ds => exact absurd rfl hx2
            | _ => intro z; cases z
          unfold listsT
          rw [this, Bool.and_false]
        rw [this]
        rw [ht, decide_eq_true h0] at t0
        exact fn_go (c_no t0)
      | true =>
        rw [ht, decide_eq_true h0] at t0
        obtain ⟨ρ', lp⟩ := ls_loop hc (m := m) (cs := cs) (v := .tuple vs) (g := g) vs 0 (fun x hx1 => by
          have := List.all_eq_true.mp ht x hx1
          cases x with
          | tuple ds => exact ⟨ds, rfl⟩
          | _ => cases this) none none none none
        have e1 : listsT m cs vs = (vs.zipIdx 0).all fun p => rowQ cs p.2 p.1 := by
          unfold listsT
          rw [decide_eq_true h0]
          rfl
        rw [e1]
        have en : itO .enum [.tuple vs] = some ((vs.zipIdx 0).map fun p => .tuple [natD p.2, p.1]) := congrArg some (enum_D vs)
        cases hq : (vs.zipIdx 0).all fun p => rowQ cs p.2 p.1 with
        | true =>
          rw [hq] at lp
          exact fn_go (x_no t0 (x_cons (x_for (e_cons (e_v rfl) e_nil) en lp) (x_stop (x_retE e_k))))
        | false =>
          rw [hq] at lp
          exact fn_go (x_no t0 (x_stop (x_for (e_cons (e_v rfl) e_nil) en lp)))
    · have : listsT m cs vs = false := by
        unfold listsT
        rw [decide_eq_false h0]
        rfl
      rw [this]
      rw [decide_eq_false h0] at t0
      exact fn_go (c_no t0)
end
end DT

/-! Clubs: lists by the law's own; tables. -/
namespace DT
open PySem
section
variable {F : List Fn}
theorem lls_loop {c : Nat} (hc : At F c SpNumU) {m : Nat} {cs : List (List Nat)} {v : D} {g : PState} : ∀ (r : List D) (k : Nat), (∀ x, x ∈ r → TV x) → ∀ (o3 o4 o5 o6 : Option Sl), ∃ ρ', forL (fun ρ x => bnd (ofO (bindT (.t [(.n 3), (.n 4)]) x ρ)) fun ρ' => exs F (W1_law_is_lists c) ρ') ((r.zipIdx k).map fun p => .tuple [natD p.2, p.1]) (roS m cs v o3 o4 o5 o6) g = some ((if (r.zipIdx k).all (fun p => rowQ cs p.2 p.1) = true then .nx else .rt (.bool false), ρ'), g)
  | [], k, _, o3, o4, o5, o6 => ⟨_, rfl⟩
  | x :: r, k, hr, o3, o4, o5, o6 => by
    obtain ⟨_, q1, q2⟩ := id hc
    rw [List.zipIdx_cons, List.map_cons]
    let R := fun (a5 a6 : Option Sl) => roS m cs v (some (.d false (natD k))) (some (.d false x)) a5 a6
    have st : ∀ b, rowQ cs k x = b → ((x, k) :: r.zipIdx (k + 1)).all (fun p => rowQ cs p.2 p.1) = (b && (r.zipIdx (k + 1)).all fun p => rowQ cs p.2 p.1) := fun b hb => by
      rw [List.all_cons]
      show (rowQ cs k x && _) = _
      rw [hb]
    have bad : rowQ cs k x = false → (∃ ρ', exs F (W1_law_is_lists c) (R o5 o6) g = some ((.rt (.bool false), ρ'), g)) → ∃ ρ', forL (fun ρ x => bnd (ofO (bindT (.t [(.n 3), (.n 4)]) x ρ)) fun ρ' => exs F (W1_law_is_lists c) ρ') (PyData.tuple [natD k, x] :: (r.zipIdx (k + 1)).map fun p => .tuple [natD p.2, p.1]) (roS m cs v o3 o4 o5 o6) g = some ((if ((x, k) :: r.zipIdx (k + 1)).all (fun p => rowQ cs p.2 p.1) = true then .nx else .rt (.bool false), ρ'), g) := fun h ⟨ρ', e⟩ => ⟨ρ', by rw [st _ h]; exact f_stop (b_go (ρ1 := R o5 o6) rfl e)⟩
    rcases hr x List.mem_cons_self with h | ⟨ds, rfl, shx, lx⟩
    · have e0 := c_isT (F := F) (g := g) (ρ := R o5 o6) (i := 4) (v := x) (ty := .tuple) rfl
      rw [h] at e0
      exact bad (by cases x <;> first | rfl | cases h) ⟨_, c_no (e_or (o_cons (i := true) (j := false) e0 fun z => by cases z))⟩
    · have t1 : ev F (.or (.cons (.not (.blt (.isi .tuple) (.cons (.v 4) .nil))) (.cons (.cmp (.comp (.v 5) (.n 5) .seq (.cons (.v 4) .nil) (.cons (.not (.call c (.ex (.v 5) (.ex (.blt .len (.cons (.v 1) .nil)) .nil)))) .nil)) (.cons .ne (.lst .nil) .nil)) .nil))) (R o5 o6) g = some (.bool (!ds.all fun d => numU d cs.length), g) := by
        refine e_or (o_cons (i := false) (j := !ds.all fun d => numU d cs.length) (c_isT (v := .tuple ds) (ty := .tuple) rfl) fun _ => o_one (ev_eq (e_cmp (e_filV (l := ds) (h := fun x : D => x) (f := fun x : D => x) (p := fun d => !numU d cs.length) (e_cons (e_v rfl) e_nil) (by rw [List.map_id']; rfl) (fun d _ => e_not (e_call (r_ex (e_v rfl) (r_ex (lenC (cs := cs) rfl) r_nil)) q1 (q2 d _ g))) fun d _ _ => e_v rfl) (e_lst e_nil) (ne_nilX ?_)) ?_))
        · rw [List.map_id']
          exact (sh_sub shx fun y hy => (List.mem_filter.mp hy).1).1
        · rw [List.map_id']
          congr 1
          cases h : ds.all fun d => numU d cs.length with
          | true => rw [decide_eq_true (List.filter_eq_nil_iff.mpr fun d hd => by rw [(List.all_eq_true.mp h) d hd]; simp)]
          | false =>
            obtain ⟨d, hd, hn⟩ := List.all_eq_false.mp h
            rw [decide_eq_false fun z => (List.filter_eq_nil_iff.mp z) d hd (by simpa using hn)]
      cases hn : ds.all fun d => numU d cs.length with
      | false =>
        rw [hn] at t1
        refine bad ?_ ⟨_, c_no t1⟩
        show rowT cs k ds = false
        unfold rowT
        rw [hn]
        rfl
      | true =>
        rw [hn] at t1
        obtain ⟨ns, rfl, e2, e3⟩ := nums_ints hn
        have t2 : ev F (.cmp (.blt .sorted (.cons (.v 4) .nil)) (.cons .ne (.comp (.v 5) (.t [(.n 5), (.n 6)]) .enum (.cons (.v 1) .nil) (.cons (.cmp (.v 3) (.cons .mem (.v 6) .nil)) .nil)) .nil)) (R o5 o6) g = some (.bool (!decide (isrt ns = idxI cs k)), g) := e_cmp (x := .list ((isrt ns).map intD)) (e_blt (e_cons (e_v rfl) e_nil) (sortC ns)) (e_filA (l := cs.zipIdx) (h := fun p => .tuple [natD p.2, lotD p.1]) (f := fun p => natD p.2) (p := fun p => decide (k ∈ p.1)) (bd := fun p => R (some (.d false (natD p.2))) (some (.d false (lotD p.1)))) (e_cons (e_v rfl) e_nil) (enC cs) (fun _ _ => rfl) (fun p _ => e_cmp (e_v rfl) (e_v rfl) (memC k p.1)) fun p _ _ => e_v rfl) (ids_ne cs k ns)
        have rq : rowQ cs k (.tuple (ns.map intD)) = decide (isrt ns = idxI cs k) := by
          show rowT cs k (ns.map intD) = _
          unfold rowT
          rw [hn, e2]
          rfl
        cases hd : decide (isrt ns = idxI cs k) with
        | false =>
          rw [hd] at t2
          exact bad (rq.trans hd) ⟨_, x_no t1 (c_no t2)⟩
        | true =>
          rw [hd] at t2
          obtain ⟨ρ', e⟩ := lls_loop hc (m := m) (cs := cs) (v := v) (g := g) r (k + 1) (fun y hy => hr y (List.mem_cons_of_mem _ hy)) (some (.d false (natD k))) (some (.d false (.tuple (ns.map intD)))) o5 o6
          rw [st _ (rq.trans hd), Bool.true_and]
          exact ⟨ρ', f_step (b_go (ρ1 := R o5 o6) rfl (x_no t1 (x_no t2 x_nil))) e⟩
theorem llists_sp {c : Nat} (hc : At F c SpNumU) : SpLists (F_law_is_lists F c) := fun m cs v hcs hv g => by
  rcases hv with h | ⟨vs, rfl, sh, hl, hx⟩
  · have e0 := c_isT (F := F) (g := g) (ρ := roS m cs v none none none none) (i := 2) (v := v) (ty := .tuple) rfl
    rw [h] at e0
    have : listsQ m cs v = false := by cases v <;> first | rfl | cases h
    rw [this]
    exact fn_go (c_no (e_or (o_cons (i := true) (j := false) e0 fun z => by cases z)))
  · have t0 : ev F (.or (.cons (.not (.blt (.isi .tuple) (.cons (.v 2) .nil))) (.cons (.cmp (.blt .len (.cons (.v 2) .nil)) (.cons .ne (.v 0) .nil)) .nil))) (roS m cs (.tuple vs) none none none none) g = some (.bool (!decide (vs.length = m)), g) :=
      e_or (o_cons (i := false) (j := !decide (vs.length = m)) (c_isT (v := .tuple vs) (ty := .tuple) rfl) fun _ => o_one (e_cmp (x := natD vs.length) (e_blt (e_cons (e_v rfl) e_nil) (lenTN _)) (e_v rfl) (c_ne_nat _ _)))
    show _ = some (PyData.bool (listsT m cs vs), g)
    by_cases h0 : vs.length = m
    · rw [decide_eq_true h0] at t0
      obtain ⟨ρ', lp⟩ := lls_loop hc (m := m) (cs := cs) (v := .tuple vs) (g := g) vs 0 hx none none none none
      have e1 : listsT m cs vs = (vs.zipIdx 0).all fun p => rowQ cs p.2 p.1 := by
        unfold listsT
        rw [decide_eq_true h0]
        rfl
      rw [e1]
      have en : itO .enum [.tuple vs] = some ((vs.zipIdx 0).map fun p => .tuple [natD p.2, p.1]) := congrArg some (enum_D vs)
      cases hq : (vs.zipIdx 0).all fun p => rowQ cs p.2 p.1 with
      | true =>
        rw [hq] at lp
        exact fn_go (x_no t0 (x_cons (x_for (e_cons (e_v rfl) e_nil) en lp) (x_stop (x_retE e_k))))
      | false =>
        rw [hq] at lp
        exact fn_go (x_no t0 (x_stop (x_for (e_cons (e_v rfl) e_nil) en lp)))
    · have : listsT m cs vs = false := by
        unfold listsT
        rw [decide_eq_false h0]
        rfl
      rw [this]
      rw [decide_eq_false h0] at t0
      exact fn_go (c_no t0)
end
/-! ### tables -/
def ixOf (row : List Nat) (j : Nat) : Nat := row.findIdx fun x => decide (x = j)
theorem index_ok {row : List Nat} {j : Nat} (h : j ∈ row) : metO .index (lotD row) [natD j] = some (natD (ixOf row j)) := by
  have sh : SeqAt.shaped (lotD row) = true := by
    unfold SeqAt.shaped lotD
    rw [PyData.canLay0, lay_all (h := natD) (fun _ => rfl), Bool.true_and, PyData.depth]
    have : PyData.depthAll (row.map natD) ≤ 0 := depthAll_le fun d hd' => by
      obtain ⟨a, _, rfl⟩ := List.mem_map.mp hd'
      exact Nat.zero_le _
    exact decide_eq_true (by omega)
  show (if (SeqAt.shaped (natD j) && SeqAt.shaped (lotD row)) = true then ((row.map natD).findIdx? fun z => PyData.eqv z (natD j)).map fun j => PyData.int (j : Nat) else none) = _
  rw [show SeqAt.shaped (natD j) = true from rfl, sh, Bool.and_self, if_pos rfl, List.findIdx?_map]
  have e : ((fun z => PyData.eqv z (natD j)) ∘ natD) = fun x => decide (x = j) := funext fun x => eqv_nat x j
  rw [e, List.findIdx?_eq_guard_findIdx_lt]
  have lt : row.findIdx (fun x => decide (x = j)) < row.length := List.findIdx_lt_length.mpr ⟨j, h, decide_eq_true rfl⟩
  simp [Option.guard, lt]
  rfl
theorem ix_lt {row : List Nat} {j : Nat} (h : j ∈ row) : ixOf row j < row.length := List.findIdx_lt_length.mpr ⟨j, h, decide_eq_true rfl⟩
def rkC (row : List Nat) (i : Nat) (c : List Nat) (j : Nat) : Nat := if i ∈ c then row.length - 1 - ixOf row j else row.length + j
def lsD (ls : List (List Nat)) : D := .tuple (ls.map lotD)
def oneD (m : Nat) (c : List Nat) : D := .tuple ((List.range m).map fun i => natD (if i ∈ c then 1 else 0))
def rksD (m : Nat) (ls : List (List Nat)) (p : List Nat × Nat) : D := .tuple ((List.range m).map fun i => natD (rkC (ls.getD i []) i p.1 p.2))
def colD (m : Nat) (ls : List (List Nat)) (p : List Nat × Nat) : D := .tuple [oneD m p.1, rksD m ls p]
def grt (m : Nat) : Nat := ((List.range m).map (1 + ·)).foldl (· * ·) 1
def pwN (b n : Nat) : List Nat := (List.range (n + 1)).map (b ^ ·)
def tabC (m : Nat) (cs ls : List (List Nat)) : D := .tuple [.tuple ((List.range m).map fun i => natD ((grt m + 1) ^ m + (grt m + 1) ^ i)), .tuple (cs.zipIdx.map (colD m ls))]
structure TOk (m : Nat) (cs ls : List (List Nat)) : Prop where
  m1 : 1 ≤ m
  m4 : m ≤ 4
  c8 : cs.length ≤ 8
  lm : ls.length = m
  r8 : ∀ r, r ∈ ls → r.length ≤ 8
  idx : ∀ i, i < m → ∀ p, p ∈ cs.zipIdx → i ∈ p.1 → p.2 ∈ ls.getD i []
theorem grt_le {m : Nat} (h : m ≤ 4) : grt m ≤ 24 := by
  have : m = 0 ∨ m = 1 ∨ m = 2 ∨ m = 3 ∨ m = 4 := by omega
  rcases this with rfl | rfl | rfl | rfl | rfl <;> decide
theorem pw_le {m k : Nat} (h : m ≤ 4) (hk : k ≤ 4) : (grt m + 1) ^ k ≤ 390625 := by
  have a : (grt m + 1) ^ k ≤ 25 ^ k := Nat.pow_le_pow_left (by have := grt_le h; omega) k
  exact Nat.le_trans a (Nat.le_trans (Nat.pow_le_pow_right (by decide) hk) (by decide))
theorem pw_last (b n : Nat) : (pwN b n).getLast? = some (b ^ n) := by
  unfold pwN
  rw [List.range_succ, List.map_append, List.map_singleton, List.getLast?_concat]
theorem pw_at {b n k : Nat} (h : k ≤ n) : (pwN b n)[k]? = some (b ^ k) := by
  unfold pwN
  rw [List.getElem?_map, List.getElem?_range (by omega)]
  rfl
theorem pw_len (b n : Nat) : (pwN b n).length = n + 1 := by
  unfold pwN
  rw [List.length_map, List.length_range]
theorem pw_succ (b n : Nat) : (pwN b n) ++ [b ^ (n + 1)] = pwN b (n + 1) := by
  unfold pwN
  rw [List.range_succ (n := n + 1), List.map_append]
  rfl
section
variable {F : List Fn}
theorem int_in {ρ : Rho} {g : PState} {a b i : Nat} {c : List Nat} (h1 : getV ρ a = some (natD i)) (h2 : getV ρ b = some (lotD c)) : ev F (.blt .int (.cons (.cmp (.v a) (.cons .mem (.v b) .nil)) .nil)) ρ g = some (natD (if i ∈ c then 1 else 0), g) := by
  refine e_blt (xs := [.bool (decide (i ∈ c))]) (e_cons (e_cmp (e_v h1) (e_v h2) (memC i c)) e_nil) ?_
  by_cases z : i ∈ c
  · rw [decide_eq_true z, if_pos z]
    rfl
  · rw [decide_eq_false z, if_neg z]
    rfl
def SpCRank (f : Fn) : Prop := ∀ (ls : List (List Nat)) (c : List Nat) (j i : Nat) (row : List Nat), ls[i]? = some row → (i ∈ c → j ∈ row) → ∀ g, f [some (lsD ls), some (lotD c), some (natD j), some (natD i)] g = some (natD (rkC row i c j), g)
theorem crank_sp : SpCRank (F_club_rank F) := fun ls c j i row hr hj g => by
  have s1 : ex F (.set 4 (.ix (.v 0) (.v 3))) [some (.d false (lsD ls)), some (.d false (lotD c)), some (.d false (natD j)), some (.d false (natD i)), none] g = some ((.nx, [some (.d false (lsD ls)), some (.d false (lotD c)), some (.d false (natD j)), some (.d false (natD i)), some (.d false (lotD row))]), g) := x_set (e_ix (e_v rfl) (e_v rfl) (ix_tup (f := lotD) rfl hr)) rfl
  have tst : ev F (.cmp (.v 3) (.cons .mem (.v 1) .nil)) [some (.d false (lsD ls)), some (.d false (lotD c)), some (.d false (natD j)), some (.d false (natD i)), some (.d false (lotD row))] g = some (.bool (decide (i ∈ c)), g) := e_cmp (e_v rfl) (e_v rfl) (memC i c)
  have ln : ev F (.blt .len (.cons (.v 4) .nil)) [some (.d false (lsD ls)), some (.d false (lotD c)), some (.d false (natD j)), some (.d false (natD i)), some (.d false (lotD row))] g = some (natD row.length, g) := ev_eq (e_blt (e_cons (e_v rfl) e_nil) (lenTN _)) (congrArg natD (List.length_map ..))
  unfold rkC
  by_cases z : i ∈ c
  · rw [if_pos z]
    rw [decide_eq_true z] at tst
    have := ix_lt (hj z)
    exact fn_go (x_cons s1 (x_stop (x_retE (e_iteT tst (e_bin (e_bin (y := natD 1) ln e_k (subN (by omega))) (e_meth (e_v rfl) (e_cons (e_v rfl) e_nil) (index_ok (hj z))) (subN (by omega)))))))
  · rw [if_neg z]
    rw [decide_eq_false z] at tst
    exact fn_go (x_cons s1 (x_stop (x_retE (e_iteF tst (e_bin ln (e_v rfl) (addN _ _))))))
/-- products -/
theorem fac_loop {f : Rho → D → M (Fl × Rho)} {R : Nat → Bool → Option Sl → Rho} {g : PState} (step : ∀ (acc x : Nat) (b : Bool) (o : Option Sl), acc ≤ 1000 → ∃ b' o', f (R acc b o) (natD x) g = some ((.nx, R (acc * x) b' o'), g)) : ∀ (l : List Nat) (acc : Nat) (b : Bool) (o : Option Sl), (∀ x, x ∈ l → x ≤ 4) → acc * 4 ^ l.length ≤ 256 → ∃ b' o', forL f (l.map natD) (R acc b o) g = some ((.nx, R (l.foldl (· * ·) acc) b' o'), g)
  | [], acc, b, o, _, _ => ⟨b, o, rfl⟩
  | x :: l, acc, b, o, hx, ha => by
    rw [List.length_cons, Nat.pow_succ] at ha
    have p : 0 < 4 ^ l.length := Nat.pow_pos (by decide)
    have le : acc ≤ 256 := by
      refine Nat.le_trans ?_ ha
      exact Nat.le_mul_of_pos_right acc (Nat.mul_pos p (by decide))
    obtain ⟨b', o', e1⟩ := step acc x b o (by omega)
    have hx4 := hx x List.mem_cons_self
    have nx : acc * x * 4 ^ l.length ≤ 256 := by
      refine Nat.le_trans ?_ ha
      rw [Nat.mul_assoc, Nat.mul_comm (4 ^ l.length) 4]
      exact Nat.mul_le_mul_left acc (Nat.mul_le_mul_right _ hx4)
    obtain ⟨b'', o'', e2⟩ := fac_loop step l (acc * x) b' o' (fun y hy => hx y (List.mem_cons_of_mem _ hy)) nx
    exact ⟨b'', o'', f_step e1 e2⟩
theorem fac_m {m : Nat} (h : m ≤ 4) : (∀ x, x ∈ (List.range m).map (1 + ·) → x ≤ 4) ∧ 1 * 4 ^ ((List.range m).map (1 + ·)).length ≤ 256 := by
  refine ⟨fun x hx => ?_, ?_⟩
  · obtain ⟨a, ha, rfl⟩ := List.mem_map.mp hx
    have := List.mem_range.mp ha
    omega
  · rw [List.length_map, List.length_range, Nat.one_mul]
    exact Nat.le_trans (Nat.pow_le_pow_right (by decide) h) (by decide)
theorem rng_1m {m : Nat} (h : m ≤ 4) : itO .rng2 [natD 1, natD (m + 1)] = some (((List.range m).map (1 + ·)).map natD) := o_eq (it_rng2 (by unfold LINE; omega) (by decide)) (by rw [List.map_map, Nat.add_sub_cancel]; rfl)
def SpGreat (f : Fn) : Prop := ∀ m, m ≤ 4 → ∀ g, f [some (natD m)] g = some (natD (grt m + 1), g)
theorem great_sp : SpGreat (F_great_number F) := fun m hm g => by
  obtain ⟨b', o', e⟩ := fac_loop (f := fun ρ x => bnd (ofO (bindT (.n 2) x ρ)) fun ρ' => exs F W1_great_number ρ') (R := fun acc b o => [some (.d false (natD m)), some (.d b (natD acc)), o]) (g := g) (fun acc x b o h => ⟨_, _, b_go rfl (x_cons (x_set (e_bin (e_v rfl) (e_v rfl) (mulN (by omega))) rfl) x_nil)⟩) ((List.range m).map (1 + ·)) 1 true none (fac_m hm).1 (fac_m hm).2
  exact fn_go (x_cons (x_set (ρ1 := [some (.d false (natD m)), some (.d true (natD 1)), none]) e_k rfl) (x_cons (x_for (e_cons (x := natD 1) e_k (e_cons (e_bin (x := natD m) (y := natD 1) (e_v rfl) e_k (addN m 1)) e_nil)) (rng_1m hm) e) (x_stop (x_retE (e_bin (x := natD (grt m)) (y := natD 1) (e_v rfl) e_k (addN (grt m) 1))))))
/-- powers -/
theorem pw_loop {f : Rho → D → M (Fl × Rho)} {R : List Nat → Option Sl → Rho} {g : PState} {B : Nat} (step : ∀ (n x : Nat) (o : Option Sl), n < 4 → ∃ o', f (R (pwN B n) o) (natD x) g = some ((.nx, R (pwN B (n + 1)) o'), g)) : ∀ (l : List Nat) (n : Nat) (o : Option Sl), n + l.length ≤ 4 → ∃ o', forL f (l.map natD) (R (pwN B n) o) g = some ((.nx, R (pwN B (n + l.length)) o'), g)
  | [], n, o, _ => ⟨o, rfl⟩
  | x :: l, n, o, h => by
    rw [List.length_cons] at h
    obtain ⟨o', e1⟩ := step n x o (by omega)
    obtain ⟨o'', e2⟩ := pw_loop step l (n + 1) o' (by omega)
    rw [show n + 1 + l.length = n + (x :: l).length by rw [List.length_cons]; omega] at e2
    exact ⟨o'', f_step e1 e2⟩
end
end DT

/-! Clubs: their prize table, both ways. -/
namespace DT
open PySem
abbrev dF (d : D) : Option Sl := some (.d false d)
abbrev dT (d : D) : Option Sl := some (.d true d)
abbrev ntL (l : List Nat) : D := .list (l.map natD)
def SpCTab (f : Fn) : Prop := ∀ (m : Nat) (cs ls : List (List Nat)), TOk m cs ls → ∀ g, f [some (natD m), some (csD cs), some (lsD ls)] g = some (tabC m cs ls, g)
theorem row_at {m : Nat} {cs ls : List (List Nat)} (T : TOk m cs ls) {i : Nat} (h : i < m) : ls[i]? = some (ls.getD i []) := by
  have := T.lm
  rw [List.getD_eq_getElem?_getD, List.getElem?_eq_getElem (by omega)]
  rfl
theorem tupleC (xs : List D) : bltO .tuple [.list xs] = some (.tuple xs) := rfl
theorem nat_app (A : List Nat) (x : Nat) : A.map natD ++ [natD x] = (A ++ [x]).map natD := by
  rw [List.map_append]
  rfl
theorem pw_app (b n : Nat) : (pwN b n).map natD ++ [natD (b ^ (n + 1))] = (pwN b (n + 1)).map natD := by
  rw [nat_app, pw_succ]
section
variable {F : List Fn}
abbrev ctS (m : Nat) (cs ls : List (List Nat)) (o3 o4 o5 o6 o7 o8 o9 : Option Sl) : Rho := [dF (natD m), dF (csD cs), dF (lsD ls), o3, o4, o5, o6, o7, o8, o9]
set_option maxHeartbeats 2000000 in
theorem ct_loop {c1 c2 : Nat} (hc1 : At F c1 SpCRank) {m : Nat} {cs ls : List (List Nat)} (T : TOk m cs ls) {o3 o4 : Option Sl} {g : PState} : ∀ (l : List (List Nat × Nat)), (∀ p, p ∈ l → p ∈ cs.zipIdx) → ∀ (A : List D) (o6 o7 o8 o9 : Option Sl), A.length + l.length ≤ 100 → ∃ o6' o7' o8' o9', forL (fun ρ x => bnd (ofO (bindT (.t [(.n 6), (.n 7)]) x ρ)) fun ρ' => exs F (W1_club_table c1 c2) ρ') (l.map fun p => .tuple [natD p.2, lotD p.1]) (ctS m cs ls o3 o4 (dT (.list A)) o6 o7 o8 o9) g = some ((.nx, ctS m cs ls o3 o4 (dT (.list (A ++ l.map (colD m ls)))) o6' o7' o8' o9'), g)
  | [], _, A, o6, o7, o8, o9, _ => ⟨o6, o7, o8, o9, by
      have e : A ++ List.map (colD m ls) [] = A := List.append_nil A
      rw [e]
      rfl⟩
  | p :: l, hl, A, o6, o7, o8, o9, hA => by
    obtain ⟨_, q1, q2⟩ := id hc1
    rw [List.length_cons] at hA
    have hp := hl p List.mem_cons_self
    have m4 := T.m4
    obtain ⟨o6', o7', o8', o9', e⟩ := ct_loop hc1 T (o3 := o3) (o4 := o4) (g := g) l (fun x hx => hl x (List.mem_cons_of_mem _ hx)) (A ++ [colD m ls p]) (dF (natD p.2)) (dF (lotD p.1)) (dF (oneD m p.1)) (frz1 (frz1 o9)) (by rw [List.length_append, List.length_singleton]; omega)
    rw [List.append_assoc] at e
    let R := fun (a5 a8 a9 : Option Sl) => ctS m cs ls o3 o4 a5 (dF (natD p.2)) (dF (lotD p.1)) a8 a9
    have s1 : ex F (.set 8 (.blt .tuple (.cons (.comp (.blt .int (.cons (.cmp (.v 9) (.cons .mem (.v 7) .nil)) .nil)) (.n 9) .rng1 (.cons (.v 0) .nil) .nil) .nil))) (R (dT (.list A)) o8 o9) g = some ((.nx, R (dT (.list A)) (dT (oneD m p.1)) o9), g) := x_set (e_blt (e_cons (e_mapV (l := List.range m) (h := natD) (f := fun i => natD (if i ∈ p.1 then 1 else 0)) (e_cons (e_v rfl) e_nil) (it_rng (by unfold LINE; omega)) fun i _ => int_in rfl rfl) e_nil) (tupleC _)) rfl
    have s2 : ex F (.app 5 (.tup (.cons (.v 8) (.cons (.blt .tuple (.cons (.comp (.call c1 (.ex (.v 2) (.ex (.v 7) (.ex (.v 6) (.ex (.v 9) .nil))))) (.n 9) .rng1 (.cons (.v 0) .nil) .nil) .nil)) .nil)))) (R (dT (.list A)) (dT (oneD m p.1)) o9) g = some ((.nx, R (dT (.list (A ++ [colD m ls p]))) (dF (oneD m p.1)) (frz1 (frz1 o9))), g) := by
      refine x_app (l := A) (d := colD m ls p) (e_tup (e_cons (e_v rfl) (e_cons (e_blt (e_cons (e_mapV (l := List.range m) (h := natD) (f := fun i => natD (rkC (ls.getD i []) i p.1 p.2)) (e_cons (e_v rfl) e_nil) (it_rng (by unfold LINE; omega)) fun i hi => ?_) e_nil) (tupleC _)) e_nil))) rfl (by unfold LINE; omega) rfl
      have hi := List.mem_range.mp hi
      exact e_call (r_ex (e_v rfl) (r_ex (e_v rfl) (r_ex (e_v rfl) (r_ex (e_v rfl) r_nil)))) q1 (q2 ls p.1 p.2 i _ (row_at T hi) (T.idx i hi p hp) g)
    exact ⟨o6', o7', o8', o9', f_step (b_go (ρ1 := R (dT (.list A)) o8 o9) rfl (x_cons s1 (x_cons s2 x_nil))) e⟩
theorem ctab_sp {c1 c2 : Nat} (hc1 : At F c1 SpCRank) (hc2 : At F c2 SpGreat) : SpCTab (F_club_table F c1 c2) := fun m cs ls T g => by
  obtain ⟨_, q1, q2⟩ := id hc2
  have m4 := T.m4
  have c8 := T.c8
  have gl := grt_le m4
  obtain ⟨o4, e1⟩ := pw_loop (f := fun ρ x => bnd (ofO (bindT (.n 4) x ρ)) fun ρ' => exs F (W2_club_table c1 c2) ρ') (R := fun ps o => ctS m cs ls (dT (ntL ps)) o none none none none none) (g := g) (B := grt m + 1) (fun n x o hn => ⟨_, b_go rfl (x_cons (x_app (l := (pwN (grt m + 1) n).map natD) (d := natD ((grt m + 1) ^ (n + 1))) (e_bin (x := natD ((grt m + 1) ^ n)) (y := natD (grt m + 1)) (e_ix (e_v rfl) (e_neg e_k) (ix_last (f := natD) (pw_last _ _))) (e_call (r_ex (e_v rfl) r_nil) q1 (q2 m m4 g)) (mulN (by have := pw_le m4 (show n ≤ 4 by omega); omega))) rfl (by rw [List.length_map, pw_len]; unfold LINE; omega) (by rw [pw_app]; rfl)) x_nil)⟩) (List.range m) 0 none (by rw [List.length_range]; omega)
  rw [List.length_range, Nat.zero_add] at e1
  obtain ⟨o6, o7, o8, o9, e2⟩ := ct_loop (c2 := c2) hc1 T (o3 := dT (ntL (pwN (grt m + 1) m))) (o4 := o4) (g := g) cs.zipIdx (fun _ h => h) [] none none none none (by rw [List.length_zipIdx]; show 0 + _ ≤ _; omega)
  rw [List.nil_append] at e2
  refine fn_go (x_cons (x_set (ρ1 := ctS m cs ls (dT (ntL (pwN (grt m + 1) 0))) none none none none none none) (e_lst (e_cons e_k e_nil)) rfl) (x_cons (x_for (e_cons (e_v rfl) e_nil) (it_rng (by unfold LINE; omega)) e1) (x_cons (x_set (ρ1 := ctS m cs ls (dT (ntL (pwN (grt m + 1) m))) o4 (dT (.list [])) none none none none) (e_lst e_nil) rfl) (x_cons (x_for (e_cons (e_v rfl) e_nil) (enC cs) e2) (x_stop (x_retE (e_tup (e_cons (e_blt (e_cons (e_mapV (l := List.range m) (h := natD) (f := fun i => natD ((grt m + 1) ^ m + (grt m + 1) ^ i)) (e_cons (e_v rfl) e_nil) (it_rng (by unfold LINE; omega)) fun i hi => ?_) e_nil) (tupleC _)) (e_cons (e_blt (e_cons (e_v rfl) e_nil) rfl) e_nil)))))))))
  have hi := List.mem_range.mp hi
  exact e_bin (e_ix (e_v rfl) (e_v rfl) (ix_lst (f := natD) rfl (pw_at (Nat.le_refl m)))) (e_ix (e_v rfl) (e_v rfl) (ix_lst (f := natD) rfl (pw_at (by omega)))) (addN _ _)
abbrev uS (m : Nat) (cs ls : List (List Nat)) (o3 o4 o5 o6 o7 o8 o9 o10 o11 : Option Sl) : Rho := [dF (natD m), dF (csD cs), dF (lsD ls), o3, o4, o5, o6, o7, o8, o9, o10, o11]
theorem lr_loop {m : Nat} {cs ls : List (List Nat)} (T : TOk m cs ls) {p : List Nat × Nat} (hp : p ∈ cs.zipIdx) {o3 o4 o5 o6 : Option Sl} {g : PState} : ∀ (l : List Nat), (∀ i, i ∈ l → i < m) → ∀ (A : List Nat) (o10 o11 : Option Sl), A.length + l.length ≤ 100 → ∃ o10' o11', forL (fun ρ x => bnd (ofO (bindT (.n 10) x ρ)) fun ρ' => exs F W1_law_tableC ρ') (l.map natD) (uS m cs ls o3 o4 o5 o6 (dF (natD p.2)) (dF (lotD p.1)) (dT (ntL A)) o10 o11) g = some ((.nx, uS m cs ls o3 o4 o5 o6 (dF (natD p.2)) (dF (lotD p.1)) (dT (ntL (A ++ l.map fun i => rkC (ls.getD i []) i p.1 p.2))) o10' o11'), g)
  | [], _, A, o10, o11, _ => ⟨o10, o11, by
      have e : A ++ List.map (fun i => rkC (ls.getD i []) i p.1 p.2) [] = A := List.append_nil A
      rw [e]
      rfl⟩
  | i :: l, hl, A, o10, o11, hA => by
    rw [List.length_cons] at hA
    have hi := hl i List.mem_cons_self
    have hr := row_at T hi
    have hj := T.idx i hi p hp
    generalize hrow : ls.getD i [] = row at *
    obtain ⟨o10', o11', e⟩ := lr_loop T hp (o3 := o3) (o4 := o4) (o5 := o5) (o6 := o6) (g := g) l (fun x hx => hl x (List.mem_cons_of_mem _ hx)) (A ++ [rkC row i p.1 p.2]) (dF (natD i)) (dF (lotD row)) (by rw [List.length_append, List.length_singleton]; omega)
    rw [List.append_assoc] at e
    let R := fun (a9 a11 : Option Sl) => uS m cs ls o3 o4 o5 o6 (dF (natD p.2)) (dF (lotD p.1)) a9 (dF (natD i)) a11
    have s1 : ex F (.set 11 (.ix (.v 2) (.v 10))) (R (dT (ntL A)) o11) g = some ((.nx, R (dT (ntL A)) (dF (lotD row))), g) := x_set (e_ix (e_v rfl) (e_v rfl) (ix_tup (f := lotD) rfl hr)) rfl
    have tst : ev F (.cmp (.v 10) (.cons .mem (.v 8) .nil)) (R (dT (ntL A)) (dF (lotD row))) g = some (.bool (decide (i ∈ p.1)), g) := e_cmp (e_v rfl) (e_v rfl) (memC i p.1)
    have ln : ev F (.blt .len (.cons (.v 11) .nil)) (R (dT (ntL A)) (dF (lotD row))) g = some (natD row.length, g) := ev_eq (e_blt (e_cons (e_v rfl) e_nil) (lenTN _)) (congrArg natD (List.length_map ..))
    have s2 : ex F (.app 9 (.ite (.cmp (.v 10) (.cons .mem (.v 8) .nil)) (.bin .sub (.bin .sub (.blt .len (.cons (.v 11) .nil)) (.meth .index (.v 11) (.cons (.v 7) .nil))) (.k (.int 1))) (.bin .add (.blt .len (.cons (.v 11) .nil)) (.v 7)))) (R (dT (ntL A)) (dF (lotD row))) g = some ((.nx, R (dT (ntL (A ++ [rkC row i p.1 p.2]))) (dF (lotD row))), g) := by
      refine x_app (l := A.map natD) (d := natD (rkC row i p.1 p.2)) ?_ rfl (by rw [List.length_map]; unfold LINE; omega) (by rw [nat_app]; rfl)
      unfold rkC
      by_cases z : i ∈ p.1
      · rw [if_pos z]
        rw [decide_eq_true z] at tst
        have := ix_lt (hj z)
        refine e_iteT tst (ev_eq (e_bin (y := natD 1) (e_bin ln (e_meth (e_v rfl) (e_cons (e_v rfl) e_nil) (index_ok (hj z))) (subN (by omega))) e_k (subN (by omega))) (congrArg natD ?_))
        omega
      · rw [if_neg z]
        rw [decide_eq_false z] at tst
        exact e_iteF tst (e_bin ln (e_v rfl) (addN _ _))
    refine ⟨o10', o11', ?_⟩
    have e3 : List.map (fun i => rkC (ls.getD i []) i p.1 p.2) (i :: l) = rkC row i p.1 p.2 :: List.map (fun i => rkC (ls.getD i []) i p.1 p.2) l := by
      rw [List.map_cons, hrow]
    rw [e3]
    exact f_step (b_go (ρ1 := R (dT (ntL A)) o11) rfl (x_cons s1 (x_cons s2 x_nil))) e
set_option maxHeartbeats 2000000 in
theorem lt_loop {m : Nat} {cs ls : List (List Nat)} (T : TOk m cs ls) {o3 o4 o5 : Option Sl} {g : PState} : ∀ (l : List (List Nat × Nat)), (∀ p, p ∈ l → p ∈ cs.zipIdx) → ∀ (A : List D) (o7 o8 o9 o10 o11 : Option Sl), A.length + l.length ≤ 100 → ∃ o7' o8' o9' o10' o11', forL (fun ρ x => bnd (ofO (bindT (.t [(.n 7), (.n 8)]) x ρ)) fun ρ' => exs F W2_law_tableC ρ') (l.map fun p => .tuple [natD p.2, lotD p.1]) (uS m cs ls o3 o4 o5 (dT (.list A)) o7 o8 o9 o10 o11) g = some ((.nx, uS m cs ls o3 o4 o5 (dT (.list (A ++ l.map (colD m ls)))) o7' o8' o9' o10' o11'), g)
  | [], _, A, o7, o8, o9, o10, o11, _ => ⟨o7, o8, o9, o10, o11, by
      have e : A ++ List.map (colD m ls) [] = A := List.append_nil A
      rw [e]
      rfl⟩
  | p :: l, hl, A, o7, o8, o9, o10, o11, hA => by
    rw [List.length_cons] at hA
    have hp := hl p List.mem_cons_self
    have m4 := T.m4
    obtain ⟨b10, b11, e0⟩ := lr_loop (F := F) T hp (o3 := o3) (o4 := o4) (o5 := o5) (o6 := dT (.list A)) (g := g) (List.range m) (fun i hi => List.mem_range.mp hi) [] o10 o11 (by rw [List.length_range]; show 0 + _ ≤ _; omega)
    rw [List.nil_append] at e0
    let K := (List.range m).map fun i => rkC (ls.getD i []) i p.1 p.2
    obtain ⟨o7', o8', o9', o10', o11', e⟩ := lt_loop T (o3 := o3) (o4 := o4) (o5 := o5) (g := g) l (fun x hx => hl x (List.mem_cons_of_mem _ hx)) (A ++ [colD m ls p]) (dF (natD p.2)) (dF (lotD p.1)) (dT (ntL K)) b10 b11 (by rw [List.length_append, List.length_singleton]; omega)
    rw [List.append_assoc] at e
    let R := fun (a6 a9 a10 a11 : Option Sl) => uS m cs ls o3 o4 o5 a6 (dF (natD p.2)) (dF (lotD p.1)) a9 a10 a11
    have s1 : ex F (.set 9 (.lst .nil)) (R (dT (.list A)) o9 o10 o11) g = some ((.nx, R (dT (.list A)) (dT (ntL [])) o10 o11), g) := x_set (e_lst e_nil) rfl
    have s3 : ex F (.app 6 (.tup (.cons (.blt .tuple (.cons (.comp (.blt .int (.cons (.cmp (.v 10) (.cons .mem (.v 8) .nil)) .nil)) (.n 10) .rng1 (.cons (.v 0) .nil) .nil) .nil)) (.cons (.blt .tuple (.cons (.v 9) .nil)) .nil)))) (R (dT (.list A)) (dT (ntL K)) b10 b11) g = some ((.nx, R (dT (.list (A ++ [colD m ls p]))) (dT (ntL K)) b10 b11), g) := x_app (l := A) (d := colD m ls p) (e_tup (e_cons (e_blt (e_cons (e_mapV (l := List.range m) (h := natD) (f := fun i => natD (if i ∈ p.1 then 1 else 0)) (e_cons (e_v rfl) e_nil) (it_rng (by unfold LINE; omega)) fun i _ => int_in rfl rfl) e_nil) (tupleC _)) (e_cons (ev_eq (e_blt (e_cons (e_v rfl) e_nil) (tupleC _)) (by show PyData.tuple (K.map natD) = rksD m ls p; unfold rksD; rw [List.map_map]; rfl)) e_nil))) rfl (by unfold LINE; omega) rfl
    exact ⟨o7', o8', o9', o10', o11', f_step (b_go (ρ1 := R (dT (.list A)) o9 o10 o11) rfl (x_cons s1 (x_cons (x_for (e_cons (e_v rfl) e_nil) (it_rng (by unfold LINE; omega)) e0) (x_cons s3 x_nil)))) e⟩
theorem ltab_sp : SpCTab (F_law_tableC F) := fun m cs ls T g => by
  have m4 := T.m4
  have c8 := T.c8
  have gl := grt_le m4
  obtain ⟨f3, o4, e0⟩ := fac_loop (f := fun ρ x => bnd (ofO (bindT (.n 4) x ρ)) fun ρ' => exs F W4_law_tableC ρ') (R := fun acc b o => uS m cs ls (some (.d b (natD acc))) o none none none none none none none) (g := g) (fun acc x b o h => ⟨_, _, b_go rfl (x_cons (x_set (e_bin (e_v rfl) (e_v rfl) (mulN (by omega))) rfl) x_nil)⟩) ((List.range m).map (1 + ·)) 1 true none (fac_m m4).1 (fac_m m4).2
  obtain ⟨o4', e1⟩ := pw_loop (f := fun ρ x => bnd (ofO (bindT (.n 4) x ρ)) fun ρ' => exs F W3_law_tableC ρ') (R := fun ps o => uS m cs ls (dT (natD (grt m + 1))) o (dT (ntL ps)) none none none none none none) (g := g) (B := grt m + 1) (fun n x o hn => ⟨_, b_go rfl (x_cons (x_app (l := (pwN (grt m + 1) n).map natD) (d := natD ((grt m + 1) ^ (n + 1))) (e_bin (x := natD ((grt m + 1) ^ n)) (y := natD (grt m + 1)) (e_ix (e_v rfl) (e_neg e_k) (ix_last (f := natD) (pw_last _ _))) (e_v rfl) (mulN (by have := pw_le m4 (show n ≤ 4 by omega); omega))) rfl (by rw [List.length_map, pw_len]; unfold LINE; omega) (by rw [pw_app]; rfl)) x_nil)⟩) (List.range m) 0 o4 (by rw [List.length_range]; omega)
  rw [List.length_range, Nat.zero_add] at e1
  obtain ⟨o7, o8, o9, o10, o11, e2⟩ := lt_loop (F := F) T (o3 := dT (natD (grt m + 1))) (o4 := o4') (o5 := dT (ntL (pwN (grt m + 1) m))) (g := g) cs.zipIdx (fun _ h => h) [] none none none none none (by rw [List.length_zipIdx]; show 0 + _ ≤ _; omega)
  rw [List.nil_append] at e2
  refine fn_go (x_cons (x_set (ρ1 := uS m cs ls (dT (natD 1)) none none none none none none none none) e_k rfl) (x_cons (x_for (e_cons (x := natD 1) e_k (e_cons (e_bin (x := natD m) (y := natD 1) (e_v rfl) e_k (addN m 1)) e_nil)) (rng_1m m4) e0) (x_cons (x_par (ρ1 := uS m cs ls (dT (natD (grt m + 1))) o4 (dT (ntL (pwN (grt m + 1) 0))) none none none none none none) (e_cons (e_bin (x := natD (grt m)) (y := natD 1) (e_v rfl) e_k (addN (grt m) 1)) (e_cons (e_lst (e_cons e_k e_nil)) e_nil)) rfl) (x_cons (x_for (e_cons (e_v rfl) e_nil) (it_rng (by unfold LINE; omega)) e1) (x_cons (x_set (ρ1 := uS m cs ls (dT (natD (grt m + 1))) o4' (dT (ntL (pwN (grt m + 1) m))) (dT (.list [])) none none none none none) (e_lst e_nil) rfl) (x_cons (x_for (e_cons (e_v rfl) e_nil) (enC cs) e2) (x_stop (x_retE (e_tup (e_cons (e_blt (e_cons (e_mapV (l := List.range m) (h := natD) (f := fun i => natD ((grt m + 1) ^ m + (grt m + 1) ^ i)) (e_cons (e_v rfl) e_nil) (it_rng (by unfold LINE; omega)) fun i hi => ?_) e_nil) (tupleC _)) (e_cons (e_blt (e_cons (e_v rfl) e_nil) rfl) e_nil)))))))))))
  have hi := List.mem_range.mp hi
  exact e_bin (e_ix (e_v rfl) (e_v rfl) (ix_lst (f := natD) rfl (pw_at (Nat.le_refl m)))) (e_ix (e_v rfl) (e_v rfl) (ix_lst (f := natD) rfl (pw_at (by omega)))) (addN _ _)
end
end DT

/-! Clubs: drawn ones; two sides. -/
namespace DT
open PySem
def evL : Nat → List (List Nat)
  | 0 => [[]]
  | k + 1 => evL k ++ (evL k).map (· ++ [k])
theorem ev_ok : ∀ k, (evL k).length = 2 ^ k ∧ ∀ c, c ∈ evL k → c.length ≤ k ∧ ∀ x, x ∈ c → x < k
  | 0 => ⟨rfl, fun c hc => by
      obtain rfl := List.mem_singleton.mp hc
      exact ⟨Nat.le_refl 0, fun x hx => by cases hx⟩⟩
  | k + 1 => by
    obtain ⟨h1, h2⟩ := ev_ok k
    refine ⟨?_, fun c hc => ?_⟩
    · show (evL k ++ (evL k).map (· ++ [k])).length = _
      rw [List.length_append, List.length_map, h1, Nat.pow_succ]
      omega
    · rcases List.mem_append.mp hc with hc | hc
      · obtain ⟨a, b⟩ := h2 c hc
        exact ⟨by omega, fun x hx => by have := b x hx; omega⟩
      · obtain ⟨d, hd, rfl⟩ := List.mem_map.mp hc
        obtain ⟨a, b⟩ := h2 d hd
        refine ⟨by rw [List.length_append, List.length_singleton]; omega, fun x hx => ?_⟩
        rcases List.mem_append.mp hx with hx | hx
        · have := b x hx
          omega
        · have := List.mem_singleton.mp hx
          omega
structure DrOk (m : Nat) (cs ls : List (List Nat)) : Prop where
  c1 : 1 ≤ cs.length
  c8 : cs.length ≤ 8
  cm : ∀ c, c ∈ cs → 1 ≤ c.length ∧ c.length ≤ m ∧ ∀ x, x ∈ c → x < m
  lm : ls.length = m
  lp : ∀ i, i < m → (ls.getD i []).Perm (idxN cs i)
theorem idx_len (cs : List (List Nat)) (i : Nat) : (idxN cs i).length ≤ cs.length := by
  unfold idxN
  rw [List.length_map]
  exact Nat.le_trans (List.length_filter_le _ _) (by rw [List.length_zipIdx]; exact Nat.le_refl _)
theorem idx_lt {cs : List (List Nat)} {i j : Nat} (h : j ∈ idxN cs i) : j < cs.length := by
  obtain ⟨p, hp, rfl⟩ := List.mem_map.mp h
  obtain ⟨c, k⟩ := p
  have := List.mem_zipIdx (List.mem_filter.mp hp).1
  omega
theorem DrOk.tok {m : Nat} {cs ls : List (List Nat)} (D : DrOk m cs ls) (m1 : 1 ≤ m) (m4 : m ≤ 4) : TOk m cs ls := by
  refine ⟨m1, m4, D.c8, D.lm, fun r hr => ?_, fun i hi p hp hm => ?_⟩
  · obtain ⟨i, h⟩ := List.mem_iff_getElem?.mp hr
    obtain ⟨hi, e⟩ := List.getElem?_eq_some_iff.mp h
    have := (D.lp i (by rw [← D.lm]; exact hi)).length_eq
    rw [List.getD_eq_getElem?_getD, h] at this
    have l := idx_len cs i
    have c8 := D.c8
    have this' : r.length = _ := this
    omega
  · refine (D.lp i hi).mem_iff.mpr (List.mem_map.mpr ⟨p, List.mem_filter.mpr ⟨hp, decide_eq_true hm⟩, rfl⟩)
section
variable {F : List Fn}
theorem ev_loop {m : Nat} {o2 o6 o7 o8 o9 : Option Sl} {g : PState} : ∀ (l k : Nat) (f3 : Bool) (o4 o5 : Option Sl), k + l ≤ 4 → ∃ f3' o4' o5', forL (fun ρ x => bnd (ofO (bindT (.n 4) x ρ)) fun ρ' => exs F W1_law_drawC ρ') (((List.range l).map (k + ·)).map natD) [some .src, dF (natD m), o2, some (.d f3 (.list ((evL k).map lotD))), o4, o5, o6, o7, o8, o9] g = some ((.nx, [some .src, dF (natD m), o2, some (.d f3' (.list ((evL (k + l)).map lotD))), o4', o5', o6, o7, o8, o9]), g)
  | 0, k, f3, o4, o5, _ => ⟨f3, o4, o5, rfl⟩
  | l + 1, k, f3, o4, o5, h => by
    have p4 : 2 ^ k ≤ 16 := Nat.le_trans (Nat.pow_le_pow_right (by decide) (show k ≤ 4 by omega)) (by decide)
    have lk := (ev_ok k).1
    obtain ⟨f3', o4', o5', e⟩ := ev_loop (m := m) (o2 := o2) (o6 := o6) (o7 := o7) (o8 := o8) (o9 := o9) (g := g) l (k + 1) true (dF (natD k)) o5 (by omega)
    have er : (List.range (l + 1)).map (k + ·) = k :: (List.range l).map (k + 1 + ·) := by
      rw [List.range_succ_eq_map, List.map_cons, List.map_map]
      refine congrArg (k :: ·) (List.map_congr_left fun i _ => ?_)
      show k + (i + 1) = k + 1 + i
      omega
    rw [er, show k + (l + 1) = k + 1 + l by omega]
    refine ⟨f3', o4', o5', f_step (b_go (ρ1 := [some .src, dF (natD m), o2, some (.d f3 (.list ((evL k).map lotD))), dF (natD k), o5, o6, o7, o8, o9]) rfl (x_cons (g1 := g) (x_set (ρ1 := [some .src, dF (natD m), o2, dT (.list ((evL (k + 1)).map lotD)), dF (natD k), o5, o6, o7, o8, o9]) (d := .list ((evL (k + 1)).map lotD)) (e_bin (y := .list (((evL k).map (· ++ [k])).map lotD)) (e_v rfl) (ev_eq (e_mapV (l := evL k) (h := lotD) (f := fun c => lotD (c ++ [k])) (e_cons (e_v rfl) e_nil) rfl fun c hc => e_bin (e_v rfl) (e_tup (e_cons (e_v rfl) e_nil)) ?_) (by rw [List.map_map]; rfl)) ?_) rfl) x_nil)) e⟩
    · have := ((ev_ok k).2 c hc).1
      refine o_eq (catT (by rw [List.length_map]; unfold LINE; show _ + 1 ≤ _; omega)) ?_
      unfold lotD
      rw [List.map_append]
      rfl
    · rw [catL (by rw [List.length_map, List.length_map, List.length_map]; unfold LINE; omega), ← List.map_append]
      rfl
theorem neT (c : List Nat) : cmpO .ne (lotD c) (.tuple []) = some (!decide (c = [])) := by
  have sh : SeqAt.shaped (lotD c) = true := by
    unfold SeqAt.shaped lotD
    rw [PyData.canLay0, lay_all (h := natD) (fun _ => rfl), Bool.true_and, PyData.depth]
    have : PyData.depthAll (c.map natD) ≤ 0 := depthAll_le fun d hd' => by
      obtain ⟨a, _, rfl⟩ := List.mem_map.mp hd'
      exact Nat.zero_le _
    exact decide_eq_true (by omega)
  have e : SeqAt.shaped (.tuple []) = true := by decide +kernel
  show Option.map not (if SeqAt.shaped (lotD c) && SeqAt.shaped (.tuple []) then some (PyData.eqv (lotD c) (.tuple [])) else none) = _
  have q := eqv_lot c []
  rw [sh, e, Bool.and_self, if_pos rfl]
  exact congrArg (fun b => some (!b)) q
def SpDrawC (f : Fn) : Prop := ∀ m most, 1 ≤ m → m ≤ 4 → 1 ≤ most → most ≤ 8 → ∀ g, ∃ cs ls g', f [none, some (natD m), some (natD most)] g = some (.tuple [csD cs, lsD ls], g') ∧ DrOk m cs ls
theorem cutC {α : Type} (xs : List α) (k : Nat) : cutL xs none (some (k : Int)) = xs.take k := by
  unfold cutL
  rw [HT.sIx_nat, HT.sIx_none, List.drop_zero, Nat.sub_zero]
  by_cases h : k ≤ xs.length
  · rw [Nat.min_eq_left h]
  · rw [Nat.min_eq_right (by omega), List.take_of_length_le (Nat.le_refl _), List.take_of_length_le (by omega)]
theorem all2_at {α β : Type} {Q : α → β → Prop} : ∀ {l : List α} {r : List β}, All2 Q l r → l.length = r.length ∧ ∀ (i : Nat) (a : α), l[i]? = some a → ∃ b : β, r[i]? = some b ∧ Q a b
  | _, _, .nil => ⟨rfl, fun i a h => by cases h⟩
  | _, _, .cons q t => by
    obtain ⟨h1, h2⟩ := all2_at t
    refine ⟨by rw [List.length_cons, List.length_cons, h1], fun i a h => ?_⟩
    cases i with
    | zero =>
      obtain rfl := Option.some.inj h
      exact ⟨_, rfl, q⟩
    | succ i => exact h2 i a h
set_option maxHeartbeats 1000000 in
theorem drawC_sp (h0 : F[0]? = some pickFn) (h1 : F[1]? = some anyFn) : SpDrawC (F_law_drawC F) := fun m most m1 m4 k1 k8 g => by
  let R := fun (a3 a4 a5 a6 a7 a8 a9 : Option Sl) => ([some .src, dF (natD m), dF (natD most), a3, a4, a5, a6, a7, a8, a9] : Rho)
  obtain ⟨f3, o4, o5, e1⟩ := ev_loop (F := F) (m := m) (o2 := dF (natD most)) (o6 := none) (o7 := none) (o8 := none) (o9 := none) (g := g) m 0 true none none (by omega)
  rw [Nat.zero_add] at e1
  have er : (List.range m).map (0 + ·) = List.range m := by
    rw [List.map_congr_left (g := id) fun i _ => Nat.zero_add i, List.map_id]
  rw [er] at e1
  obtain ⟨xs, g1, e2, px⟩ := any_ok (h := lotD) (xs := (evL m).filter fun c => !decide (c = [])) g
  obtain ⟨r, g2, e3, hr⟩ := pick_ok (n := most) k1 (by omega) g1
  let cs := xs.take (1 + r)
  have s2 : ev F (.blt .tuple (.cons (.sl (.call 1 (.src 0 (.ex (.comp (.v 5) (.n 5) .seq (.cons (.v 3) .nil) (.cons (.cmp (.v 5) (.cons .ne (.tup .nil) .nil)) .nil)) .nil))) .abs (.bin .add (.k (.int 1)) (.call 0 (.src 0 (.ex (.v 2) .nil))))) .nil)) (R (some (.d f3 (.list ((evL m).map lotD)))) o4 o5 none none none none) g = some (csD cs, g2) := by
    have fl : ev F (.comp (.v 5) (.n 5) .seq (.cons (.v 3) .nil) (.cons (.cmp (.v 5) (.cons .ne (.tup .nil) .nil)) .nil)) (R (some (.d f3 (.list ((evL m).map lotD)))) o4 o5 none none none none) g = some (.list (((evL m).filter fun c => !decide (c = [])).map lotD), g) := e_filV (l := evL m) (h := lotD) (f := lotD) (p := fun c => !decide (c = [])) (e_cons (e_v rfl) e_nil) rfl (fun c _ => e_cmp (e_v rfl) (e_tup e_nil) (neT c)) fun c _ _ => e_v rfl
    refine e_blt (e_cons (e_sl (e_call (r_src rfl (r_ex fl r_nil)) h1 e2) p_abs (p_int (i := ((1 + r : Nat) : Int)) (by intro z; cases z) (ev_eq (e_bin (x := natD 1) e_k (e_call (r_src rfl (r_ex (e_v rfl) r_nil)) h0 e3) (addN 1 r)) rfl)) ?_) e_nil) (tupleC _)
    show some (PyData.list (cutL (xs.map lotD) none (some ((1 + r : Nat) : Int)))) = _
    rw [cutC, ← List.map_take]
  have cl : cs.length ≤ 8 := by
    show (xs.take (1 + r)).length ≤ 8
    rw [List.length_take]
    omega
  obtain ⟨ys, g3, e4, a2⟩ := e_mapX (F := F) (ρ := R (dF (.list ((evL m).map lotD))) o4 (frz1 o5) (dT (csD cs)) none none none) (g := g2) (l := List.range m) (h := natD) (k := fun y : List Nat => .list (y.map natD)) (Q := fun i y => y.Perm (idxN cs i)) (t := .n 4) (ik := .rng1) (ss := .cons (.v 1) .nil) (e := .call 1 (.src 0 (.ex (.comp (.v 8) (.t [(.n 8), (.n 5)]) .enum (.cons (.v 6) .nil) (.cons (.cmp (.v 4) (.cons .mem (.v 5) .nil)) .nil)) .nil))) (e_cons (e_v rfl) e_nil) (it_rng (by unfold LINE; omega)) (bd := fun i => R (dF (.list ((evL m).map lotD))) (dF (natD i)) (frz1 o5) (dT (csD cs)) none none none) (fun _ _ => rfl) (fun i hi g => by
    obtain ⟨y, g', e, p⟩ := any_ok (h := natD) (xs := idxN cs i) g
    refine ⟨y, g', e_call (r_src rfl (r_ex (ev_eq (e_filA (l := cs.zipIdx) (h := fun p => .tuple [natD p.2, lotD p.1]) (f := fun p => natD p.2) (p := fun p => decide (i ∈ p.1)) (bd := fun p => R (dF (.list ((evL m).map lotD))) (dF (natD i)) (dF (lotD p.1)) (dF (csD cs)) none (dF (natD p.2)) none) (e_cons (e_v rfl) e_nil) (enC cs) (fun _ _ => rfl) (fun p _ => e_cmp (e_v rfl) (e_v rfl) (memC i p.1)) fun p _ _ => e_v rfl) ?_) r_nil)) h1 e, p⟩
    unfold idxN
    rw [List.map_map]
    rfl)
  obtain ⟨la, at2⟩ := all2_at a2
  rw [List.length_range] at la
  have xn : ∀ c, c ∈ xs → 1 ≤ c.length ∧ c.length ≤ m ∧ ∀ x, x ∈ c → x < m := fun c hc => by
    obtain ⟨a, b⟩ := List.mem_filter.mp (px.mem_iff.mp hc)
    obtain ⟨u, v⟩ := (ev_ok m).2 c a
    refine ⟨List.length_pos_iff.mpr fun z => ?_, u, v⟩
    rw [z] at b
    cases b
  have xl : 1 ≤ xs.length := by
    have m0 : [0] ∈ evL m := by
      have go : ∀ k, [0] ∈ evL (k + 1) := fun k => by
        induction k with
        | zero => exact List.mem_cons_of_mem _ List.mem_cons_self
        | succ k ih => exact List.mem_append_left _ ih
      obtain ⟨k, rfl⟩ : ∃ k, m = k + 1 := ⟨m - 1, by omega⟩
      exact go k
    exact List.length_pos_of_mem (px.mem_iff.mpr (List.mem_filter.mpr ⟨m0, rfl⟩))
  refine ⟨cs, ys, g3, fn_go (x_cons (x_set (ρ1 := R (dT (.list ((evL 0).map lotD))) none none none none none none) (e_lst (e_cons (e_tup e_nil) e_nil)) rfl) (x_cons (x_for (e_cons (e_v rfl) e_nil) (it_rng (by unfold LINE; omega)) e1) (x_cons (x_set (ρ1 := R (dF (.list ((evL m).map lotD))) o4 (frz1 o5) (dT (csD cs)) none none none) s2 rfl) (x_cons (x_set (ρ1 := R (dF (.list ((evL m).map lotD))) o4 (frz1 o5) (dF (csD cs)) (dT (.list (ys.map fun y => .list (y.map natD)))) none none) e4 rfl) (x_stop (x_retE (e_tup (e_cons (e_v rfl) (e_cons (e_blt (e_cons (e_mapV (l := ys) (h := fun y : List Nat => .list (y.map natD)) (f := lotD) (e_cons (e_v rfl) e_nil) rfl fun y _ => e_blt (e_cons (e_v rfl) e_nil) (tupleC _)) e_nil) (tupleC _)) e_nil))))))))), ⟨?_, cl, fun c hc => xn c (List.mem_of_mem_take hc), la.symm, fun i hi => ?_⟩⟩
  · show 1 ≤ (xs.take (1 + r)).length
    rw [List.length_take]
    omega
  · obtain ⟨y, hy, q⟩ := at2 i i (by rw [List.getElem?_range hi])
    rw [List.getD_eq_getElem?_getD, hy]
    exact q
def twoS (cs : List (List Nat)) (sd : List Nat) : Bool := cs.all fun c => decide (c.length = 1) || (decide (c.length = 2) && (decide (c.getD 0 0 ∈ sd) != decide (c.getD 1 0 ∈ sd)))
def SpTwo (f : Fn) : Prop := ∀ (cs : List (List Nat)) (sd : List Nat) g, f [some (csD cs), some (lotD sd)] g = some (.bool (twoS cs sd), g)
theorem two_sp : SpTwo (F_is_two_sided F) := fun cs sd g => by
  refine fn_go (x_stop (x_retE (e_allV (l := cs) (h := lotD) (p := fun c => decide (c.length = 1) || (decide (c.length = 2) && (decide (c.getD 0 0 ∈ sd) != decide (c.getD 1 0 ∈ sd)))) (e_cons (e_v rfl) e_nil) rfl fun c _ => ?_)))
  have ln : ∀ n, ev F (.cmp (.blt .len (.cons (.v 2) .nil)) (.cons .eq (.k (.int (n : Nat))) .nil)) [dF (csD cs), dF (lotD sd), dF (lotD c)] g = some (.bool (decide (c.length = n)), g) := fun n => e_cmp (x := natD c.length) (y := natD n) (ev_eq (e_blt (e_cons (e_v rfl) e_nil) (lenTN _)) (congrArg natD (List.length_map ..))) e_k (c_eq_nat _ n)
  refine e_or (o_cons (ln 1) fun _ => o_one (e_and (a_cons (ln 2) fun h => a_one ?_)))
  have h2 := of_decide_eq_true h
  match c, h2 with
  | [a, b], _ =>
    have bn : cmpO .ne (.bool (decide (a ∈ sd))) (.bool (decide (b ∈ sd))) = some (decide (a ∈ sd) != decide (b ∈ sd)) := by
      show Option.map not (some (PyData.eqv (.bool _) (.bool _))) = _
      rw [PyData.eqv]
      cases decide (a ∈ sd) <;> cases decide (b ∈ sd) <;> rfl
    exact e_cmp (e_cmp (e_ix (e_v rfl) e_k rfl) (e_v rfl) (memC a sd)) (e_cmp (e_ix (e_v rfl) e_k rfl) (e_v rfl) (memC b sd)) bn
end
end DT

/-! The source of drawn numbers, as the text has it. -/
namespace DT
open PySem L2 PyProof.Rows
/-! ### the text -/
def topS (i : Nat) : Stmt := PySem.Challenge.pw_cornersled_k86_clubs_and_lists.main.body.getD i (.Pass ⟨0, 0, 0, 0⟩)
abbrev sOpen : Stmt := topS 10
abbrev sPick : Stmt := topS 11
abbrev sAny : Stmt := topS 12
theorem scOpen : FnScope ["script", "stirred", "cell", "cells"] ["script"] (defScope sOpen) := ⟨rfl, rfl, rfl, by decide +kernel, rfl, by decide +kernel, by decide +kernel⟩
theorem scPick : FnScope ["source", "most", "cells", "others", "lap", "stirred"] ["source", "most"] (defScope sPick) := ⟨rfl, rfl, rfl, by decide +kernel, rfl, by decide +kernel, by decide +kernel⟩
theorem scAny : FnScope ["source", "things", "others", "lap"] ["source", "things"] (defScope sAny) := ⟨rfl, rfl, rfl, by decide +kernel, rfl, by decide +kernel, by decide +kernel⟩
section
variable {P : Program} {w : World} {K : PySem.W.Frag} {mg : Str → Option Value} {base : Heap} {f : Addr} {fd : FuncData}
theorem mod_small (a : Int) {n : Int} (h : 0 < n) : 0 ≤ a.fmod n ∧ a.fmod n < n := ⟨Int.fmod_nonneg_of_pos _ h, Int.fmod_lt_of_pos _ h⟩
theorem vecMap_get {ns : List Int} {i : Nat} {x : V} (h : (ns.map V.int)[i]? = some x) : ∃ n, ns[i]? = some n ∧ x = .int n := by
  rw [List.getElem?_map] at h
  obtain ⟨n, h1, h2⟩ := Option.map_eq_some_iff.mp h
  exact ⟨n, h1, h2.symm⟩
theorem mixG_take {ns : List Int} {i : Nat} {n : Int} {s : Int} (h : ns[i]? = some n) : mixG s (ns.take (i + 1)) = (mixG s (ns.take i) * 69069 + n * 31 + 5).fmod 2147483629 := by
  induction ns generalizing i s with
  | nil => simp at h
  | cons c r ih =>
    cases i with
    | zero =>
      have e : c = n := Option.some.inj h
      subst e
      rfl
    | succ i => exact ih (s := (s * 69069 + c * 31 + 5).fmod 2147483629) (by simpa using h)
theorem ok_open (D : FunD K "_law_open_cells" "_law_open_cells" (defArgs sOpen) (defBody sOpen) (defScope sOpen) [] [] f fd) (mb : ∀ x, x ∈ bltNames → mg x = none) : FnG P w K mg base 1 f fd ["script"] (spOpen K openG) := by
  refine fnG_of D scOpen (fun vs H Q z => ?_) fun cdv A outer s H vs Q hr hg z => ?_
  · obtain ⟨a, ns, rfl, _⟩ := z
    rfl
  have mi : mg "int" = none := mb _ (by decide +kernel)
  have ma : mg "abs" = none := mb _ (by decide +kernel)
  obtain ⟨a, ns, rfl, hS, hl, want⟩ := z
  refine ⟨_, pss_cons (ps_set (i := 1) scOpen.nd rfl (.inl rfl) pe_int (by rfl) (.inr rfl))
    (pss_cons (ps_for PassesOwn.leaving rfl (pi_list (pv 0)) (pg_name (i := 2) scOpen.nd rfl (.inl rfl) (.inr rfl))
        (pss_one (ps_set (i := 1) scOpen.nd rfl (.inl rfl) (pe_op op_modN (pe_callTy call_int1 (by rfl) mi (by decide +kernel) (pa_cons (pe_op op_add (pe_op op_add (pe_op op_mul (pv 1) pe_int) (pe_op op_mul (pv 2) pe_int)) pe_int) pa_nil)) pe_int) (by rfl) (.inr rfl))))
    (pss_cons (ps_setLc (i := 3) (own := [("cell", 2)]) rfl scOpen.nd rfl rfl (by rfl) (pi_list (pv 0)) (show BlkOk ["script", "stirred", "cell", "cells"] (defScope sOpen) _ [("cell", 2)] from ⟨rfl, by decide +kernel, by decide +kernel, by decide +kernel, by decide +kernel⟩) (fun s H C cl fp => pg_name (i := 2) scOpen.nd rfl (.inl rfl) (.inr rfl)) (fun s H C cl fp => pts_nil)
        (fun s H C cl fp => pe_callB call_abs (by rfl) ma (by decide +kernel) (pa_cons (pv 2) pa_nil)))
    (pss_one (ps_ret (pe_disp (pps_cons pe_str (pe_revL (pv 3)) (pps_cons pe_str pe_int (pps_cons pe_str (pv 1) (pps_cons pe_str pe_int pps_nil)))) (by rfl) (by rfl) (fun z => by cases z) (by decide)))))), ?_⟩
  have look : ∀ {i : Nat} {x : V}, (ns.map V.int)[i]? = some x → ∃ n, ns[i]? = some n ∧ x = .int n := vecMap_get
  refine ⟨.ref a, rfl, a, rfl, ⟨_, hS⟩, for_list (xs := ns.map V.int) (fun i σ H' => H' = H ∧ ∃ z, σ = [some (.ref a), some (.int (mixG 11 (ns.take i))), z, none]) ⟨rfl, none, rfl⟩ (fun i σ H' _ q => by rw [q.1]; exact hS) (fun i x σ H' hx q => ?_) fun σ H' q => ?_⟩
  · obtain ⟨rfl, z, rfl⟩ := q
    obtain ⟨n, hn, rfl⟩ := look hx
    refine ⟨_, rfl, _, _, rfl, rfl, .inr ⟨by decide, by decide⟩, _, rfl, _, _, rfl, rfl, .inr ⟨by decide, by decide⟩, _, _, rfl, rfl, _, _, rfl, rfl, .inl ⟨_, rfl, _, _, rfl, rfl, (show (2147483629 : Int) ≠ 0 by decide), rfl, some (.int n), ?_⟩⟩
    rw [mixG_take hn]
    rfl
  · obtain ⟨rfl, z, rfl⟩ := q
    rw [List.length_map, List.take_length]
    refine ⟨.ref a, rfl, a, rfl, ⟨_, hS⟩, fun c hc => lc_list (xs := ns.map V.int) (fun i H2 => (∀ p o, H' p = some o → H2 p = some o) ∧ H2 c = some (.lst ((ns.take i).map fun n => V.int (absI n)))) ⟨fun p o e => ?_, upd_same⟩ (fun i H2 _ q => ?_) (fun i x H2 hx q => ?_) fun H2 q => ?_⟩
    · rw [upd_ne (ne_of_none e hc)]
      exact e
    · rcases hS with hS | hS
      · rcases hS with hS | ⟨o, hS⟩
        · exact .inl (.inl (q.1 _ _ hS))
        · exact .inl (.inr ⟨o, q.1 _ _ hS⟩)
      · exact .inr hS
    · obtain ⟨n, hn, rfl⟩ := look hx
      refine ⟨rfl, ?_⟩
      unfold tYes
      refine iteT ⟨_, rfl, n, rfl, _, q.2, ?_, fun p o e => ?_, ?_⟩
      · rw [List.length_map, List.length_take]
        exact Nat.lt_of_le_of_lt (Nat.le_trans (Nat.min_le_right _ _) hl) (by decide)
      · have ne : p ≠ c := fun z => by rw [z, hc] at e; cases e
        rw [upd_ne ne]
        exact q.1 p o e
      · rw [upd_same, List.take_add_one, hn, List.map_append]
        rfl
    · rw [List.length_map, List.take_length] at q
      obtain ⟨q1, q2⟩ := q
      intro d hd
      have hcd : c ≠ d := ne_of_none q2 hd
      refine ⟨.ref c, rfl, c, _, rfl, .of (by rw [upd_ne hcd]; exact q2), fun e he => ⟨_, rfl, ?_⟩⟩
      have hed : e ≠ d := fun z => by rw [z, upd_same] at he; cases he
      refine ⟨by rw [upd_ne (Ne.symm hed), upd_same], [(.inr "cells", .ref e), (.inr "left", .int 1), (.inr "mixed", .int (mixG 11 ns)), (.inr "turn", .int 0)], rfl, (show 4 ≤ 15 by decide), ?_⟩
      refine want d e _ (fun p o z => ?_) ⟨?_, ?_, Ne.symm hed⟩
      · have z1 := q1 p o z
        have n1 : p ≠ d := ne_of_none z1 hd
        have n2 : p ≠ e := fun y => by
          rw [← y, upd_ne n1] at he
          rw [z1] at he
          cases he
        rw [upd_ne n1, upd_ne n2, upd_ne n1]
        exact z1
      · rw [upd_same]
        rfl
      · rw [upd_ne hed, upd_same]
        show some (HO.lst _) = some (HO.lst _)
        congr 2
        show _ = ((ns.map absI).reverse).map V.int
        rw [List.map_reverse, List.map_map]
        rfl
/-! ### a pick -/
def srcK (c : Addr) (l m t : Int) : List (Key × V) := [(.inr "cells", .ref c), (.inr "left", .int l), (.inr "mixed", .int m), (.inr "turn", .int t)]
theorem put_left {c : Addr} {l m t l' : Int} : putK (srcK c l m t) (.inr "left") (.int l') = srcK c l' m t := rfl
theorem put_turn {c : Addr} {l m t t' : Int} : putK (srcK c l m t) (.inr "turn") (.int t') = srcK c l m t' := rfl
section
variable {H : Hp} {sa : Addr × Addr} {g : PState} {d c : Addr}
theorem src_get (q : SrcOk H (d, c) g) : DGet H d (.str "cells") (some (.ref c)) ∧ DGet H d (.str "left") (some (.int g.left)) ∧ DGet H d (.str "mixed") (some (.int g.mixed)) ∧ DGet H d (.str "turn") (some (.int g.turn)) :=
  ⟨DGet.k (k := .inr "cells") q.1, DGet.k (k := .inr "left") q.1, DGet.k (k := .inr "mixed") q.1, DGet.k (k := .inr "turn") q.1⟩
theorem src_left (q : SrcOk H (d, c) g) (l : Int) : DPut H d (.str "left") (.int l) (upd H d (.dK (srcK c l g.mixed g.turn))) ∧ SrcOk (upd H d (.dK (srcK c l g.mixed g.turn))) (d, c) ⟨g.cells, l, g.mixed, g.turn⟩ ∧ Keep (isS (d, c)) H (upd H d (.dK (srcK c l g.mixed g.turn))) := by
  refine ⟨DPut.k (k := .inr "left") (v := .int l) q.1 (show 4 < sizeLine by decide), ⟨upd_same, ?_, q.2.2⟩, .mut (.inl rfl)⟩
  rw [upd_ne (Ne.symm q.2.2)]
  exact q.2.1
theorem src_turn (q : SrcOk H (d, c) g) (t : Int) : DPut H d (.str "turn") (.int t) (upd H d (.dK (srcK c g.left g.mixed t))) ∧ SrcOk (upd H d (.dK (srcK c g.left g.mixed t))) (d, c) ⟨g.cells, g.left, g.mixed, t⟩ ∧ Keep (isS (d, c)) H (upd H d (.dK (srcK c g.left g.mixed t))) := by
  refine ⟨DPut.k (k := .inr "turn") (v := .int t) q.1 (show 4 < sizeLine by decide), ⟨upd_same, ?_, q.2.2⟩, .mut (.inl rfl)⟩
  rw [upd_ne (Ne.symm q.2.2)]
  exact q.2.1
theorem src_pop (q : SrcOk H (d, c) g) (cs : List Int) : SrcOk (upd H c (.lst (cs.map V.int))) (d, c) ⟨cs, g.left, g.mixed, g.turn⟩ ∧ Keep (isS (d, c)) H (upd H c (.lst (cs.map V.int))) := by
  refine ⟨⟨?_, upd_same, q.2.2⟩, .mut (.inr rfl)⟩
  rw [upd_ne q.2.2]
  exact q.1
theorem drain_step {l x : Int} {cs : List Int} (h : l < 2) : drainG l (cs ++ [x]) = drainG x cs := by
  unfold drainG
  rw [List.reverse_append]
  show ((drainR l (x :: cs.reverse)).1, (drainR l (x :: cs.reverse)).2.reverse) = _
  simp only [drainR, if_pos h]
theorem drain_stop {l : Int} {cs : List Int} (h : ¬ l < 2 ∨ cs = []) : drainG l cs = (l, cs) := by
  unfold drainG
  cases e : cs.reverse with
  | nil =>
    have : cs = [] := List.reverse_eq_nil_iff.mp e
    subst this
    rfl
  | cons x r =>
    have ne : cs ≠ [] := fun z => by rw [z] at e; cases e
    have h' := h.resolve_right ne
    simp only [drainR, if_neg h']
    rw [← e, List.reverse_reverse]
end
theorem pick_inv {as : List (Option DT.D)} {g : PState} {d : DT.D} {g' : PState} (h : pickFn as g = some (d, g')) : ∃ n, as = [none, some (.int n)] ∧ n < 1073741824 ∧ d = .int (pickG n g).1 ∧ g' = (pickG n g).2 := by
  unfold pickFn at h
  split at h
  · rename_i n
    split at h
    · cases h
      exact ⟨n, rfl, by assumption, rfl, rfl⟩
    · cases h
  · cases h
theorem ok_pick (D : FunD K "_law_pick" "_law_pick" (defArgs sPick) (defBody sPick) (defScope sPick) [] [] f fd) (mb : ∀ x, x ∈ bltNames → mg x = none) : FnG P w K mg base 1 f fd ["source", "most"] (spF 2 pickFn) := by
  refine fnG_of D scPick (fun vs H Q z => ?_) fun cdv A outer s H vs Q hr hg z => ?_
  · obtain ⟨M0, sa, as, g, d, g', hl, _, _, _, o, _⟩ := z
    rw [o.length, hl]
    rfl
  have mi : mg "int" = none := mb _ (by decide +kernel)
  have ml : mg "len" = none := mb _ (by decide +kernel)
  have hu : (A.deeper (envOfC "_law_pick" (defScope sPick) s.heap.objs.size f cdv)).units + 1 < cLine := by
    have := hr.un
    omega
  refine ⟨_, pss_cons (ps_if (pt_cmpR op_lt (pv 1) pe_int (nomark _)) (pss_one (ps_ret pe_int)) pss_nil)
    (pss_cons (ps_set (i := 2) scPick.nd rfl (.inl rfl) (pe_dget hu (pv 0) pe_str (fun _ _ => rfl)) (by rfl) (.inr rfl))
    (pss_cons (ps_while PassesOwn.leaving (pw_and (pt_cmpR op_lt (pe_dget hu (pv 0) pe_str (fun _ _ => rfl)) pe_int (nomark _)) (pw_and1 (pt_cmpR op_gt (pe_callB call_len_seq (by rfl) ml (by decide +kernel) (pa_cons (pv 2) pa_nil)) pe_int (nomark _)))).pt
      (pss_one (ps_dput hu (pv 0) pe_str (pe_bm0 PySem.F.plainAttrs_list PySem.F.slot_list_pop PySem.F.type_list_pop mt_pop (pv 2)) (by rfl))))
    (pss_cons (ps_set (i := 3) scPick.nd rfl (.inl rfl) (pe_dget hu (pv 0) pe_str (fun _ _ => rfl)) (by rfl) (.inr rfl))
    (pss_cons (ps_if (pt_cmpR op_gt (pv 3) pe_int (nomark _)) (pss_cons (ps_dput hu (pv 0) pe_str (pe_op op_fdivN (pv 3) (pv 1)) (by rfl)) (pss_one (ps_ret (pe_op op_modN (pe_callTy call_int1 (by rfl) mi (by decide +kernel) (pa_cons (pv 3) pa_nil)) (pv 1))))) pss_nil)
    (pss_cons (ps_dput hu (pv 0) pe_str (pe_op op_add (pe_dget hu (pv 0) pe_str (fun _ _ => rfl)) pe_int) (by rfl))
    (pss_cons (ps_set (i := 4) scPick.nd rfl (.inl rfl) (pe_dget hu (pv 0) pe_str (fun _ _ => rfl)) (by rfl) (.inr rfl))
    (pss_cons (ps_set (i := 5) scPick.nd rfl (.inl rfl) (pe_op op_modN (pe_callTy call_int1 (by rfl) mi (by decide +kernel) (pa_cons (pe_op op_add (pe_dget hu (pv 0) pe_str (fun _ _ => rfl)) (pe_op op_mul (pv 4) pe_int)) pa_nil)) pe_int) (by rfl) (.inr rfl))
    (pss_cons (ps_set (i := 5) scPick.nd rfl (.inl rfl) (pe_op op_modN (pe_callTy call_int1 (by rfl) mi (by decide +kernel) (pa_cons (pe_op op_add (pe_op op_mul (pv 5) (pv 5)) (pe_op op_mul (pv 4) pe_int)) pa_nil)) pe_int) (by rfl) (.inr rfl))
    (pss_one (ps_ret (pe_op op_modN (pe_callTy call_int1 (by rfl) mi (by decide +kernel) (pa_cons (pe_op op_fdivN (pv 5) pe_int) pa_nil)) (pv 1)))))))))))), ?_⟩
  obtain ⟨M0, ⟨dd, cc⟩, as, g, d, g', hl, h1, h2, src, o, e, want⟩ := z
  obtain ⟨n, rfl, hn, rfl, rfl⟩ := pick_inv e
  obtain ⟨t, rfl, v, t', rfl, hv, ht⟩ := o
  have ht' : t' = [] := ht
  subst ht'
  rw [Rep] at hv
  subst hv
  have out : ∀ (x : Int) H' g', (pickG n g) = (x, g') → Keep (isS (dd, cc)) H H' → SrcOk H' (dd, cc) g' → Q (.int x) H' := fun x H' g' eg k q => want (.int x) H' k (by rw [eg]; exact q) (by rw [eg, Rep])
  clear want e
  refine ⟨.int n, rfl, n, 2, rfl, rfl, _, rfl, ite2 (fun c => ?_) (fun c => ?_)⟩
  · have c := of_decide_eq_true c
    refine out 0 H g ?_ .refl src
    unfold pickG
    rw [if_pos c]
  have c : ¬ n < 2 := fun z => c (decide_eq_true z)
  refine ⟨.ref dd, rfl, dd, .ref cc, rfl, (src_get src).1, ?_⟩
  refine ⟨fun m σ H' => ∃ l cs, σ = [some (.ref dd), some (.int n), some (.ref cc), none, none, none] ∧ SrcOk H' (dd, cc) ⟨cs, l, g.mixed, g.turn⟩ ∧ Keep (isS (dd, cc)) H H' ∧ drainG l cs = drainG g.left g.cells ∧ m = cs.length, ⟨_, g.left, g.cells, rfl, src, .refl, rfl, rfl⟩, ?_⟩
  rintro m σ H' ⟨l, cs, rfl, q, k, ed, rfl⟩
  have gl := (src_get q).2.1
  by_cases go : l < 2 ∧ cs ≠ []
  · obtain ⟨c1, c2⟩ := go
    obtain ⟨cs', x, rfl⟩ : ∃ cs' x, cs = cs' ++ [x] := ⟨cs.dropLast, cs.getLast c2, (List.dropLast_concat_getLast c2).symm⟩
    refine ⟨.ref dd, rfl, dd, .int l, rfl, gl, l, 2, rfl, rfl, _, rfl, ite2 (fun _ => ?_) (fun z => (z (decide_eq_true c1)).elim)⟩
    refine ⟨.ref cc, rfl, cc, (cs' ++ [x]).map V.int, rfl, .inl (.of q.2.1), _, 0, rfl, rfl, _, rfl, ite2 (fun _ => ?_) (fun z => (z (decide_eq_true (by simp))).elim)⟩
    refine ⟨fun σ2 H2 => σ2 = [some (.ref dd), some (.int n), some (.ref cc), none, none, none] ∧ SrcOk H2 (dd, cc) ⟨cs', x, g.mixed, g.turn⟩ ∧ Keep (isS (dd, cc)) H H2, fun σ2 H2 ⟨e1, e2, e3⟩ => ⟨cs'.length, by simp, x, cs', e1, e2, e3, by rw [← ed, drain_step c1], rfl⟩, ?_⟩
    obtain ⟨p1, p2⟩ := src_pop q cs'
    obtain ⟨p3, p4, p5⟩ := src_left p1 x
    have el : ((cs' ++ [x]).map V.int).dropLast = cs'.map V.int := by simp
    refine ⟨.ref cc, rfl, .inl ⟨rfl, _, .of q.2.1⟩, cc, (cs' ++ [x]).map V.int, .int x, rfl, rfl, q.2.1, by simp, ?_⟩
    rw [el]
    exact ⟨.ref dd, rfl, dd, _, rfl, p3, rfl, p4, k.trans (p2.trans p5)⟩
  · have stop : ¬ l < 2 ∨ cs = [] := by
      by_cases z : l < 2
      · exact .inr (Classical.byContradiction fun y => go ⟨z, y⟩)
      · exact .inl z
    rw [drain_stop stop] at ed
    refine (fun fin => ⟨.ref dd, rfl, dd, .int l, rfl, gl, l, 2, rfl, rfl, _, rfl, ite2 (fun z => ⟨.ref cc, rfl, cc, cs.map V.int, rfl, .inl (.of q.2.1), _, 0, rfl, rfl, _, rfl, ite2 (fun y => (by
      have z := of_decide_eq_true z
      have y := of_decide_eq_true y
      rw [stop.resolve_left (fun w => w z)] at y
      simp at y)) (fun _ => fin)⟩) (fun _ => iteF fin)⟩) ?_
    -- behind the loop
    have gt := (src_get q).2.2.2
    refine ⟨.ref dd, rfl, dd, .int l, rfl, gl, ?_⟩
    refine ⟨.int l, rfl, l, 1, rfl, rfl, _, rfl, ite2 (fun z => ?_) (fun z => ?_)⟩
    · have z := of_decide_eq_true z
      obtain ⟨p3, p4, p5⟩ := src_left q (l.fdiv n)
      refine ⟨.int l, rfl, .int n, rfl, l, n, rfl, rfl, ⟨by omega, by omega⟩, .ref dd, rfl, dd, _, rfl, p3, ?_⟩
      refine ⟨_, rfl, .inl ⟨l, rfl, .int n, rfl, l, n, rfl, rfl, by omega, ?_⟩⟩
      refine out _ _ _ ?_ (k.trans p5) p4
      unfold pickG
      rw [if_neg c, ← ed, if_pos z]
    · have z : ¬ 1 < l := fun y => z (decide_eq_true y)
      obtain ⟨p3, p4, p5⟩ := src_turn q (g.turn + 1)
      have gm := (src_get p4).2.2.1
      have gt2 := (src_get p4).2.2.2
      have b1 := mod_small (g.mixed + (g.turn + 1) * 104729) (show (0 : Int) < 998244353 by decide)
      refine ⟨.ref dd, rfl, dd, .int g.turn, rfl, gt, g.turn, 1, rfl, rfl, .ref dd, rfl, dd, _, rfl, p3, ?_⟩
      refine ⟨.ref dd, rfl, dd, .int (g.turn + 1), rfl, gt2, ?_⟩
      refine ⟨.ref dd, rfl, dd, .int g.mixed, rfl, gm, .int (g.turn + 1), rfl, g.turn + 1, 104729, rfl, rfl, .inr ⟨by decide, by decide⟩, g.mixed, _, rfl, rfl, .inl ⟨_, rfl, _, 998244353, rfl, rfl, (show (998244353 : Int) ≠ 0 by decide), ?_⟩⟩
      refine ⟨_, rfl, _, rfl, _, _, rfl, rfl, .inl ⟨by omega, by omega⟩, .int (g.turn + 1), rfl, g.turn + 1, 17, rfl, rfl, .inr ⟨by decide, by decide⟩, _, _, rfl, rfl, .inl ⟨_, rfl, _, 2147483647, rfl, rfl, (show (2147483647 : Int) ≠ 0 by decide), ?_⟩⟩
      refine ⟨_, rfl, _, 16, rfl, rfl, ⟨by decide, by decide⟩, .inl ⟨_, rfl, .int n, rfl, _, n, rfl, rfl, by omega, ?_⟩⟩
      refine out _ _ _ ?_ (k.trans p5) p4
      unfold pickG
      rw [if_neg c, ← ed, if_neg z]
end
end DT

/-! The source of drawn numbers: things in any order. -/
namespace DT
open PySem L2 PyProof.Rows
theorem RepL.erase {N : Ms} {H : Hp} : ∀ {ds : List D} {vs : List V} (j : Nat), RepL N H ds vs → RepL N H (ds.eraseIdx j) (vs.eraseIdx j)
  | [], _, _, h => by
    rw [RepL] at h
    subst h
    exact .nil
  | _ :: _, _, 0, h => by
    rw [RepL] at h
    obtain ⟨v, r, rfl, _, h2⟩ := h
    exact h2
  | _ :: _, _, j + 1, h => by
    rw [RepL] at h
    obtain ⟨v, r, rfl, h1, h2⟩ := h
    exact .cons h1 (RepL.erase j h2)
theorem any_inv {as : List (Option D)} {g : PState} {d : D} {g' : PState} (h : anyFn as g = some (d, g')) : ∃ t xs, as = [none, some t] ∧ seqO t = some xs ∧ d = .list (anyG xs.length xs g).1 ∧ g' = (anyG xs.length xs g).2 := by
  unfold anyFn at h
  split at h
  · rename_i t
    split at h
    · rename_i xs e
      cases h
      exact ⟨t, xs, rfl, e, rfl, rfl⟩
    · cases h
  · cases h
theorem seqIx {j : Int} {n : Nat} (h0 : 0 ≤ j) (h1 : j < n) : seqIndex? j n = some j.toNat := by
  have e : ixN n j = some j.toNat := by
    unfold ixN
    rw [if_pos h0, if_pos h1]
  exact (ixN_seq e).1
section
variable {P : Program} {w : World} {K : PySem.W.Frag} {mg : Str → Option Value} {base : Heap} {f fp : Addr} {fd fdp : FuncData} {psp : List Str}
theorem ok_any (DD : FunD K "_law_any_order" "_law_any_order" (defArgs sAny) (defBody sAny) (defScope sAny) [] [] f fd) (mb : ∀ x, x ∈ bltNames → mg x = none) (gm : mg "_law_pick" = some (.ref fp)) (kp : PySem.W.keepIn K (.ref fp) = true) (bp : Binds K fdp ["source", "most"] []) (G : FnG P w K mg base 1 fp fdp ["source", "most"] (spF 2 pickFn)) :
    FnG P w K mg base 2 f fd ["source", "things"] (spF 2 anyFn) := by
  refine fnG_of DD scAny (fun vs H Q z => ?_) fun cdv A outer s H vs Q hr hg z => ?_
  · obtain ⟨M0, sa, as, g, d, g', hl, _, _, _, o, _⟩ := z
    rw [o.length, hl]
    rfl
  have mll : mg "list" = none := mb _ (by decide +kernel)
  have mr : mg "range" = none := mb _ (by decide +kernel)
  have ml : mg "len" = none := mb _ (by decide +kernel)
  refine ⟨_, pss_cons (ps_set (i := 2) scAny.nd rfl (.inr rfl) (pe_callTy call_list_of (by rfl) mll (by decide +kernel) (pa_cons (pv 1) pa_nil)) (by rfl) (.inl rfl))
    (pss_one (ps_ret (pe_lc (te := tBM K "list" rPopAt (tVar 2) (tCons (tCallG (spF 2 pickFn) (tCons (tVar 0) (tCons (tCB (fun xs H Q => ∃ p ys, xs = [V.ref p] ∧ (SqL K H p ys ∨ SqT K H p ys) ∧ Q (.int ys.length) H) (tCons (tVar 2) tNil)) tNil))) tNil)) (own := [("lap", 3)]) rfl scAny.nd (pi_range1 (by rfl) mr (pa_cons (pe_callB call_len_seq (by rfl) ml (by decide +kernel) (pa_cons (pv 2) pa_nil)) pa_nil))
      (show BlkOk ["source", "things", "others", "lap"] (defScope sAny) _ [("lap", 3)] from ⟨rfl, by decide +kernel, by decide +kernel, by decide +kernel, by decide +kernel⟩)
      (fun s H C cl fp => pg_name (i := 3) scAny.nd rfl (.inl rfl) (.inr rfl)) (fun s H C cl fp => pts_nil)
      (fun s H C cl fp => pe_bm PySem.F.plainAttrs_list PySem.F.slot_list_pop PySem.F.type_list_pop mt_popAt (pv 2)
        (pa_cons (pe_callG G hr hg (by rfl) gm kp bp (pa_cons (pv 0) (pa_cons (pe_callB call_len_seq (by rfl) ml (by decide +kernel) (pa_cons (pv 2) pa_nil)) pa_nil)) (by rfl) (by rfl) (by rfl)) pa_nil))))), ?_⟩
  obtain ⟨M0, ⟨dd, cc⟩, as, g, d, g', hl, h1, h2, src, o, e, want⟩ := z
  obtain ⟨t, xs, rfl, es, rfl, rfl⟩ := any_inv e
  obtain ⟨u, rfl, v, v', rfl, hv, ht⟩ := o
  have ht' : v' = [] := ht
  subst ht'
  obtain ⟨hz, l, ws, rfl, hnl, rl, hh⟩ := seq_rep hv es
  have lenW := rl.length
  have hz2 : (LINE : Nat) = 16777216 := rfl
  refine ⟨.ref l, rfl, l, ws, rfl, ?_, fun p hp => ?_⟩
  · rcases hh with ⟨q, _⟩ | ⟨q, _⟩
    · exact .inl (.of q)
    · exact .inr q.sq
  refine ⟨.ref p, rfl, p, ws, rfl, .inl (.of upd_same), (ws.length : Int), rfl, by omega, by omega, fun D hD => ?_⟩
  have hpD : p ≠ D := fun z => by rw [← z, upd_same] at hD; cases hD
  have hD0 : H D = none := by rw [upd_ne (Ne.symm hpD)] at hD; exact hD
  have nS : ∀ a, H a = none → ¬ isS (dd, cc) a := fun a z y => src.there y z
  have nM : ∀ a, H a = none → ¬ M0 a := fun a z y => h2 a y z
  refine lc_range (lo := 0) (n := (ws.length : Int).toNat) (fun i H' => i ≤ ws.length ∧ ∃ gi rest dn restV accV, (anyG xs.length xs g) = (dn ++ (anyG (ws.length - i) rest gi).1, (anyG (ws.length - i) rest gi).2) ∧ rest.length = ws.length - i ∧ dn.length = i ∧ H' p = some (.lst restV) ∧ RepL (addL M0 [p, D]) H' rest restV ∧
    H' D = some (.lst accV) ∧ RepL (addL M0 [p, D]) H' dn accV ∧ Keep (isS (dd, cc)) H H' ∧ SrcOk H' (dd, cc) gi) ?_ ?_ ?_
  · refine ⟨Nat.zero_le _, g, xs, [], ws, [], by rw [Nat.sub_zero, lenW]; rfl, by rw [Nat.sub_zero, lenW], rfl, by rw [upd_ne hpD, upd_same], ?_, upd_same, .nil, ?_, ?_⟩
    · refine rl.tr fun a u q n => ?_
      have n1 : a ≠ p := ne_of_none q hp
      have n2 : a ≠ D := ne_of_none q hD0
      refine ⟨by rw [upd_ne n2, upd_ne n1]; exact q, fun z => z.elim n fun y => ?_⟩
      rcases List.mem_cons.mp y with y | y
      · exact n1 y
      · exact n2 (List.mem_singleton.mp y)
    · exact (Keep.new hp).trans (.new hD)
    · exact (src.upd hp).upd hD
  · rintro i H' hi ⟨hi', gi, rest, dn, restV, accV, e1, e2, e3, e4, e5, e6, e7, k, q⟩
    have hi2 : i < ws.length := by simpa using hi
    have lr := e5.length
    have pos : 0 < rest.length := by omega
    obtain ⟨pr1, pr2⟩ := pickG_range (rest.length : Int) gi
    have pr3 : (pickG (rest.length : Int) gi).1 < rest.length := by omega
    have hj : (pickG (rest.length : Int) gi).1.toNat < rest.length := by omega
    refine ⟨rfl, ?_⟩
    unfold tYes
    refine iteT ⟨.ref p, rfl, tyV_list e4, .ref dd, rfl, .ref p, rfl, p, restV, rfl, .inl (.of e4), ?_⟩
    refine ⟨isS (dd, cc), (dd, cc), [none, some (.int (restV.length : Int))], gi, .int (pickG (rest.length : Int) gi).1, (pickG (rest.length : Int) gi).2, rfl, fun _ z => z, fun a z => q.there z, q, ⟨_, rfl, _, _, rfl, by rw [Rep], rfl⟩, ?_, fun v H2 k2 q2 rp => ?_⟩
    · rw [lr]
      exact pickFn_eq (by omega)
    rw [Rep] at rp
    subst rp
    have e4' : H2 p = some (.lst restV) := k2 p _ e4 (nS p hp)
    have e6' : H2 D = some (.lst accV) := k2 D _ e6 (nS D hD0)
    have kk : Keep (addL M0 [p, D]) H' H2 := k2.wide fun a z => .inl (h1 a z)
    have hx : rest[(pickG (rest.length : Int) gi).1.toNat]? = some rest[(pickG (rest.length : Int) gi).1.toNat] := List.getElem?_eq_getElem hj
    obtain ⟨y, y1, y2⟩ := (e5.keep kk).get hx
    have kp : Keep (addL M0 [p, D]) H2 (upd H2 p (.lst (restV.eraseIdx (pickG (rest.length : Int) gi).1.toNat))) := .mut (.inr List.mem_cons_self)
    have mD : addL M0 [p, D] D := .inr (List.mem_cons_of_mem _ (List.mem_singleton.mpr rfl))
    refine ⟨p, restV, (pickG (rest.length : Int) gi).1, (pickG (rest.length : Int) gi).1.toNat, y, rfl, rfl, e4', by omega, by omega, by rw [lr]; exact seqIx pr1 pr3, y1, accV, by rw [upd_ne (Ne.symm hpD)]; exact e6', ?_, ?_⟩
    · rw [e7.length, e3, ← lineEq]
      omega
    · have kD : Keep (addL M0 [p, D]) (upd H2 p (.lst (restV.eraseIdx (pickG (rest.length : Int) gi).1.toNat))) (upd (upd H2 p (.lst (restV.eraseIdx (pickG (rest.length : Int) gi).1.toNat))) D (.lst (accV ++ [y]))) := .mut mD
      have en : ws.length - i = (ws.length - (i + 1)) + 1 := by omega
      refine ⟨hi2, (pickG (rest.length : Int) gi).2, rest.eraseIdx (pickG (rest.length : Int) gi).1.toNat, dn ++ [rest[(pickG (rest.length : Int) gi).1.toNat]], restV.eraseIdx (pickG (rest.length : Int) gi).1.toNat, accV ++ [y], ?_, ?_, ?_, ?_, ?_, upd_same, ?_, ?_, ?_⟩
      · rw [e1, en]
        show (dn ++ (rest.getD _ .none :: _), _) = _
        rw [List.getD_eq_getElem?_getD, hx, List.append_assoc]
        rfl
      · rw [List.length_eraseIdx_of_lt hj, e2]
        omega
      · rw [List.length_append, e3]
        rfl
      · rw [upd_ne hpD, upd_same]
      · exact (((e5.keep kk).erase _).keep kp).keep kD
      · exact ((((e7.keep kk).keep kp).keep kD).snoc ((y2.keep kp).keep kD))
      · intro a u z n
        have n1 : a ≠ p := fun y => by rw [y, hp] at z; cases z
        have n2 : a ≠ D := fun y => by rw [y, hD0] at z; cases z
        rw [upd_ne n2, upd_ne n1]
        exact k2 a u (k a u z n) n
      · have a1 : dd ≠ p := fun y => nS p hp (.inl y.symm)
        have a2 : dd ≠ D := fun y => nS D hD0 (.inl y.symm)
        have a3 : cc ≠ p := fun y => nS p hp (.inr y.symm)
        have a4 : cc ≠ D := fun y => nS D hD0 (.inr y.symm)
        exact ⟨by rw [upd_ne a2, upd_ne a1]; exact q2.1, by rw [upd_ne a4, upd_ne a3]; exact q2.2.1, q2.2.2⟩
  · rintro H' ⟨_, gi, rest, dn, restV, accV, e1, e2, e3, e4, e5, e6, e7, k, q⟩
    have en : (ws.length : Int).toNat = ws.length := by simp
    rw [en] at e1 e2 e3
    rw [Nat.sub_self] at e1 e2
    have e1' : anyG xs.length xs g = (dn ++ [], gi) := e1
    rw [List.append_nil] at e1'
    refine want (.ref D) H' k (by rw [e1']; exact q) ?_
    rw [e1', Rep]
    exact ⟨by show dn.length ≤ LINE; omega, D, accV, rfl, nM D hD0, e6, e7.anti fun a z => .inl z⟩
end
end DT

/-! The defs as functions. -/
namespace DT
open PySem L2 PyProof.Rows
def gls : List (Str × Int) := []
def tn : List (Str × Nat) := ([("_law_pick", 2), ("_law_any_order", 2), ("is_number_under", 2), ("is_club", 2), ("is_clubs", 2), ("is_lists", 3), ("club_rank", 4), ("great_number", 1), ("club_table", 3), ("is_two_sided", 2), ("_law_draw", 3), ("_law_table", 3), ("_law_is_number", 2), ("_law_is_clubs", 2), ("_law_is_lists", 3)] : List (Str × Nat))
def failFn : Fn := fun _ _ => none
def t1 : List Fn := [pickFn]
def t2 : List Fn := t1 ++ [anyFn]
def x_is_number_under : Sxs := X_is_number_under
def f_is_number_under : Fn := fnOf t2 2 x_is_number_under
def t3 : List Fn := t2 ++ [f_is_number_under]
def x_is_club : Sxs := X_is_club 2
def f_is_club : Fn := fnOf t3 4 x_is_club
def t4 : List Fn := t3 ++ [f_is_club]
def x_is_clubs : Sxs := X_is_clubs 3
def f_is_clubs : Fn := fnOf t4 3 x_is_clubs
def t5 : List Fn := t4 ++ [f_is_clubs]
def x_is_lists : Sxs := X_is_lists 2
def f_is_lists : Fn := fnOf t5 7 x_is_lists
def t6 : List Fn := t5 ++ [f_is_lists]
def x_club_rank : Sxs := X_club_rank
def f_club_rank : Fn := fnOf t6 5 x_club_rank
def t7 : List Fn := t6 ++ [f_club_rank]
def x_great_number : Sxs := X_great_number
def f_great_number : Fn := fnOf t7 3 x_great_number
def t8 : List Fn := t7 ++ [f_great_number]
def x_club_table : Sxs := X_club_table 6 7
def f_club_table : Fn := fnOf t8 10 x_club_table
def t9 : List Fn := t8 ++ [f_club_table]
def x_is_two_sided : Sxs := X_is_two_sided
def f_is_two_sided : Fn := fnOf t9 3 x_is_two_sided
def t10 : List Fn := t9 ++ [f_is_two_sided]
def x_law_draw : Sxs := X_law_drawC
def f_law_draw : Fn := fnOf t10 10 x_law_draw
def t11 : List Fn := t10 ++ [f_law_draw]
def x_law_table : Sxs := X_law_tableC
def f_law_table : Fn := fnOf t11 12 x_law_table
def t12 : List Fn := t11 ++ [f_law_table]
def x_law_is_number : Sxs := X_law_is_number
def f_law_is_number : Fn := fnOf t12 2 x_law_is_number
def t13 : List Fn := t12 ++ [f_law_is_number]
def x_law_is_clubs : Sxs := X_law_is_clubs 12
def f_law_is_clubs : Fn := fnOf t13 5 x_law_is_clubs
def t14 : List Fn := t13 ++ [f_law_is_clubs]
def x_law_is_lists : Sxs := X_law_is_lists 12
def f_law_is_lists : Fn := fnOf t14 7 x_law_is_lists
def t15 : List Fn := t14 ++ [f_law_is_lists]
-- for value in values:
def w1_law : Sxs := (.cons (.set 12 (.blt .repr (.cons (.v 11) .nil))) (.cons (.iff (.or (.cons (.cmp (.blt .repr (.cons (.call 5 (.ex (.v 3) (.ex (.v 4) (.ex (.v 11) .nil)))) .nil)) (.cons .ne (.blt .repr (.cons (.call 14 (.ex (.v 3) (.ex (.v 4) (.ex (.v 11) .nil)))) .nil)) .nil)) (.cons (.cmp (.blt .repr (.cons (.v 11) .nil)) (.cons .ne (.v 12) .nil)) .nil))) (.cons (.ret (.k (.bool false))) .nil) .nil) .nil))
-- for value in values:
def w2_law : Sxs := (.cons (.set 12 (.blt .repr (.cons (.v 11) .nil))) (.cons (.iff (.or (.cons (.cmp (.blt .repr (.cons (.call 4 (.ex (.v 3) (.ex (.v 11) .nil))) .nil)) (.cons .ne (.blt .repr (.cons (.call 13 (.ex (.v 3) (.ex (.v 11) .nil))) .nil)) .nil)) (.cons (.cmp (.blt .repr (.cons (.v 11) .nil)) (.cons .ne (.v 12) .nil)) .nil))) (.cons (.ret (.k (.bool false))) .nil) .nil) .nil))
-- for lap in range(5):
def w3_law : Sxs := (.cons (.set 3 (.bin .add (.k (.int 1)) (.call 0 (.src 1 (.ex (.k (.int 4)) .nil))))) (.cons (.unp (.t [(.n 4), (.n 5)]) (.call 10 (.src 1 (.ex (.v 3) (.ex (.k (.int 8)) .nil))))) (.cons (.set 6 (.blt .repr (.cons (.lst (.cons (.v 4) (.cons (.v 5) .nil))) .nil))) (.cons (.iff (.cmp (.blt .repr (.cons (.call 8 (.ex (.v 3) (.ex (.v 4) (.ex (.v 5) .nil)))) .nil)) (.cons .ne (.blt .repr (.cons (.call 11 (.ex (.v 3) (.ex (.v 4) (.ex (.v 5) .nil)))) .nil)) .nil)) (.cons (.ret (.k (.bool false))) .nil) .nil) (.cons (.set 7 (.ix (.lst (.cons (.k .none) (.cons (.tup .nil) (.cons (.tup (.cons (.v 3) .nil)) (.cons (.tup (.cons (.k (.int 0)) (.cons (.k (.int 0)) .nil))) (.cons (.lst (.cons (.k (.int 0)) .nil)) (.cons (.tup (.cons (.k (.bool true)) .nil)) (.cons (.k (.str "0")) (.cons (.tup (.cons (.tup (.cons (.k (.int 0)) .nil)) .nil)) (.cons (.tup (.cons (.k (.int 1)) (.cons (.k (.int 0)) .nil))) (.cons (.k (.int 0)) .nil))))))))))) (.call 0 (.src 1 (.ex (.k (.int 10)) .nil))))) (.cons (.set 8 (.call 0 (.src 1 (.ex (.bin .add (.blt .len (.cons (.v 4) .nil)) (.k (.int 1))) .nil)))) (.cons (.set 9 (.lst (.cons (.v 4) (.cons (.blt .list (.cons (.v 4) .nil)) (.cons (.bin .add (.v 4) (.tup (.cons (.v 7) .nil))) (.cons (.bin .add (.bin .add (.sl (.v 4) .abs (.v 8)) (.tup (.cons (.v 7) .nil))) (.sl (.v 4) (.v 8) .abs)) (.cons (.bin .add (.v 4) (.sl (.v 4) .abs (.k (.int 1)))) (.cons (.v 7) (.cons (.tup .nil) .nil))))))))) (.cons (.set 9 (.bin .add (.v 9) (.lst (.cons (.tup (.cons (.tup (.cons (.k (.int 0)) .nil)) (.cons (.tup (.cons (.k (.int 0)) .nil)) .nil))) (.cons (.rev (.v 4)) (.cons (.blt .tuple (.cons (.comp (.rev (.v 10)) (.n 10) .seq (.cons (.v 4) .nil) .nil) .nil)) (.cons (.tup (.cons (.tup (.cons (.bin .sub (.k (.int 0)) (.k (.int 1))) .nil)) .nil)) (.cons (.dnew true) .nil)))))))) (.cons (.for (.n 11) .seq (.cons (.v 9) .nil) w2_law) (.cons (.set 13 (.call 0 (.src 1 (.ex (.v 3) .nil)))) (.cons (.set 14 (.lst (.cons (.rev (.ix (.v 5) (.v 13))) (.cons (.sl (.ix (.v 5) (.v 13)) (.k (.int 1)) .abs) (.cons (.bin .add (.ix (.v 5) (.v 13)) (.sl (.ix (.v 5) (.v 13)) .abs (.k (.int 1)))) (.cons (.blt .list (.cons (.ix (.v 5) (.v 13)) .nil)) (.cons (.v 7) (.cons (.bin .add (.ix (.v 5) (.v 13)) (.tup (.cons (.v 7) .nil))) .nil)))))))) (.cons (.app 14 (.bin .add (.ix (.v 5) (.v 13)) (.tup (.cons (.k (.int 0)) .nil)))) (.cons (.set 9 (.lst (.cons (.v 5) (.cons (.blt .list (.cons (.v 5) .nil)) (.cons (.sl (.v 5) (.k (.int 1)) .abs) (.cons (.bin .add (.v 5) (.tup (.cons (.tup .nil) .nil))) (.cons (.v 7) .nil))))))) (.cons (.set 9 (.bin .add (.v 9) (.comp (.bin .add (.bin .add (.sl (.v 5) .abs (.v 13)) (.tup (.cons (.v 15) .nil))) (.sl (.v 5) (.bin .add (.v 13) (.k (.int 1))) .abs)) (.n 15) .seq (.cons (.v 14) .nil) .nil))) (.cons (.for (.n 11) .seq (.cons (.v 9) .nil) w1_law) (.cons (.set 16 (.blt .tuple (.cons (.comp (.v 17) (.n 17) .rng1 (.cons (.v 3) .nil) (.cons (.cmp (.call 0 (.src 1 (.ex (.k (.int 2)) .nil))) (.cons .eq (.k (.int 0)) .nil)) .nil)) .nil))) (.cons (.set 18 (.comp (.tup (.cons (.blt .len (.cons (.v 10) .nil)) (.cons (.blt .len (.cons (.comp (.v 19) (.n 19) .seq (.cons (.v 10) .nil) (.cons (.cmp (.v 19) (.cons .mem (.v 16) .nil)) .nil)) .nil)) .nil))) (.n 10) .seq (.cons (.v 4) .nil) .nil)) (.cons (.set 20 (.cmp (.comp (.v 21) (.n 21) .seq (.cons (.v 18) .nil) (.cons (.and (.cons (.cmp (.ix (.v 21) (.k (.int 0))) (.cons .ne (.k (.int 1)) .nil)) (.cons (.cmp (.v 21) (.cons .ne (.tup (.cons (.k (.int 2)) (.cons (.k (.int 1)) .nil))) .nil)) .nil))) .nil)) (.cons .eq (.lst .nil) .nil))) (.cons (.iff (.or (.cons (.cmp (.blt .repr (.cons (.call 9 (.ex (.v 4) (.ex (.v 16) .nil))) .nil)) (.cons .ne (.blt .repr (.cons (.v 20) .nil)) .nil)) (.cons (.cmp (.blt .repr (.cons (.lst (.cons (.v 4) (.cons (.v 5) .nil))) .nil)) (.cons .ne (.v 6) .nil)) .nil))) (.cons (.ret (.k (.bool false))) .nil) .nil) .nil)))))))))))))))))))
-- law slots 0:script 1:source 2:lap 3:m 4:clubs 5:lists 6:shown 7:odd 8:k 9:values 10:club 11:value 12:held 13:i 14:rows 15:row 16:side 17:one 18:many 19:x 20:due 21:pair
def x_law : Sxs := (.cons (.for (.n 2) .rng1 (.cons (.k (.int 5)) .nil) w3_law) (.cons (.ret (.k (.bool true))) .nil))
/-! ### the check -/
theorem s_1 : FnScope ["value", "most"] ["value", "most"] (defScope (topS 1)) := ⟨rfl, rfl, rfl, by decide +kernel, rfl, by decide +kernel, by decide +kernel⟩
theorem c_is_number_under : chSs gls (tn.take 2) (tn.take 2).length ["value", "most"] x_is_number_under (defScope (topS 1)) (defBody (topS 1)) = true := by decide +kernel
theorem s_2 : FnScope ["m", "value", "one", "k"] ["m", "value"] (defScope (topS 2)) := ⟨rfl, rfl, rfl, by decide +kernel, rfl, by decide +kernel, by decide +kernel⟩
theorem c_is_club : chSs gls (tn.take 3) (tn.take 3).length ["m", "value", "one", "k"] x_is_club (defScope (topS 2)) (defBody (topS 2)) = true := by decide +kernel
theorem s_3 : FnScope ["m", "value", "club"] ["m", "value"] (defScope (topS 3)) := ⟨rfl, rfl, rfl, by decide +kernel, rfl, by decide +kernel, by decide +kernel⟩
theorem c_is_clubs : chSs gls (tn.take 4) (tn.take 4).length ["m", "value", "club"] x_is_clubs (defScope (topS 3)) (defBody (topS 3)) = true := by decide +kernel
theorem s_4 : FnScope ["m", "clubs", "value", "row", "i", "j", "club"] ["m", "clubs", "value"] (defScope (topS 4)) := ⟨rfl, rfl, rfl, by decide +kernel, rfl, by decide +kernel, by decide +kernel⟩
theorem c_is_lists : chSs gls (tn.take 5) (tn.take 5).length ["m", "clubs", "value", "row", "i", "j", "club"] x_is_lists (defScope (topS 4)) (defBody (topS 4)) = true := by decide +kernel
theorem s_5 : FnScope ["lists", "club", "j", "i", "row"] ["lists", "club", "j", "i"] (defScope (topS 5)) := ⟨rfl, rfl, rfl, by decide +kernel, rfl, by decide +kernel, by decide +kernel⟩
theorem c_club_rank : chSs gls (tn.take 6) (tn.take 6).length ["lists", "club", "j", "i", "row"] x_club_rank (defScope (topS 5)) (defBody (topS 5)) = true := by decide +kernel
theorem s_6 : FnScope ["m", "found", "k"] ["m"] (defScope (topS 6)) := ⟨rfl, rfl, rfl, by decide +kernel, rfl, by decide +kernel, by decide +kernel⟩
theorem c_great_number : chSs gls (tn.take 7) (tn.take 7).length ["m", "found", "k"] x_great_number (defScope (topS 6)) (defBody (topS 6)) = true := by decide +kernel
theorem s_7 : FnScope ["m", "clubs", "lists", "powers", "k", "columns", "j", "club", "uses", "i"] ["m", "clubs", "lists"] (defScope (topS 7)) := ⟨rfl, rfl, rfl, by decide +kernel, rfl, by decide +kernel, by decide +kernel⟩
theorem c_club_table : chSs gls (tn.take 8) (tn.take 8).length ["m", "clubs", "lists", "powers", "k", "columns", "j", "club", "uses", "i"] x_club_table (defScope (topS 7)) (defBody (topS 7)) = true := by decide +kernel
theorem s_8 : FnScope ["clubs", "side", "club"] ["clubs", "side"] (defScope (topS 8)) := ⟨rfl, rfl, rfl, by decide +kernel, rfl, by decide +kernel, by decide +kernel⟩
theorem c_is_two_sided : chSs gls (tn.take 9) (tn.take 9).length ["clubs", "side", "club"] x_is_two_sided (defScope (topS 8)) (defBody (topS 8)) = true := by decide +kernel
theorem s_13 : FnScope ["source", "m", "most", "every", "i", "club", "clubs", "lists", "j", "row"] ["source", "m", "most"] (defScope (topS 13)) := ⟨rfl, rfl, rfl, by decide +kernel, rfl, by decide +kernel, by decide +kernel⟩
theorem c_law_draw : chSs gls (tn.take 10) (tn.take 10).length ["source", "m", "most", "every", "i", "club", "clubs", "lists", "j", "row"] x_law_draw (defScope (topS 13)) (defBody (topS 13)) = true := by decide +kernel
theorem s_14 : FnScope ["m", "clubs", "lists", "great", "k", "powers", "columns", "j", "club", "ranks", "i", "row"] ["m", "clubs", "lists"] (defScope (topS 14)) := ⟨rfl, rfl, rfl, by decide +kernel, rfl, by decide +kernel, by decide +kernel⟩
theorem c_law_table : chSs gls (tn.take 11) (tn.take 11).length ["m", "clubs", "lists", "great", "k", "powers", "columns", "j", "club", "ranks", "i", "row"] x_law_table (defScope (topS 14)) (defBody (topS 14)) = true := by decide +kernel
theorem s_15 : FnScope ["value", "most"] ["value", "most"] (defScope (topS 15)) := ⟨rfl, rfl, rfl, by decide +kernel, rfl, by decide +kernel, by decide +kernel⟩
theorem c_law_is_number : chSs gls (tn.take 12) (tn.take 12).length ["value", "most"] x_law_is_number (defScope (topS 15)) (defBody (topS 15)) = true := by decide +kernel
theorem s_16 : FnScope ["m", "value", "club", "k", "i"] ["m", "value"] (defScope (topS 16)) := ⟨rfl, rfl, rfl, by decide +kernel, rfl, by decide +kernel, by decide +kernel⟩
theorem c_law_is_clubs : chSs gls (tn.take 13) (tn.take 13).length ["m", "value", "club", "k", "i"] x_law_is_clubs (defScope (topS 16)) (defBody (topS 16)) = true := by decide +kernel
theorem s_17 : FnScope ["m", "clubs", "value", "i", "row", "j", "club"] ["m", "clubs", "value"] (defScope (topS 17)) := ⟨rfl, rfl, rfl, by decide +kernel, rfl, by decide +kernel, by decide +kernel⟩
theorem c_law_is_lists : chSs gls (tn.take 14) (tn.take 14).length ["m", "clubs", "value", "i", "row", "j", "club"] x_law_is_lists (defScope (topS 17)) (defBody (topS 17)) = true := by decide +kernel
theorem s_18 : FnScope ["script", "source", "lap", "m", "clubs", "lists", "shown", "odd", "k", "values", "club", "value", "held", "i", "rows", "row", "side", "one", "many", "x", "due", "pair"] ["script"] (defScope (topS 18)) := ⟨rfl, rfl, rfl, by decide +kernel, rfl, by decide +kernel, by decide +kernel⟩
theorem c_law : chSs gls (tn.take 15) (tn.take 15).length ["script", "source", "lap", "m", "clubs", "lists", "shown", "odd", "k", "values", "club", "value", "held", "i", "rows", "row", "side", "one", "many", "x", "due", "pair"] x_law (defScope (topS 18)) (defBody (topS 18)).tail = true := by decide +kernel
end DT
-- INFO [('def', 1, 'is_number_under', ['value', 'most'], 2, 2), ('def', 2, 'is_club', ['m', 'value'], 4, 3), ('def', 3, 'is_clubs', ['m', 'value'], 3, 4), ('def', 4, 'is_lists', ['m', 'clubs', 'value'], 7, 5), ('def', 5, 'club_rank', ['lists', 'club', 'j', 'i'], 5, 6), ('def', 6, 'great_number', ['m'], 3, 7), ('def', 7, 'club_table', ['m', 'clubs', 'lists'], 10, 8), ('def', 8, 'is_two_sided', ['clubs', 'side'], 3, 9), ('def', 13, '_law_draw', ['source', 'm', 'most'], 10, 10), ('def', 14, '_law_table', ['m', 'clubs', 'lists'], 12, 11), ('def', 15, '_law_is_number', ['value', 'most'], 2, 12), ('def', 16, '_law_is_clubs', ['m', 'value'], 5, 13), ('def', 17, '_law_is_lists', ['m', 'clubs', 'value'], 7, 14), ('law', 18, 'law', ['script'], 22, None)]

/-! What the defs give. -/
namespace DT
open PySem
theorem sp_is_number_under : SpNumU f_is_number_under := numU_sp
theorem sp_is_club : SpClub f_is_club := club_sp ⟨_, rfl, sp_is_number_under⟩
theorem sp_is_clubs : SpClubs f_is_clubs := clubs_sp ⟨_, rfl, sp_is_club⟩
theorem sp_is_lists : SpLists f_is_lists := lists_sp ⟨_, rfl, sp_is_number_under⟩
theorem sp_club_rank : SpCRank f_club_rank := crank_sp
theorem sp_great_number : SpGreat f_great_number := great_sp
theorem sp_club_table : SpCTab f_club_table := ctab_sp ⟨_, rfl, sp_club_rank⟩ ⟨_, rfl, sp_great_number⟩
theorem sp_is_two_sided : SpTwo f_is_two_sided := two_sp
theorem sp_law_draw : SpDrawC f_law_draw := drawC_sp rfl rfl
theorem sp_law_table : SpCTab f_law_table := ltab_sp
theorem sp_law_is_number : SpNumU f_law_is_number := lnumU_sp
theorem sp_law_is_clubs : SpClubs f_law_is_clubs := lclubs_sp ⟨_, rfl, sp_law_is_number⟩
theorem sp_law_is_lists : SpLists f_law_is_lists := llists_sp ⟨_, rfl, sp_law_is_number⟩
end DT

/-! k86: values asked. -/
namespace DT
open PySem
theorem e_filX {F : List Fn} {ρ : Rho} {g : PState} {i : Nat} {ik : ItK} {ss : Exs} {c : Ex} {xs : List D} {l : List Nat} (h1 : evs F ss ρ g = some (xs, g)) (h2 : itO ik xs = some (l.map natD)) (hv : ∀ a, getV (inC ss ρ i (natD a)) i = some (natD a)) (hc : ∀ a g, ∃ b g', ev F c (inC ss ρ i (natD a)) g = some (.bool b, g')) : ∃ (ys : List Nat) (g' : PState), ev F (.comp (.v i) (.n i) ik ss (.cons c .nil)) ρ g = some (.list (ys.map natD), g') ∧ ys.length ≤ l.length ∧ ∀ y, y ∈ ys → y ∈ l := by
  have key : ∀ (l : List Nat) (g : PState), ∃ (ys : List Nat) (g' : PState), compL (fun d => bnd (ofO (bindT (.n i) d (wipeR (freeze (escs ss) ρ) (slotsT (.n i))))) fun ρ' => bnd (evI F (.cons c .nil) ρ') fun b => if b = true then bnd (ev F (.v i) ρ') fun y => ret (some y) else ret none) (l.map natD) g = some (ys.map natD, g') ∧ ys.length ≤ l.length ∧ ∀ y, y ∈ ys → y ∈ l := fun l => by
    induction l with
    | nil => exact fun g => ⟨[], g, rfl, Nat.le_refl _, fun _ h => h⟩
    | cons a l ih =>
      intro g
      obtain ⟨b, g1, e1⟩ := hc a g
      obtain ⟨ys, g2, e2, h, hy⟩ := ih g1
      cases b with
      | false =>
        refine ⟨ys, g2, ?_, Nat.le_succ_of_le h, fun y hh => List.mem_cons_of_mem _ (hy y hh)⟩
        rw [List.map_cons]
        unfold compL
        have q : (bnd (ofO (bindT (.n i) (natD a) (wipeR (freeze (escs ss) ρ) (slotsT (.n i))))) fun ρ' => bnd (evI F (.cons c .nil) ρ') fun b => if b = true then bnd (ev F (.v i) ρ') fun y => ret (some y) else ret none) g = some (none, g1) := by
          show bnd (evI F (.cons c .nil) (inC ss ρ i (natD a))) _ g = _
          rw [bnd_go (i_one e1)]
          rfl
        rw [bnd_go q, bnd_go e2]
        rfl
      | true =>
        refine ⟨a :: ys, g2, ?_, Nat.succ_le_succ h, fun y hh => ?_⟩
        · rw [List.map_cons]
          unfold compL
          have q : (bnd (ofO (bindT (.n i) (natD a) (wipeR (freeze (escs ss) ρ) (slotsT (.n i))))) fun ρ' => bnd (evI F (.cons c .nil) ρ') fun b => if b = true then bnd (ev F (.v i) ρ') fun y => ret (some y) else ret none) g = some (some (natD a), g1) := by
            show bnd (evI F (.cons c .nil) (inC ss ρ i (natD a))) _ g = _
            rw [bnd_go (i_one e1), if_pos rfl]
            show bnd (ev F (.v i) (inC ss ρ i (natD a))) _ _ = _
            rw [bnd_go (e_v (hv a))]
            rfl
          rw [bnd_go q, bnd_go e2]
          rfl
        · rcases List.mem_cons.mp hh with rfl | hh
          · exact List.mem_cons_self
          · exact List.mem_cons_of_mem _ (hy y hh)
  obtain ⟨ys, g', e, h⟩ := key l g
  refine ⟨ys, g', ?_, h⟩
  rw [ev, bnd_go h1, h2, bnd_ofO]
  show bnd (compL _ (l.map natD)) _ g = _
  rw [bnd_go e]
  rfl
def GE (x : D) : Prop := Fz 5000 4 x ∧ ∀ ds, x = .tuple ds → ds.length < 60
structure KV (v : D) : Prop where
  c : CV v
  r : reprO v = some (.str v.shown)
theorem GE.tv {x : D} (h : GE x) : TV x := by
  cases x with
  | tuple ds => exact .inr ⟨ds, rfl, h.1.shaped (by decide), h.2 ds rfl⟩
  | _ => exact .inl rfl
theorem kvN {v : D} (h : tyOf v .tuple = false) (z : Fz 300000 10 v) : KV v := ⟨.inl h, z.repr (by decide) (by decide)⟩
theorem kvT {vs : List D} (n : vs.length ≤ 50) (h : ∀ x, x ∈ vs → GE x) : KV (.tuple vs) := by
  have z : Fz (50 * 5001) 5 (.tuple vs) := Fz.tup (w := 5000) (k := 4) 50 n fun x hx => (h x hx).1
  exact ⟨.inr ⟨vs, rfl, z.shaped (by decide), by omega, fun x hx => (h x hx).tv⟩, z.repr (by decide) (by decide)⟩
theorem kvL {vs : List D} (n : vs.length ≤ 50) (h : ∀ x, x ∈ vs → GE x) : KV (.list vs) := by
  have z : Fz (50 * 5001) 5 (.list vs) := Fz.lst (w := 5000) (k := 4) 50 n fun x hx => (h x hx).1
  exact kvN rfl z.any
theorem ge_lot {l : List Nat} (n : l.length ≤ 20) (h : ∀ x, x ∈ l → x < 1000) : GE (lotD l) := by
  refine ⟨(Fz.tupM (f := natD) (w := 40) (k := 0) 20 n fun x hx => Fz.int (i := (x : Int)) (by have := h x hx; omega)).any, fun ds e => ?_⟩
  unfold lotD at e
  injection e with e
  rw [← e, List.length_map]
  omega
theorem ge_tup {ds : List D} (n : ds.length ≤ 20) (h : ∀ x, x ∈ ds → Fz 200 3 x) : GE (.tuple ds) := by
  refine ⟨(Fz.tup (w := 200) (k := 3) 20 n h).any, fun es e => ?_⟩
  injection e with e
  rw [← e]
  omega
theorem ge_lst {ds : List D} (n : ds.length ≤ 20) (h : ∀ x, x ∈ ds → Fz 200 3 x) : GE (.list ds) := ⟨(Fz.lst (w := 200) (k := 3) 20 n h).any, fun es e => by cases e⟩
def oddC (m : Nat) : List D := [.none, .tuple [], .tuple [natD m], .tuple [.int 0, .int 0], .list [.int 0], .tuple [.bool true], .str "0", .tuple [.tuple [.int 0]], .tuple [.int 1, .int 0], .int 0]
theorem odd_fz {m : Nat} (hm : m ≤ 4) {o : D} (h : o ∈ oddC m) : Fz 200 3 o ∧ KV o ∧ GE o := by
  have f0 : Fz 40 0 (.int 0) := Fz.int (by decide)
  have intz : ∀ {l : List Int}, l.length ≤ 4 → (∀ x, x ∈ l → x.natAbs < 1000) → Fz 200 3 (tupI l) ∧ KV (tupI l) ∧ GE (tupI l) := fun {l} n hx => by
    have z : ∀ x, x ∈ l.map intD → Fz 40 0 x := fun x hx' => by
      obtain ⟨i, hi, rfl⟩ := List.mem_map.mp hx'
      exact Fz.int (by have := hx i hi; omega)
    have zz : Fz (4 * 41) 1 (tupI l) := Fz.tup 4 (by rw [List.length_map]; exact n) z
    exact ⟨zz.any, kvT (by rw [List.length_map]; omega) fun x hx' => ⟨(z x hx').any, fun ds e => by
      obtain ⟨i, hi, rfl⟩ := List.mem_map.mp hx'
      cases e⟩, ⟨zz.any, fun ds e => by
      injection e with e
      rw [← e, List.length_map]
      omega⟩⟩
  have atom : ∀ {x : D}, tyOf x .tuple = false → Fz 200 3 x → Fz 200 3 x ∧ KV x ∧ GE x := fun {x} t z => ⟨z, kvN t z.any, ⟨z.any, fun ds e => by rw [e] at t; cases t⟩⟩
  unfold oddC at h
  simp only [List.mem_cons, List.not_mem_nil, or_false] at h
  rcases h with rfl | rfl | rfl | rfl | rfl | rfl | rfl | rfl | rfl | rfl
  · exact atom rfl ⟨by decide +kernel, by decide +kernel, by decide +kernel, by decide +kernel, by decide +kernel⟩
  · exact intz (l := []) (by decide) (fun x hx => by cases hx)
  · exact intz (l := [(m : Int)]) (by show 1 ≤ 4; decide) (fun x hx => by
      obtain rfl := List.mem_singleton.mp hx
      omega)
  · exact intz (l := [0, 0]) (by decide) (by decide)
  · exact atom rfl ⟨by decide +kernel, by decide +kernel, by decide +kernel, by decide +kernel, by decide +kernel⟩
  · have z : Fz 200 3 (.bool true) := ⟨by decide +kernel, by decide +kernel, by decide +kernel, by decide +kernel, by decide +kernel⟩
    have zt : Fz 200 3 (.tuple [.bool true]) := ⟨by decide +kernel, by decide +kernel, by decide +kernel, by decide +kernel, by decide +kernel⟩
    exact ⟨zt, kvT (by decide) (fun x hx => by
      obtain rfl := List.mem_singleton.mp hx
      exact ⟨z.any, fun ds e => by cases e⟩), ⟨zt.any, fun ds e => by injection e with e; rw [← e]; decide⟩⟩
  · exact atom rfl ⟨by decide +kernel, by decide +kernel, by decide +kernel, by decide +kernel, by decide +kernel⟩
  · have zt : Fz 200 3 (.tuple [.tuple [.int 0]]) := ⟨by decide +kernel, by decide +kernel, by decide +kernel, by decide +kernel, by decide +kernel⟩
    exact ⟨zt, kvT (by decide) (fun x hx => by
      obtain rfl := List.mem_singleton.mp hx
      exact (intz (l := [0]) (by decide) (by decide)).2.2), ⟨zt.any, fun ds e => by injection e with e; rw [← e]; decide⟩⟩
  · exact intz (l := [1, 0]) (by decide) (by decide)
  · exact atom rfl f0.any
end DT

/-! The law of k86. -/
namespace DT
open PySem
abbrev RV (o2 o3 o4 o5 o6 o7 o8 o9 o10 o11 o12 o13 o14 o15 o16 o17 o18 o19 o20 o21 : Option Sl) : Rho := [none, some .src, o2, o3, o4, o5, o6, o7, o8, o9, o10, o11, o12, o13, o14, o15, o16, o17, o18, o19, o20, o21]
theorem cutC_from {α : Type} (xs : List α) (k : Nat) : cutL xs (some (k : Int)) none = xs.drop k := by
  unfold cutL
  rw [HT.sIx_nat, HT.sIx_none]
  by_cases h : k ≤ xs.length
  · rw [Nat.min_eq_left h]
    exact List.take_of_length_le (by rw [List.length_drop]; exact Nat.le_refl _)
  · rw [Nat.min_eq_right (by omega), List.drop_of_length_le (Nat.le_refl _), List.drop_of_length_le (by omega), List.take_nil]
theorem sT_to (xs : List D) (k : Nat) : slO (.tuple xs) none (some (k : Int)) = some (.tuple (xs.take k)) := by
  show some (PyData.tuple (cutL xs none (some (k : Int)))) = _
  rw [cutC]
theorem sT_from (xs : List D) (k : Nat) : slO (.tuple xs) (some (k : Int)) none = some (.tuple (xs.drop k)) := by
  show some (PyData.tuple (cutL xs (some (k : Int)) none)) = _
  rw [cutC_from]
theorem same_str {F : List Fn} {ρ : Rho} {g : PState} {a b : Ex} {s : Str} (h1 : ev F a ρ g = some (.str s, g)) (h2 : ev F b ρ g = some (.str s, g)) : ev F (.cmp a (.cons .ne b .nil)) ρ g = some (.bool false, g) := e_cmp h1 h2 (by
  show Option.map not (some (decide (s = s))) = _
  rw [decide_eq_true rfl]
  rfl)
theorem cl_loop {m : Nat} {o2 o4 o5 o6 o7 o8 o9 o10 o13 o14 o15 o16 o17 o18 o19 o20 o21 : Option Sl} {g : PState} : ∀ (vs : List D), (∀ v, v ∈ vs → KV v) → ∀ (o11 o12 : Option Sl), ∃ o11' o12', forL (fun ρ x => bnd (ofO (bindT (.n 11) x ρ)) fun ρ' => exs t15 w2_law ρ') vs (RV o2 (dF (natD m)) o4 o5 o6 o7 o8 o9 o10 o11 o12 o13 o14 o15 o16 o17 o18 o19 o20 o21) g = some ((.nx, RV o2 (dF (natD m)) o4 o5 o6 o7 o8 o9 o10 o11' o12' o13 o14 o15 o16 o17 o18 o19 o20 o21), g)
  | [], _, o11, o12 => ⟨o11, o12, rfl⟩
  | v :: vs, h, o11, o12 => by
    obtain ⟨cv, rv⟩ := h v List.mem_cons_self
    obtain ⟨o11', o12', e⟩ := cl_loop (m := m) (o2 := o2) (o4 := o4) (o5 := o5) (o6 := o6) (o7 := o7) (o8 := o8) (o9 := o9) (o10 := o10) (o13 := o13) (o14 := o14) (o15 := o15) (o16 := o16) (o17 := o17) (o18 := o18) (o19 := o19) (o20 := o20) (o21 := o21) (g := g) vs (fun x hx => h x (List.mem_cons_of_mem _ hx)) (dF v) (dT (.str v.shown))
    let R := fun (a11 a12 : Option Sl) => RV o2 (dF (natD m)) o4 o5 o6 o7 o8 o9 o10 a11 a12 o13 o14 o15 o16 o17 o18 o19 o20 o21
    have s1 : ex t15 (.set 12 (.blt .repr (.cons (.v 11) .nil))) (R (dF v) o12) g = some ((.nx, R (dF v) (dT (.str v.shown))), g) := x_set (e_blt (e_cons (e_v rfl) e_nil) rv) rfl
    exact ⟨o11', o12', f_step (b_go (ρ1 := R (dF v) o12) rfl (x_cons s1 (x_no (e_or (o_cons (i := false) (j := false) (e_rne (Fz.bool (clubsQ m v)) (by decide) (by decide) (e_call (r_ex (e_v rfl) (r_ex (e_v rfl) r_nil)) rfl (sp_is_clubs m v cv g)) (e_call (r_ex (e_v rfl) (r_ex (e_v rfl) r_nil)) rfl (sp_law_is_clubs m v cv g))) fun _ => o_one (same_str (e_blt (e_cons (e_v rfl) e_nil) rv) (e_v rfl)))) x_nil))) e⟩
theorem li_loop {m : Nat} {cs : List (List Nat)} (hcs : cs.length < 60) {o2 o5 o6 o7 o8 o9 o10 o13 o14 o15 o16 o17 o18 o19 o20 o21 : Option Sl} {g : PState} : ∀ (vs : List D), (∀ v, v ∈ vs → KV v) → ∀ (o11 o12 : Option Sl), ∃ o11' o12', forL (fun ρ x => bnd (ofO (bindT (.n 11) x ρ)) fun ρ' => exs t15 w1_law ρ') vs (RV o2 (dF (natD m)) (dF (csD cs)) o5 o6 o7 o8 o9 o10 o11 o12 o13 o14 o15 o16 o17 o18 o19 o20 o21) g = some ((.nx, RV o2 (dF (natD m)) (dF (csD cs)) o5 o6 o7 o8 o9 o10 o11' o12' o13 o14 o15 o16 o17 o18 o19 o20 o21), g)
  | [], _, o11, o12 => ⟨o11, o12, rfl⟩
  | v :: vs, h, o11, o12 => by
    obtain ⟨cv, rv⟩ := h v List.mem_cons_self
    obtain ⟨o11', o12', e⟩ := li_loop (m := m) hcs (o2 := o2) (o5 := o5) (o6 := o6) (o7 := o7) (o8 := o8) (o9 := o9) (o10 := o10) (o13 := o13) (o14 := o14) (o15 := o15) (o16 := o16) (o17 := o17) (o18 := o18) (o19 := o19) (o20 := o20) (o21 := o21) (g := g) vs (fun x hx => h x (List.mem_cons_of_mem _ hx)) (dF v) (dT (.str v.shown))
    let R := fun (a11 a12 : Option Sl) => RV o2 (dF (natD m)) (dF (csD cs)) o5 o6 o7 o8 o9 o10 a11 a12 o13 o14 o15 o16 o17 o18 o19 o20 o21
    have s1 : ex t15 (.set 12 (.blt .repr (.cons (.v 11) .nil))) (R (dF v) o12) g = some ((.nx, R (dF v) (dT (.str v.shown))), g) := x_set (e_blt (e_cons (e_v rfl) e_nil) rv) rfl
    exact ⟨o11', o12', f_step (b_go (ρ1 := R (dF v) o12) rfl (x_cons s1 (x_no (e_or (o_cons (i := false) (j := false) (e_rne (Fz.bool (listsQ m cs v)) (by decide) (by decide) (e_call (r_ex (e_v rfl) (r_ex (e_v rfl) (r_ex (e_v rfl) r_nil))) rfl (sp_is_lists m cs v hcs cv g)) (e_call (r_ex (e_v rfl) (r_ex (e_v rfl) (r_ex (e_v rfl) r_nil))) rfl (sp_law_is_lists m cs v hcs cv g))) fun _ => o_one (same_str (e_blt (e_cons (e_v rfl) e_nil) rv) (e_v rfl)))) x_nil))) e⟩
def V1 (K : List D) (o : D) (k : Nat) : List D := [.tuple K, .list K, .tuple (K ++ [o]), .tuple (K.take k ++ [o] ++ K.drop k), .tuple (K ++ K.take 1), o, .tuple []]
def V2 (K : List D) (cs : List (List Nat)) : List D := [.tuple [.tuple [.int 0], .tuple [.int 0]], .tuple K.reverse, .tuple (cs.map fun c => lotD c.reverse), .tuple [.tuple [.int (-1)]], .dict []]
def rws (rd : List D) (o : D) : List D := [.tuple rd.reverse, .tuple (rd.drop 1), .tuple (rd ++ rd.take 1), .list rd, o, .tuple (rd ++ [o])]
def V3 (L : List D) (o : D) : List D := [.tuple L, .list L, .tuple (L.drop 1), .tuple (L ++ [.tuple []]), o]
def V4 (L : List D) (i : Nat) (rs : List D) : List D := rs.map fun r => .tuple (L.take i ++ [r] ++ L.drop (i + 1))
theorem V12_ok {m : Nat} (hm : m ≤ 4) {cs : List (List Nat)} (c8 : cs.length ≤ 8) (hc : ∀ c, c ∈ cs → c.length ≤ 4 ∧ ∀ x, x ∈ c → x < 4) {o : D} (ho : o ∈ oddC m) {k : Nat} : ∀ v, v ∈ V1 (cs.map lotD) o k ++ V2 (cs.map lotD) cs → KV v := fun v hv => by
  obtain ⟨z1, z2, z3⟩ := odd_fz hm ho
  have ge : ∀ x, x ∈ cs.map lotD → GE x := fun x hx => by
    obtain ⟨c, h, rfl⟩ := List.mem_map.mp hx
    obtain ⟨a, b⟩ := hc c h
    exact ge_lot (by omega) fun y hy => by have := b y hy; omega
  have kl : (cs.map lotD).length = cs.length := List.length_map ..
  have g0 : GE (.tuple [.int 0]) := ge_tup (by decide) fun x hx => by
    obtain rfl := List.mem_singleton.mp hx
    exact (Fz.int (by decide)).any
  have g1 : GE (.tuple [.int (-1)]) := ge_tup (by decide) fun x hx => by
    obtain rfl := List.mem_singleton.mp hx
    exact (Fz.int (by decide)).any
  generalize cs.map lotD = K at *
  rcases List.mem_append.mp hv with hv | hv
  · unfold V1 at hv
    simp only [List.mem_cons, List.not_mem_nil, or_false] at hv
    rcases hv with rfl | rfl | rfl | rfl | rfl | rfl | rfl
    · exact kvT (by omega) ge
    · exact kvL (by omega) ge
    · refine kvT (by rw [List.length_append, List.length_singleton]; omega) fun x hx => ?_
      rcases List.mem_append.mp hx with hx | hx
      · exact ge x hx
      · obtain rfl := List.mem_singleton.mp hx
        exact z3
    · refine kvT (by simp only [List.length_append, List.length_take, List.length_drop, List.length_singleton]; omega) fun x hx => ?_
      simp only [List.mem_append, List.mem_singleton] at hx
      rcases hx with (hx | rfl) | hx
      · exact ge x (List.mem_of_mem_take hx)
      · exact z3
      · exact ge x (List.mem_of_mem_drop hx)
    · refine kvT (by simp only [List.length_append, List.length_take]; omega) fun x hx => ?_
      rcases List.mem_append.mp hx with hx | hx
      · exact ge x hx
      · exact ge x (List.mem_of_mem_take hx)
    · exact z2
    · exact kvT (by decide) fun x hx => by cases hx
  · unfold V2 at hv
    simp only [List.mem_cons, List.not_mem_nil, or_false] at hv
    rcases hv with rfl | rfl | rfl | rfl | rfl
    · refine kvT (by decide) fun x hx => ?_
      simp at hx
      rcases hx with rfl
      exact g0
    · exact kvT (by rw [List.length_reverse]; omega) fun x hx => ge x (List.mem_reverse.mp hx)
    · refine kvT (by rw [List.length_map]; omega) fun x hx => ?_
      obtain ⟨c, h, rfl⟩ := List.mem_map.mp hx
      obtain ⟨a, b⟩ := hc c h
      exact ge_lot (by rw [List.length_reverse]; omega) fun y hy => by have := b y (List.mem_reverse.mp hy); omega
    · refine kvT (by decide) fun x hx => ?_
      obtain rfl := List.mem_singleton.mp hx
      exact g1
    · refine ⟨.inl rfl, ?_⟩
      unfold reprO
      exact if_pos (by decide +kernel)
theorem V34_ok {m : Nat} (hm : m ≤ 4) {ls : List (List Nat)} (l8 : ls.length ≤ 8) (hl : ∀ r, r ∈ ls → r.length ≤ 8 ∧ ∀ x, x ∈ r → x < 100) {row : List Nat} (hr : row.length ≤ 8 ∧ ∀ x, x ∈ row → x < 100) {o : D} (ho : o ∈ oddC m) {i : Nat} : ∀ v, v ∈ V3 (ls.map lotD) o ++ V4 (ls.map lotD) i (rws (row.map natD) o ++ [.tuple (row.map natD ++ [.int 0])]) → KV v := fun v hv => by
  obtain ⟨z1, z2, z3⟩ := odd_fz hm ho
  have ge : ∀ x, x ∈ ls.map lotD → GE x := fun x hx => by
    obtain ⟨c, h, rfl⟩ := List.mem_map.mp hx
    obtain ⟨a, b⟩ := hl c h
    exact ge_lot (by omega) fun y hy => by have := b y hy; omega
  have kl : (ls.map lotD).length = ls.length := List.length_map ..
  have fr : ∀ x, x ∈ row.map natD → Fz 200 3 x := fun x hx => by
    obtain ⟨c, h, rfl⟩ := List.mem_map.mp hx
    exact (Fz.int (i := (c : Int)) (by have := hr.2 c h; omega)).any
  have rl : (row.map natD).length = row.length := List.length_map ..
  have r8 := hr.1
  generalize ls.map lotD = K at *
  generalize row.map natD = rd at *
  have gr : ∀ x, x ∈ rws rd o ++ [.tuple (rd ++ [.int 0])] → GE x := fun x hx => by
    unfold rws at hx
    simp only [List.mem_append, List.mem_cons, List.not_mem_nil, or_false] at hx
    rcases hx with (rfl | rfl | rfl | rfl | rfl | rfl) | rfl
    · exact ge_tup (by rw [List.length_reverse]; omega) fun x hx => fr x (List.mem_reverse.mp hx)
    · exact ge_tup (by rw [List.length_drop]; omega) fun x hx => fr x (List.mem_of_mem_drop hx)
    · refine ge_tup (by simp only [List.length_append, List.length_take]; omega) fun x hx => ?_
      rcases List.mem_append.mp hx with hx | hx
      · exact fr x hx
      · exact fr x (List.mem_of_mem_take hx)
    · exact ge_lst (by omega) fr
    · exact z3
    · refine ge_tup (by rw [List.length_append, List.length_singleton]; omega) fun x hx => ?_
      rcases List.mem_append.mp hx with hx | hx
      · exact fr x hx
      · obtain rfl := List.mem_singleton.mp hx
        exact z1
    · refine ge_tup (by rw [List.length_append, List.length_singleton]; omega) fun x hx => ?_
      rcases List.mem_append.mp hx with hx | hx
      · exact fr x hx
      · obtain rfl := List.mem_singleton.mp hx
        exact (Fz.int (by decide)).any
  rcases List.mem_append.mp hv with hv | hv
  · unfold V3 at hv
    simp only [List.mem_cons, List.not_mem_nil, or_false] at hv
    rcases hv with rfl | rfl | rfl | rfl | rfl
    · exact kvT (by omega) ge
    · exact kvL (by omega) ge
    · exact kvT (by rw [List.length_drop]; omega) fun x hx => ge x (List.mem_of_mem_drop hx)
    · refine kvT (by rw [List.length_append, List.length_singleton]; omega) fun x hx => ?_
      rcases List.mem_append.mp hx with hx | hx
      · exact ge x hx
      · obtain rfl := List.mem_singleton.mp hx
        exact ge_tup (by decide) fun x hx => by cases hx
    · exact z2
  · obtain ⟨r, hr', rfl⟩ := List.mem_map.mp hv
    refine kvT (by simp only [List.length_append, List.length_take, List.length_drop, List.length_singleton]; omega) fun x hx => ?_
    simp only [List.mem_append, List.mem_singleton] at hx
    rcases hx with (hx | rfl) | hx
    · exact ge x (List.mem_of_mem_take hx)
    · exact gr _ hr'
    · exact ge x (List.mem_of_mem_drop hx)
theorem fz_tab {m : Nat} {cs ls : List (List Nat)} (T : TOk m cs ls) : Fz 20000 5 (tabC m cs ls) := by
  have m4 := T.m4
  have c8 := T.c8
  have tn : ∀ (f : Nat → Nat), (∀ i, i < m → f i < 10 ^ 12) → Fz 164 1 (.tuple ((List.range m).map fun i => natD (f i))) := fun f hf => (Fz.tupM (f := fun i => natD (f i)) (w := 40) (k := 0) 4 (by rw [List.length_range]; exact m4) fun i hi => Fz.int (i := (f i : Int)) (by have := hf i (List.mem_range.mp hi); omega))
  suffices z : Fz (2 * 9001) 5 (tabC m cs ls) from z.any
  refine Fz.tup (w := 9000) (k := 4) 2 (Nat.le_refl 2) fun x hx => ?_
  simp at hx
  rcases hx with rfl | rfl
  · exact (tn (fun i => (grt m + 1) ^ m + (grt m + 1) ^ i) fun i hi => by
      have a := pw_le m4 m4
      have b := pw_le m4 (show i ≤ 4 by omega)
      show (grt m + 1) ^ m + (grt m + 1) ^ i < _
      omega).any
  · have col : ∀ p, p ∈ cs.zipIdx → Fz 400 3 (colD m ls p) := fun p hp => by
      suffices z : Fz (2 * 165) 2 (colD m ls p) from z.any
      refine Fz.tup (w := 164) (k := 1) 2 (Nat.le_refl 2) fun x hx => ?_
      simp at hx
      rcases hx with rfl | rfl
      · exact tn (fun i => if i ∈ p.1 then 1 else 0) fun i _ => by
          show (if i ∈ p.1 then 1 else 0) < _
          split <;> decide
      · exact tn (fun i => rkC (ls.getD i []) i p.1 p.2) fun i hi => by
          have r8 := T.r8 (ls.getD i []) (List.mem_of_getElem? (row_at T hi))
          obtain ⟨c, j⟩ := p
          have := List.mem_zipIdx hp
          show rkC (ls.getD i []) i c j < _
          unfold rkC
          split <;> omega
    exact (Fz.tupM (f := colD m ls) (w := 400) (k := 3) 8 (by rw [List.length_zipIdx]; exact c8) col).any
theorem due_eq (cs : List (List Nat)) (sd : List Nat) : decide (((cs.map fun c => (c.length, (c.filter fun x => decide (x ∈ sd)).length)).filter fun p => !decide (p.1 = 1) && !decide (p = (2, 1))) = []) = twoS cs sd := by
  unfold twoS
  have pt : ∀ c : List Nat, (!(!decide (c.length = 1) && !decide ((c.length, (c.filter fun x => decide (x ∈ sd)).length) = (2, 1)))) = (decide (c.length = 1) || (decide (c.length = 2) && (decide (c.getD 0 0 ∈ sd) != decide (c.getD 1 0 ∈ sd)))) := fun c => by
    match c with
    | [] => rfl
    | [a] => rfl
    | [a, b] =>
      simp only [List.filter_cons, List.filter_nil]
      show _ = (false || (true && (decide (a ∈ sd) != decide (b ∈ sd))))
      by_cases h1 : a ∈ sd <;> by_cases h2 : b ∈ sd <;> simp [h1, h2]
    | a :: b :: d :: r => simp
  induction cs with
  | nil => rfl
  | cons c cs ih =>
    rw [List.map_cons, List.filter_cons, List.all_cons, ← pt c, ← ih]
    cases (!decide (c.length = 1) && !decide ((c.length, (c.filter fun x => decide (x ∈ sd)).length) = (2, 1))) with
    | true => simp
    | false => simp
end DT

/-! The law of k86: a lap. -/
namespace DT
open PySem
def prD (p : Nat × Nat) : D := .tuple [natD p.1, natD p.2]
theorem ne_pr (p q : Nat × Nat) : cmpO .ne (prD p) (prD q) = some (!decide (p = q)) := by
  have h := eqv_lot [p.1, p.2] [q.1, q.2]
  have e : (decide ([p.1, p.2] = [q.1, q.2])) = decide (p = q) := decide_eq_decide.mpr ⟨fun z => by
    injection z with z1 z2
    injection z2 with z2 _
    exact Prod.ext z1 z2, fun z => by rw [z]⟩
  rw [e] at h
  show Option.map not (if SeqAt.shaped (prD p) && SeqAt.shaped (prD q) then some (PyData.eqv (prD p) (prD q)) else none) = _
  rw [show SeqAt.shaped (prD p) = true from rfl, show SeqAt.shaped (prD q) = true from rfl, Bool.and_self, if_pos rfl]
  exact congrArg (fun b => some (!b)) h
theorem eq_nilP (l : List (Nat × Nat)) : cmpO .eq (.list (l.map prD)) (.list []) = some (decide (l = [])) := by
  have sh : SeqAt.shaped (.list (l.map prD)) = true := by
    unfold SeqAt.shaped
    rw [PyData.canLay0, lay_all (h := prD) (fun _ => rfl), Bool.true_and, PyData.depth]
    have : PyData.depthAll (l.map prD) ≤ 1 := depthAll_le fun d hd' => by
      obtain ⟨a, _, rfl⟩ := List.mem_map.mp hd'
      exact Nat.le_refl 1
    exact decide_eq_true (by omega)
  have e : SeqAt.shaped (.list []) = true := by decide +kernel
  show (if SeqAt.shaped (.list (l.map prD)) && SeqAt.shaped (.list []) then some (PyData.eqv (.list (l.map prD)) (.list [])) else none) = _
  rw [sh, e, Bool.and_self, if_pos rfl, PyData.eqv]
  cases l with
  | nil => rfl
  | cons a l => rfl
theorem odd_at {m r : Nat} (h : r < 10) : ∃ o, ixO (.list (oddC m)) (natD r) = some o ∧ o ∈ oddC m := by
  have : r = 0 ∨ r = 1 ∨ r = 2 ∨ r = 3 ∨ r = 4 ∨ r = 5 ∨ r = 6 ∨ r = 7 ∨ r = 8 ∨ r = 9 := by omega
  rcases this with rfl | rfl | rfl | rfl | rfl | rfl | rfl | rfl | rfl | rfl <;> exact ⟨_, rfl, by simp [oddC]⟩
set_option maxHeartbeats 8000000 in
theorem lap_step (g : PState) (o2 o3 o4 o5 o6 o7 o8 o9 o10 o11 o12 o13 o14 o15 o16 o17 o18 o19 o20 o21 : Option Sl) (x : D) :
    ∃ ρ' g', (bnd (ofO (bindT (.n 2) x (RV o2 o3 o4 o5 o6 o7 o8 o9 o10 o11 o12 o13 o14 o15 o16 o17 o18 o19 o20 o21))) fun ρ' => exs t15 w3_law ρ') g = some ((.nx, ρ'), g') ∧ ∃ o2 o3 o4 o5 o6 o7 o8 o9 o10 o11 o12 o13 o14 o15 o16 o17 o18 o19 o20 o21, ρ' = RV o2 o3 o4 o5 o6 o7 o8 o9 o10 o11 o12 o13 o14 o15 o16 o17 o18 o19 o20 o21 := by
  obtain ⟨r, g1, e1, hr⟩ := pick_ok (n := 4) (by decide) (by decide) g
  obtain ⟨m, hm⟩ : ∃ m, m = 1 + r := ⟨_, rfl⟩
  have m1 : 1 ≤ m := by omega
  have m4 : m ≤ 4 := by omega
  obtain ⟨cs, ls, g2, e2, D⟩ := sp_law_draw m 8 m1 m4 (by decide) (by decide) g1
  have T := D.tok m1 m4
  have c8 := D.c8
  have cl := D.c1
  have hc : ∀ c, c ∈ cs → c.length ≤ 4 ∧ ∀ x, x ∈ c → x < 4 := fun c h => by
    obtain ⟨_, b, d⟩ := D.cm c h
    exact ⟨by omega, fun x hx => by have := d x hx; omega⟩
  have hl : ∀ r, r ∈ ls → r.length ≤ 8 ∧ ∀ x, x ∈ r → x < 100 := fun r h => by
    refine ⟨T.r8 r h, fun x hx => ?_⟩
    obtain ⟨i, hi⟩ := List.mem_iff_getElem?.mp h
    obtain ⟨hi', _⟩ := List.getElem?_eq_some_iff.mp hi
    have p := D.lp i (by rw [← D.lm]; exact hi')
    rw [List.getD_eq_getElem?_getD, hi] at p
    have := idx_lt (p.mem_iff.mp hx)
    omega
  have zc : Fz 3000 3 (csD cs) := (Fz.tupM (f := lotD) (w := 200) (k := 1) 8 c8 fun c h => by
    obtain ⟨a, b⟩ := hc c h
    exact (Fz.tupM (f := natD) (w := 40) (k := 0) 4 a fun y hy => Fz.int (i := (y : Int)) (by have := b y hy; omega)).any).any
  have zl : Fz 3000 3 (lsD ls) := (Fz.tupM (f := lotD) (w := 400) (k := 1) 4 (by have := D.lm; omega) fun c h => by
    obtain ⟨a, b⟩ := hl c h
    exact (Fz.tupM (f := natD) (w := 40) (k := 0) 8 a fun y hy => Fz.int (i := (y : Int)) (by have := b y hy; omega)).any).any
  have fzs : Fz (2 * 3001) 4 (.list [csD cs, lsD ls]) := Fz.lst (w := 3000) (k := 3) 2 (Nat.le_refl 2) fun x hx => by
    simp at hx
    rcases hx with rfl | rfl
    · exact zc
    · exact zl
  have rp := fzs.repr (by decide) (by decide)
  obtain ⟨s, hs⟩ : ∃ s, s = PyData.shown (.list [csD cs, lsD ls]) := ⟨_, rfl⟩
  rw [← hs] at rp
  obtain ⟨r2, g3, e3, hr2⟩ := pick_ok (n := 10) (by decide) (by decide) g2
  obtain ⟨o, ho1, ho⟩ := odd_at (m := m) hr2
  obtain ⟨k, g4, e4, hk⟩ := pick_ok (n := cs.length + 1) (by omega) (by omega) g3
  obtain ⟨i, g5, e5, hi⟩ := pick_ok (n := m) m1 (by omega) g4
  have hrow := row_at T hi
  have hrw := hl _ (List.mem_of_getElem? hrow)
  obtain ⟨row, hrow'⟩ : ∃ row, row = ls.getD i [] := ⟨_, rfl⟩
  rw [← hrow'] at hrow hrw
  let K := cs.map lotD
  let L := ls.map lotD
  let rd := row.map natD
  let R := fun (a3 a4 a5 a6 a7 a8 a9 a10 a11 a12 a13 a14 a15 a16 a17 a18 a19 a20 a21 : Option Sl) => RV (dF x) a3 a4 a5 a6 a7 a8 a9 a10 a11 a12 a13 a14 a15 a16 a17 a18 a19 a20 a21
  have hx : dF x = dF x := rfl
  obtain ⟨p11, p12, lpA⟩ := cl_loop (m := m) (o2 := dF x) (o4 := dF (csD cs)) (o5 := dF (lsD ls)) (o6 := dT (.str s)) (o7 := dF o) (o8 := dF (natD k)) (o9 := dF (.list (V1 K o k ++ V2 K cs))) (o10 := o10) (o13 := o13) (o14 := o14) (o15 := o15) (o16 := o16) (o17 := o17) (o18 := o18) (o19 := o19) (o20 := o20) (o21 := o21) (g := g4) (V1 K o k ++ V2 K cs) (V12_ok m4 c8 hc ho) o11 o12
  let RS := rws rd o ++ [.tuple (rd ++ [.int 0])]
  obtain ⟨q11, q12, lpB⟩ := li_loop (m := m) (cs := cs) (by omega) (o2 := dF x) (o5 := dF (lsD ls)) (o6 := dT (.str s)) (o7 := dF o) (o8 := dF (natD k)) (o9 := dF (.list (V3 L o ++ V4 L i RS))) (o10 := o10) (o13 := dF (natD i)) (o14 := dF (.list RS)) (o15 := frz1 o15) (o16 := o16) (o17 := o17) (o18 := o18) (o19 := o19) (o20 := o20) (o21 := o21) (g := g5) (V3 L o ++ V4 L i RS) (V34_ok m4 (by have := D.lm; omega) hl hrw ho) p11 p12
  obtain ⟨sd, g6, e6, sdl, sdm⟩ := e_filX (F := t15) (ρ := R (dF (natD m)) (dF (csD cs)) (dF (lsD ls)) (dT (.str s)) (dF o) (dF (natD k)) (dF (.list (V3 L o ++ V4 L i RS))) o10 q11 q12 (dF (natD i)) (dF (.list RS)) (frz1 o15) o16 o17 o18 o19 o20 o21) (g := g5) (i := 17) (ik := .rng1) (ss := .cons (.v 3) .nil) (c := .cmp (.call 0 (.src 1 (.ex (.k (.int 2)) .nil))) (.cons .eq (.k (.int 0)) .nil)) (l := List.range m) (e_cons (e_v rfl) e_nil) (it_rng (by unfold LINE; omega)) (fun a => rfl) (fun a g => by
    obtain ⟨b, g', e, _⟩ := pick_ok (n := 2) (by decide) (by decide) g
    exact ⟨_, g', e_cmp (x := natD b) (y := natD 0) (e_call (r_src rfl (r_ex e_k r_nil)) rfl e) e_k (c_eq_nat b 0)⟩)
  let pl := cs.map fun c => (c.length, (c.filter fun x => decide (x ∈ sd)).length)
  refine ⟨R (dF (natD m)) (dF (csD cs)) (dF (lsD ls)) (dT (.str s)) (dF o) (dF (natD k)) (dF (.list (V3 L o ++ V4 L i RS))) o10 q11 q12 (dF (natD i)) (dF (.list RS)) (frz1 o15) (dT (lotD sd)) (frz1 o17) (dT (.list (pl.map prD))) o19 (dT (.bool (twoS cs sd))) o21, g6, ?_, ⟨_, _, _, _, _, _, _, _, _, _, _, _, _, _, _, _, _, _, _, _, rfl⟩⟩
  refine b_go (ρ1 := R o3 o4 o5 o6 o7 o8 o9 o10 o11 o12 o13 o14 o15 o16 o17 o18 o19 o20 o21) rfl (x_cons (g1 := g1) (x_set (ρ1 := R (dT (natD m)) o4 o5 o6 o7 o8 o9 o10 o11 o12 o13 o14 o15 o16 o17 o18 o19 o20 o21) (d := natD m) (e_bin (x := natD 1) e_k (e_call (r_src rfl (r_ex e_k r_nil)) rfl e1) (by rw [hm]; exact addN 1 r)) rfl) ?_)
  refine x_cons (g1 := g2) (x_unp (ρ1 := R (dF (natD m)) (dF (csD cs)) (dF (lsD ls)) o6 o7 o8 o9 o10 o11 o12 o13 o14 o15 o16 o17 o18 o19 o20 o21) (e_call (r_src rfl (r_ex (e_v rfl) (r_ex e_k r_nil))) rfl e2) rfl) ?_
  refine x_cons (g1 := g2) (x_set (ρ1 := R (dF (natD m)) (dF (csD cs)) (dF (lsD ls)) (dT (.str s)) o7 o8 o9 o10 o11 o12 o13 o14 o15 o16 o17 o18 o19 o20 o21) (e_blt (e_cons (e_lst (e_cons (e_v rfl) (e_cons (e_v rfl) e_nil))) e_nil) rp) rfl) ?_
  refine x_no (g1 := g2) (e_rne (fz_tab T) (by decide) (by decide) (e_call (r_ex (e_v rfl) (r_ex (e_v rfl) (r_ex (e_v rfl) r_nil))) rfl (sp_club_table m cs ls T g2)) (e_call (r_ex (e_v rfl) (r_ex (e_v rfl) (r_ex (e_v rfl) r_nil))) rfl (sp_law_table m cs ls T g2))) ?_
  refine x_cons (g1 := g3) (x_set (ρ1 := R (dF (natD m)) (dF (csD cs)) (dF (lsD ls)) (dT (.str s)) (dF o) o8 o9 o10 o11 o12 o13 o14 o15 o16 o17 o18 o19 o20 o21) (e_ix (x := .list (oddC m)) (e_lst (e_cons e_k (e_cons (e_tup e_nil) (e_cons (e_tup (e_cons (e_v rfl) e_nil)) (e_cons (e_tup (e_cons e_k (e_cons e_k e_nil))) (e_cons (e_lst (e_cons e_k e_nil)) (e_cons (e_tup (e_cons e_k e_nil)) (e_cons e_k (e_cons (e_tup (e_cons (e_tup (e_cons e_k e_nil)) e_nil)) (e_cons (e_tup (e_cons e_k (e_cons e_k e_nil))) (e_cons e_k e_nil))))))))))) (e_call (r_src rfl (r_ex e_k r_nil)) rfl e3) ho1) rfl) ?_
  refine x_cons (g1 := g4) (x_set (ρ1 := R (dF (natD m)) (dF (csD cs)) (dF (lsD ls)) (dT (.str s)) (dF o) (dF (natD k)) o9 o10 o11 o12 o13 o14 o15 o16 o17 o18 o19 o20 o21) (e_call (r_src rfl (r_ex (e_bin (x := natD cs.length) (y := natD 1) (ev_eq (e_blt (e_cons (e_v rfl) e_nil) (lenTN _)) (congrArg natD (List.length_map ..))) e_k (addN _ 1)) r_nil)) rfl e4) rfl) ?_
  have kl : K.length = cs.length := List.length_map ..
  have ll : L.length = ls.length := List.length_map ..
  have lm := D.lm
  refine x_cons (g1 := g4) (x_set (ρ1 := R (dF (natD m)) (dF (csD cs)) (dF (lsD ls)) (dT (.str s)) (dF o) (dF (natD k)) (dT (.list (V1 K o k))) o10 o11 o12 o13 o14 o15 o16 o17 o18 o19 o20 o21) (d := .list (V1 K o k)) (e_lst (e_cons (e_v rfl) (e_cons (e_blt (e_cons (e_v rfl) e_nil) rfl) (e_cons (e_bin (e_v rfl) (e_tup (e_cons (e_v rfl) e_nil)) (catT (by unfold LINE; rw [List.length_map]; show cs.length + 1 ≤ _; omega))) (e_cons (e_bin (e_bin (e_sl (e_v rfl) p_abs (p_int (by intro z; cases z) (e_v rfl)) (sT_to K k)) (e_tup (e_cons (e_v rfl) e_nil)) (catT (by rw [List.length_take]; unfold LINE; show _ + 1 ≤ _; omega))) (e_sl (e_v rfl) (p_int (by intro z; cases z) (e_v rfl)) p_abs (sT_from K k)) (catT (by rw [List.length_append, List.length_take, List.length_drop]; unfold LINE; show _ + 1 + _ ≤ _; omega))) (e_cons (e_bin (e_v rfl) (e_sl (e_v rfl) p_abs (p_int (by intro z; cases z) e_k) (sT_to K 1)) (catT (by rw [List.length_take, List.length_map]; unfold LINE; omega))) (e_cons (e_v rfl) (e_cons (e_tup e_nil) e_nil)))))))) rfl) ?_
  have b1 : ev t15 (.bin .add (.v 9) (.lst (.cons (.tup (.cons (.tup (.cons (.k (.int 0)) .nil)) (.cons (.tup (.cons (.k (.int 0)) .nil)) .nil))) (.cons (.rev (.v 4)) (.cons (.blt .tuple (.cons (.comp (.rev (.v 10)) (.n 10) .seq (.cons (.v 4) .nil) .nil) .nil)) (.cons (.tup (.cons (.tup (.cons (.bin .sub (.k (.int 0)) (.k (.int 1))) .nil)) .nil)) (.cons (.dnew true) .nil))))))) (R (dF (natD m)) (dF (csD cs)) (dF (lsD ls)) (dT (.str s)) (dF o) (dF (natD k)) (dT (.list (V1 K o k))) o10 o11 o12 o13 o14 o15 o16 o17 o18 o19 o20 o21) g4 = some (.list (V1 K o k ++ V2 K cs), g4) := by
    refine e_bin (y := .list (V2 K cs)) (e_v rfl) (e_lst (e_cons (e_tup (e_cons (e_tup (e_cons e_k e_nil)) (e_cons (e_tup (e_cons e_k e_nil)) e_nil))) (e_cons (e_rev (e_v rfl) rfl) (e_cons (e_blt (e_cons (e_mapV (l := cs) (h := lotD) (f := fun c => lotD c.reverse) (e_cons (e_v rfl) e_nil) rfl fun c _ => e_rev (e_v rfl) ?_) e_nil) (tupleC _)) (e_cons (e_tup (e_cons (e_tup (e_cons (e_bin (d := .int (-1)) e_k e_k rfl) e_nil)) e_nil)) (e_cons e_dnew e_nil)))))) (catL (by unfold LINE; show 7 + 5 ≤ _; decide))
    show some (PyData.tuple (c.map natD).reverse) = _
    rw [← List.map_reverse]
    rfl
  refine x_cons (g1 := g4) (x_set (ρ1 := R (dF (natD m)) (dF (csD cs)) (dF (lsD ls)) (dT (.str s)) (dF o) (dF (natD k)) (dT (.list (V1 K o k ++ V2 K cs))) o10 o11 o12 o13 o14 o15 o16 o17 o18 o19 o20 o21) b1 rfl) ?_
  refine x_cons (g1 := g4) (x_for (e_cons (e_v rfl) e_nil) rfl lpA) ?_
  refine x_cons (g1 := g5) (x_set (ρ1 := R (dF (natD m)) (dF (csD cs)) (dF (lsD ls)) (dT (.str s)) (dF o) (dF (natD k)) (dF (.list (V1 K o k ++ V2 K cs))) o10 p11 p12 (dF (natD i)) o14 o15 o16 o17 o18 o19 o20 o21) (e_call (r_src rfl (r_ex (e_v rfl) r_nil)) rfl e5) rfl) ?_
  have rl : rd.length = row.length := List.length_map ..
  have r8 := hrw.1
  have ixr : ∀ {a9 a11 a12 a14 a15 a16 a17 : Option Sl}, ev t15 (.ix (.v 5) (.v 13)) (R (dF (natD m)) (dF (csD cs)) (dF (lsD ls)) (dT (.str s)) (dF o) (dF (natD k)) a9 o10 a11 a12 (dF (natD i)) a14 a15 a16 a17 o18 o19 o20 o21) g5 = some (.tuple rd, g5) := e_ix (e_v rfl) (e_v rfl) (ix_tup (f := lotD) rfl hrow)
  have b2 : ev t15 (.lst (.cons (.rev (.ix (.v 5) (.v 13))) (.cons (.sl (.ix (.v 5) (.v 13)) (.k (.int 1)) .abs) (.cons (.bin .add (.ix (.v 5) (.v 13)) (.sl (.ix (.v 5) (.v 13)) .abs (.k (.int 1)))) (.cons (.blt .list (.cons (.ix (.v 5) (.v 13)) .nil)) (.cons (.v 7) (.cons (.bin .add (.ix (.v 5) (.v 13)) (.tup (.cons (.v 7) .nil))) .nil))))))) (R (dF (natD m)) (dF (csD cs)) (dF (lsD ls)) (dT (.str s)) (dF o) (dF (natD k)) (dF (.list (V1 K o k ++ V2 K cs))) o10 p11 p12 (dF (natD i)) o14 o15 o16 o17 o18 o19 o20 o21) g5 = some (.list (rws rd o), g5) :=
    e_lst (e_cons (e_rev ixr rfl) (e_cons (e_sl ixr (p_int (by intro z; cases z) e_k) p_abs (sT_from rd 1)) (e_cons (e_bin ixr (e_sl ixr p_abs (p_int (by intro z; cases z) e_k) (sT_to rd 1)) (catT (by rw [List.length_take]; unfold LINE; omega))) (e_cons (e_blt (e_cons ixr e_nil) rfl) (e_cons (e_v rfl) (e_cons (e_bin ixr (e_tup (e_cons (e_v rfl) e_nil)) (catT (by unfold LINE; show rd.length + 1 ≤ _; omega))) e_nil))))))
  refine x_cons (g1 := g5) (x_set (ρ1 := R (dF (natD m)) (dF (csD cs)) (dF (lsD ls)) (dT (.str s)) (dF o) (dF (natD k)) (dF (.list (V1 K o k ++ V2 K cs))) o10 p11 p12 (dF (natD i)) (dT (.list (rws rd o))) o15 o16 o17 o18 o19 o20 o21) b2 rfl) ?_
  refine x_cons (g1 := g5) (x_app (l := rws rd o) (d := .tuple (rd ++ [.int 0])) (ρ1 := R (dF (natD m)) (dF (csD cs)) (dF (lsD ls)) (dT (.str s)) (dF o) (dF (natD k)) (dF (.list (V1 K o k ++ V2 K cs))) o10 p11 p12 (dF (natD i)) (dT (.list RS)) o15 o16 o17 o18 o19 o20 o21) (e_bin ixr (e_tup (e_cons e_k e_nil)) (catT (by unfold LINE; show rd.length + 1 ≤ _; omega))) rfl (by unfold LINE; show 6 < _; decide) rfl) ?_
  have b3 : ev t15 (.lst (.cons (.v 5) (.cons (.blt .list (.cons (.v 5) .nil)) (.cons (.sl (.v 5) (.k (.int 1)) .abs) (.cons (.bin .add (.v 5) (.tup (.cons (.tup .nil) .nil))) (.cons (.v 7) .nil)))))) (R (dF (natD m)) (dF (csD cs)) (dF (lsD ls)) (dT (.str s)) (dF o) (dF (natD k)) (dF (.list (V1 K o k ++ V2 K cs))) o10 p11 p12 (dF (natD i)) (dT (.list RS)) o15 o16 o17 o18 o19 o20 o21) g5 = some (.list (V3 L o), g5) := e_lst (e_cons (e_v rfl) (e_cons (e_blt (e_cons (e_v rfl) e_nil) rfl) (e_cons (e_sl (e_v rfl) (p_int (by intro z; cases z) e_k) p_abs (sT_from L 1)) (e_cons (e_bin (e_v rfl) (e_tup (e_cons (e_tup e_nil) e_nil)) (catT (by unfold LINE; rw [List.length_map]; show ls.length + 1 ≤ _; omega))) (e_cons (e_v rfl) e_nil)))))
  refine x_cons (g1 := g5) (x_set (ρ1 := R (dF (natD m)) (dF (csD cs)) (dF (lsD ls)) (dT (.str s)) (dF o) (dF (natD k)) (dT (.list (V3 L o))) o10 p11 p12 (dF (natD i)) (dT (.list RS)) o15 o16 o17 o18 o19 o20 o21) b3 rfl) ?_
  have b4 : ev t15 (.bin .add (.v 9) (.comp (.bin .add (.bin .add (.sl (.v 5) .abs (.v 13)) (.tup (.cons (.v 15) .nil))) (.sl (.v 5) (.bin .add (.v 13) (.k (.int 1))) .abs)) (.n 15) .seq (.cons (.v 14) .nil) .nil)) (R (dF (natD m)) (dF (csD cs)) (dF (lsD ls)) (dT (.str s)) (dF o) (dF (natD k)) (dT (.list (V3 L o))) o10 p11 p12 (dF (natD i)) (dT (.list RS)) o15 o16 o17 o18 o19 o20 o21) g5 = some (.list (V3 L o ++ V4 L i RS), g5) := by
    refine e_bin (y := .list (V4 L i RS)) (e_v rfl) (e_mapV (l := RS) (h := fun x : PyData => x) (f := fun r => .tuple (L.take i ++ [r] ++ L.drop (i + 1))) (e_cons (e_v rfl) e_nil) (by rw [List.map_id']; rfl) fun q _ => e_bin (e_bin (e_sl (e_v rfl) p_abs (p_int (by intro z; cases z) (e_v rfl)) (sT_to L i)) (e_tup (e_cons (e_v rfl) e_nil)) (catT (by rw [List.length_take]; unfold LINE; show _ + 1 ≤ _; omega))) (e_sl (e_v rfl) (p_int (i := ((i + 1 : Nat) : Int)) (by intro z; cases z) (ev_eq (e_bin (x := natD i) (y := natD 1) (e_v rfl) e_k (addN i 1)) rfl)) p_abs (sT_from L (i + 1))) (catT (by rw [List.length_append, List.length_take, List.length_drop]; unfold LINE; show _ + 1 + _ ≤ _; omega))) (catL (by unfold LINE; show 5 + 7 ≤ _; decide))
  refine x_cons (g1 := g5) (x_set (ρ1 := R (dF (natD m)) (dF (csD cs)) (dF (lsD ls)) (dT (.str s)) (dF o) (dF (natD k)) (dT (.list (V3 L o ++ V4 L i RS))) o10 p11 p12 (dF (natD i)) (dF (.list RS)) (frz1 o15) o16 o17 o18 o19 o20 o21) b4 rfl) ?_
  refine x_cons (g1 := g5) (x_for (e_cons (e_v rfl) e_nil) rfl lpB) ?_
  refine x_cons (g1 := g6) (x_set (ρ1 := R (dF (natD m)) (dF (csD cs)) (dF (lsD ls)) (dT (.str s)) (dF o) (dF (natD k)) (dF (.list (V3 L o ++ V4 L i RS))) o10 q11 q12 (dF (natD i)) (dF (.list RS)) (frz1 o15) (dT (lotD sd)) (frz1 o17) o18 o19 o20 o21) (e_blt (e_cons e6 e_nil) (tupleC _)) rfl) ?_
  have b5 : ev t15 (.comp (.tup (.cons (.blt .len (.cons (.v 10) .nil)) (.cons (.blt .len (.cons (.comp (.v 19) (.n 19) .seq (.cons (.v 10) .nil) (.cons (.cmp (.v 19) (.cons .mem (.v 16) .nil)) .nil)) .nil)) .nil))) (.n 10) .seq (.cons (.v 4) .nil) .nil) (R (dF (natD m)) (dF (csD cs)) (dF (lsD ls)) (dT (.str s)) (dF o) (dF (natD k)) (dF (.list (V3 L o ++ V4 L i RS))) o10 q11 q12 (dF (natD i)) (dF (.list RS)) (frz1 o15) (dT (lotD sd)) (frz1 o17) o18 o19 o20 o21) g6 = some (.list (pl.map prD), g6) := by
    refine ev_eq (e_mapV (l := cs) (h := lotD) (f := fun c => prD (c.length, (c.filter fun x => decide (x ∈ sd)).length)) (e_cons (e_v rfl) e_nil) rfl fun c _ => e_tup (e_cons (ev_eq (e_blt (e_cons (e_v rfl) e_nil) (lenTN _)) (congrArg natD (List.length_map ..))) (e_cons (ev_eq (e_blt (e_cons (e_filV (l := c) (h := natD) (f := natD) (p := fun x => decide (x ∈ sd)) (e_cons (e_v rfl) e_nil) rfl (fun x _ => e_cmp (e_v rfl) (e_v rfl) (memC x sd)) fun x _ _ => e_v rfl) e_nil) (lenLN _)) (congrArg natD (List.length_map ..))) e_nil))) ?_
    rw [List.map_map]
    rfl
  refine x_cons (g1 := g6) (x_set (ρ1 := R (dF (natD m)) (dF (csD cs)) (dF (lsD ls)) (dT (.str s)) (dF o) (dF (natD k)) (dF (.list (V3 L o ++ V4 L i RS))) o10 q11 q12 (dF (natD i)) (dF (.list RS)) (frz1 o15) (dT (lotD sd)) (frz1 o17) (dT (.list (pl.map prD))) o19 o20 o21) b5 rfl) ?_
  have b6 : ev t15 (.cmp (.comp (.v 21) (.n 21) .seq (.cons (.v 18) .nil) (.cons (.and (.cons (.cmp (.ix (.v 21) (.k (.int 0))) (.cons .ne (.k (.int 1)) .nil)) (.cons (.cmp (.v 21) (.cons .ne (.tup (.cons (.k (.int 2)) (.cons (.k (.int 1)) .nil))) .nil)) .nil))) .nil)) (.cons .eq (.lst .nil) .nil)) (R (dF (natD m)) (dF (csD cs)) (dF (lsD ls)) (dT (.str s)) (dF o) (dF (natD k)) (dF (.list (V3 L o ++ V4 L i RS))) o10 q11 q12 (dF (natD i)) (dF (.list RS)) (frz1 o15) (dT (lotD sd)) (frz1 o17) (dT (.list (pl.map prD))) o19 o20 o21) g6 = some (.bool (twoS cs sd), g6) := by
    refine ev_eq (e_cmp (e_filV (l := pl) (h := prD) (f := prD) (p := fun p => !decide (p.1 = 1) && !decide (p = (2, 1))) (e_cons (e_v rfl) e_nil) rfl (fun p _ => e_and (a_cons (e_cmp (x := natD p.1) (y := natD 1) (e_ix (e_v rfl) e_k rfl) e_k (c_ne_nat _ 1)) fun _ => a_one (e_cmp (x := prD p) (y := prD (2, 1)) (e_v rfl) (e_tup (e_cons e_k (e_cons e_k e_nil))) (ne_pr p (2, 1))))) fun p _ _ => e_v rfl) (e_lst e_nil) (eq_nilP _)) (congrArg PyData.bool (due_eq cs sd))
  refine x_cons (g1 := g6) (x_set (ρ1 := R (dF (natD m)) (dF (csD cs)) (dF (lsD ls)) (dT (.str s)) (dF o) (dF (natD k)) (dF (.list (V3 L o ++ V4 L i RS))) o10 q11 q12 (dF (natD i)) (dF (.list RS)) (frz1 o15) (dT (lotD sd)) (frz1 o17) (dT (.list (pl.map prD))) o19 (dT (.bool (twoS cs sd))) o21) b6 rfl) ?_
  exact x_no (g1 := g6) (e_or (o_cons (i := false) (j := false) (e_rne (Fz.bool (twoS cs sd)) (by decide) (by decide) (e_call (r_ex (e_v rfl) (r_ex (e_v rfl) r_nil)) rfl (sp_is_two_sided cs sd g6)) (e_v rfl)) fun _ => o_one (same_str (e_blt (e_cons (e_lst (e_cons (e_v rfl) (e_cons (e_v rfl) e_nil))) e_nil) rp) (e_v rfl)))) x_nil
theorem law_holds : ∀ ns : List Int, ns.length ≤ 63 → ∃ ρ' g', exs t15 x_law (lawR 22) (openG ns) = some ((.rt (.bool true), ρ'), g') := fun ns _ => by
  obtain ⟨ρ', g', e, _⟩ := for_inv (f := fun ρ x => bnd (ofO (bindT (.n 2) x ρ)) fun ρ' => exs t15 w3_law ρ') (P := fun l ρ _ => ∃ o2 o3 o4 o5 o6 o7 o8 o9 o10 o11 o12 o13 o14 o15 o16 o17 o18 o19 o20 o21, ρ = RV o2 o3 o4 o5 o6 o7 o8 o9 o10 o11 o12 o13 o14 o15 o16 o17 o18 o19 o20 o21) ((List.range 5).map natD) (RV none none none none none none none none none none none none none none none none none none none none) (openG ns) ⟨_, _, _, _, _, _, _, _, _, _, _, _, _, _, _, _, _, _, _, _, rfl⟩ (by
    rintro x l ρ g - ⟨o2, o3, o4, o5, o6, o7, o8, o9, o10, o11, o12, o13, o14, o15, o16, o17, o18, o19, o20, o21, rfl⟩
    exact lap_step g o2 o3 o4 o5 o6 o7 o8 o9 o10 o11 o12 o13 o14 o15 o16 o17 o18 o19 o20 o21 x)
  exact ⟨ρ', g', x_cons (x_for (e_cons e_k e_nil) (it_rng (n := 5) (by decide)) e) (x_stop (x_retE e_k))⟩
end DT

/-! The law's end. -/
namespace DT
open PySem PySem.Spec PyProof.Rows L2
def d_is_number_under : He.DefD := ⟨("is_number_under", none), "is_number_under", "is_number_under", defArgs (topS 1), defBody (topS 1), defScope (topS 1), [], []⟩
def d_is_club : He.DefD := ⟨("is_club", none), "is_club", "is_club", defArgs (topS 2), defBody (topS 2), defScope (topS 2), [], []⟩
def d_is_clubs : He.DefD := ⟨("is_clubs", none), "is_clubs", "is_clubs", defArgs (topS 3), defBody (topS 3), defScope (topS 3), [], []⟩
def d_is_lists : He.DefD := ⟨("is_lists", none), "is_lists", "is_lists", defArgs (topS 4), defBody (topS 4), defScope (topS 4), [], []⟩
def d_club_rank : He.DefD := ⟨("club_rank", none), "club_rank", "club_rank", defArgs (topS 5), defBody (topS 5), defScope (topS 5), [], []⟩
def d_great_number : He.DefD := ⟨("great_number", none), "great_number", "great_number", defArgs (topS 6), defBody (topS 6), defScope (topS 6), [], []⟩
def d_club_table : He.DefD := ⟨("club_table", none), "club_table", "club_table", defArgs (topS 7), defBody (topS 7), defScope (topS 7), [], []⟩
def d_is_two_sided : He.DefD := ⟨("is_two_sided", none), "is_two_sided", "is_two_sided", defArgs (topS 8), defBody (topS 8), defScope (topS 8), [], []⟩
def d_law_open_cells : He.DefD := ⟨("_law_open_cells", none), "_law_open_cells", "_law_open_cells", defArgs (topS 10), defBody (topS 10), defScope (topS 10), [], []⟩
def d_law_pick : He.DefD := ⟨("_law_pick", none), "_law_pick", "_law_pick", defArgs (topS 11), defBody (topS 11), defScope (topS 11), [], []⟩
def d_law_any_order : He.DefD := ⟨("_law_any_order", none), "_law_any_order", "_law_any_order", defArgs (topS 12), defBody (topS 12), defScope (topS 12), [], []⟩
def d_law_draw : He.DefD := ⟨("_law_draw", none), "_law_draw", "_law_draw", defArgs (topS 13), defBody (topS 13), defScope (topS 13), [], []⟩
def d_law_table : He.DefD := ⟨("_law_table", none), "_law_table", "_law_table", defArgs (topS 14), defBody (topS 14), defScope (topS 14), [], []⟩
def d_law_is_number : He.DefD := ⟨("_law_is_number", none), "_law_is_number", "_law_is_number", defArgs (topS 15), defBody (topS 15), defScope (topS 15), [], []⟩
def d_law_is_clubs : He.DefD := ⟨("_law_is_clubs", none), "_law_is_clubs", "_law_is_clubs", defArgs (topS 16), defBody (topS 16), defScope (topS 16), [], []⟩
def d_law_is_lists : He.DefD := ⟨("_law_is_lists", none), "_law_is_lists", "_law_is_lists", defArgs (topS 17), defBody (topS 17), defScope (topS 17), [], []⟩
def d_law : He.DefD := ⟨("law", none), "law", "law", defArgs (topS 18), defBody (topS 18), defScope (topS 18), [], []⟩
def fnL : List He.DefD := [d_is_number_under, d_is_club, d_is_clubs, d_is_lists, d_club_rank, d_great_number, d_club_table, d_is_two_sided, d_law_open_cells, d_law_pick, d_law_any_order, d_law_draw, d_law_table, d_law_is_number, d_law_is_clubs, d_law_is_lists, d_law]
def faL : List He.Fa := ([.glo "is_number_under", .glo "is_club", .glo "is_clubs", .glo "is_lists", .glo "club_rank", .glo "great_number", .glo "club_table", .glo "is_two_sided", .glo "_law_open_cells", .glo "_law_pick", .glo "_law_any_order", .glo "_law_draw", .glo "_law_table", .glo "_law_is_number", .glo "_law_is_clubs", .glo "_law_is_lists", .glo "law"] : List He.Fa) ++ (bltNames.map He.Fa.free ++ gls.map fun p => He.Fa.int p.1 p.2)
def namesL : List PySem.Str := (["is_number_under", "is_club", "is_clubs", "is_lists", "club_rank", "great_number", "club_table", "is_two_sided", "_law_open_cells", "_law_pick", "_law_any_order", "_law_draw", "_law_table", "_law_is_number", "_law_is_clubs", "_law_is_lists"] : List PySem.Str)
abbrev RR : PySem.W.OpenRow := PySem.W.OpenLaw.row PySem.Challenge.rw_cornersled_k86_clubs_and_lists
abbrev hk : PySem.W.Hook := He.hookD 4 faL fnL
def ob (s : PySem.W.SharedT) : He.AlD := He.obsDG 4 faL fnL (HandSHeadRun.getT s)
theorem ob_eq (s : PySem.W.SharedT) : ob s = hk.obs s.abs := He.obsDG_eq (HandSHeadRun.getT_eq s)
theorem run (w : World) : HandSHeadRun.RunEq RR (PySem.W.view RR.prog [18]) hk ob 4000 namesL w := by
  intro os
  kernel_rfl
theorem blt_in : ∀ x, x ∈ bltNames → He.Fa.free x ∈ faL := fun x hx => List.mem_append_right _ (List.mem_append_left _ (List.mem_map.mpr ⟨x, hx, rfl⟩))
set_option maxHeartbeats 8000000 in
theorem factsL {P : Program} {w : World} {K : PySem.W.Frag} {h : Heap} {mg : Str → Option Value} {f : Addr} (X : K.In h) (G : h.Ns mainGlobals mg) (hfa : mg ("law" : Str) = some (.ref f)) (c : He.SaysD faL fnL K) :
    ∃ fd : FuncData, (∀ (s : Shared) (v : Value), BindsTo s fd ⟨[v], []⟩ [("script", v)]) ∧ ∀ base : Heap, K.In base → base.Ns mainGlobals mg → FnG P w K mg base 16 f fd ["script"] (spLawG K) := by
  have mb : ∀ x, x ∈ bltNames → mg x = none := fun x hx => He.free_ok X G (c.facts (blt_in x hx))
  have gl : ∀ x i, (x, i) ∈ gls → ∃ t, mg x = some (.int i t) := fun x i hx => by cases hx
  obtain ⟨e_is_number_under, F_is_number_under⟩ := c.def_ 0 (d := d_is_number_under) rfl
  have g_is_number_under := He.glo_ok X G (c.fact 0 (f := .glo "is_number_under") rfl)
  have b_is_number_under : Binds K e_is_number_under ["value", "most"] [] := F_is_number_under.bindsN fun _ _ _ _ _ _ us hl => match us, hl with | [_, _], _ => rfl
  obtain ⟨e_is_club, F_is_club⟩ := c.def_ 1 (d := d_is_club) rfl
  have g_is_club := He.glo_ok X G (c.fact 1 (f := .glo "is_club") rfl)
  have b_is_club : Binds K e_is_club ["m", "value"] [] := F_is_club.bindsN fun _ _ _ _ _ _ us hl => match us, hl with | [_, _], _ => rfl
  obtain ⟨e_is_clubs, F_is_clubs⟩ := c.def_ 2 (d := d_is_clubs) rfl
  have g_is_clubs := He.glo_ok X G (c.fact 2 (f := .glo "is_clubs") rfl)
  have b_is_clubs : Binds K e_is_clubs ["m", "value"] [] := F_is_clubs.bindsN fun _ _ _ _ _ _ us hl => match us, hl with | [_, _], _ => rfl
  obtain ⟨e_is_lists, F_is_lists⟩ := c.def_ 3 (d := d_is_lists) rfl
  have g_is_lists := He.glo_ok X G (c.fact 3 (f := .glo "is_lists") rfl)
  have b_is_lists : Binds K e_is_lists ["m", "clubs", "value"] [] := F_is_lists.bindsN fun _ _ _ _ _ _ us hl => match us, hl with | [_, _, _], _ => rfl
  obtain ⟨e_club_rank, F_club_rank⟩ := c.def_ 4 (d := d_club_rank) rfl
  have g_club_rank := He.glo_ok X G (c.fact 4 (f := .glo "club_rank") rfl)
  have b_club_rank : Binds K e_club_rank ["lists", "club", "j", "i"] [] := F_club_rank.bindsN fun _ _ _ _ _ _ us hl => match us, hl with | [_, _, _, _], _ => rfl
  obtain ⟨e_great_number, F_great_number⟩ := c.def_ 5 (d := d_great_number) rfl
  have g_great_number := He.glo_ok X G (c.fact 5 (f := .glo "great_number") rfl)
  have b_great_number : Binds K e_great_number ["m"] [] := F_great_number.bindsN fun _ _ _ _ _ _ us hl => match us, hl with | [_], _ => rfl
  obtain ⟨e_club_table, F_club_table⟩ := c.def_ 6 (d := d_club_table) rfl
  have g_club_table := He.glo_ok X G (c.fact 6 (f := .glo "club_table") rfl)
  have b_club_table : Binds K e_club_table ["m", "clubs", "lists"] [] := F_club_table.bindsN fun _ _ _ _ _ _ us hl => match us, hl with | [_, _, _], _ => rfl
  obtain ⟨e_is_two_sided, F_is_two_sided⟩ := c.def_ 7 (d := d_is_two_sided) rfl
  have g_is_two_sided := He.glo_ok X G (c.fact 7 (f := .glo "is_two_sided") rfl)
  have b_is_two_sided : Binds K e_is_two_sided ["clubs", "side"] [] := F_is_two_sided.bindsN fun _ _ _ _ _ _ us hl => match us, hl with | [_, _], _ => rfl
  obtain ⟨e_law_open_cells, F_law_open_cells⟩ := c.def_ 8 (d := d_law_open_cells) rfl
  have g_law_open_cells := He.glo_ok X G (c.fact 8 (f := .glo "_law_open_cells") rfl)
  have b_law_open_cells : Binds K e_law_open_cells ["script"] [] := F_law_open_cells.bindsN fun _ _ _ _ _ _ us hl => match us, hl with | [_], _ => rfl
  obtain ⟨e_law_pick, F_law_pick⟩ := c.def_ 9 (d := d_law_pick) rfl
  have g_law_pick := He.glo_ok X G (c.fact 9 (f := .glo "_law_pick") rfl)
  have b_law_pick : Binds K e_law_pick ["source", "most"] [] := F_law_pick.bindsN fun _ _ _ _ _ _ us hl => match us, hl with | [_, _], _ => rfl
  obtain ⟨e_law_any_order, F_law_any_order⟩ := c.def_ 10 (d := d_law_any_order) rfl
  have g_law_any_order := He.glo_ok X G (c.fact 10 (f := .glo "_law_any_order") rfl)
  have b_law_any_order : Binds K e_law_any_order ["source", "things"] [] := F_law_any_order.bindsN fun _ _ _ _ _ _ us hl => match us, hl with | [_, _], _ => rfl
  obtain ⟨e_law_draw, F_law_draw⟩ := c.def_ 11 (d := d_law_draw) rfl
  have g_law_draw := He.glo_ok X G (c.fact 11 (f := .glo "_law_draw") rfl)
  have b_law_draw : Binds K e_law_draw ["source", "m", "most"] [] := F_law_draw.bindsN fun _ _ _ _ _ _ us hl => match us, hl with | [_, _, _], _ => rfl
  obtain ⟨e_law_table, F_law_table⟩ := c.def_ 12 (d := d_law_table) rfl
  have g_law_table := He.glo_ok X G (c.fact 12 (f := .glo "_law_table") rfl)
  have b_law_table : Binds K e_law_table ["m", "clubs", "lists"] [] := F_law_table.bindsN fun _ _ _ _ _ _ us hl => match us, hl with | [_, _, _], _ => rfl
  obtain ⟨e_law_is_number, F_law_is_number⟩ := c.def_ 13 (d := d_law_is_number) rfl
  have g_law_is_number := He.glo_ok X G (c.fact 13 (f := .glo "_law_is_number") rfl)
  have b_law_is_number : Binds K e_law_is_number ["value", "most"] [] := F_law_is_number.bindsN fun _ _ _ _ _ _ us hl => match us, hl with | [_, _], _ => rfl
  obtain ⟨e_law_is_clubs, F_law_is_clubs⟩ := c.def_ 14 (d := d_law_is_clubs) rfl
  have g_law_is_clubs := He.glo_ok X G (c.fact 14 (f := .glo "_law_is_clubs") rfl)
  have b_law_is_clubs : Binds K e_law_is_clubs ["m", "value"] [] := F_law_is_clubs.bindsN fun _ _ _ _ _ _ us hl => match us, hl with | [_, _], _ => rfl
  obtain ⟨e_law_is_lists, F_law_is_lists⟩ := c.def_ 15 (d := d_law_is_lists) rfl
  have g_law_is_lists := He.glo_ok X G (c.fact 15 (f := .glo "_law_is_lists") rfl)
  have b_law_is_lists : Binds K e_law_is_lists ["m", "clubs", "value"] [] := F_law_is_lists.bindsN fun _ _ _ _ _ _ us hl => match us, hl with | [_, _, _], _ => rfl
  obtain ⟨e_law, F_law⟩ := c.def_ 16 (d := d_law) rfl
  have e := hfa.symm.trans (He.glo_ok X G (c.fact 16 (f := .glo "law") rfl))
  cases e
  have b := FunD.bindsA (ps := ["script"]) F_law fun _ _ _ _ _ _ us hl => match us, hl with | [_], _ => rfl
  refine ⟨e_law, fun s v => b s [v] rfl, fun base _ _ => ?_⟩
  have o_open := ok_open (P := P) (w := w) (base := base) F_law_open_cells mb
  have o_pick := ok_pick (P := P) (w := w) (base := base) F_law_pick mb
  have T1 : TabOk P w K mg base 1 (tn.take 1) t1 := TabOk.nil.snoc rfl g_law_pick F_law_pick.kp b_law_pick o_pick
  have T2 : TabOk P w K mg base 2 (tn.take 2) t2 := T1.snoc rfl g_law_any_order F_law_any_order.kp b_law_any_order (ok_any F_law_any_order mb g_law_pick F_law_pick.kp b_law_pick o_pick)
  have T3 : TabOk P w K mg base 3 (tn.take 3) t3 := T2.snoc rfl g_is_number_under F_is_number_under.kp b_is_number_under (fn_text F_is_number_under s_1 T2 gl mb c_is_number_under)
  have T4 : TabOk P w K mg base 4 (tn.take 4) t4 := T3.snoc rfl g_is_club F_is_club.kp b_is_club (fn_text F_is_club s_2 T3 gl mb c_is_club)
  have T5 : TabOk P w K mg base 5 (tn.take 5) t5 := T4.snoc rfl g_is_clubs F_is_clubs.kp b_is_clubs (fn_text F_is_clubs s_3 T4 gl mb c_is_clubs)
  have T6 : TabOk P w K mg base 6 (tn.take 6) t6 := T5.snoc rfl g_is_lists F_is_lists.kp b_is_lists (fn_text F_is_lists s_4 T5 gl mb c_is_lists)
  have T7 : TabOk P w K mg base 7 (tn.take 7) t7 := T6.snoc rfl g_club_rank F_club_rank.kp b_club_rank (fn_text F_club_rank s_5 T6 gl mb c_club_rank)
  have T8 : TabOk P w K mg base 8 (tn.take 8) t8 := T7.snoc rfl g_great_number F_great_number.kp b_great_number (fn_text F_great_number s_6 T7 gl mb c_great_number)
  have T9 : TabOk P w K mg base 9 (tn.take 9) t9 := T8.snoc rfl g_club_table F_club_table.kp b_club_table (fn_text F_club_table s_7 T8 gl mb c_club_table)
  have T10 : TabOk P w K mg base 10 (tn.take 10) t10 := T9.snoc rfl g_is_two_sided F_is_two_sided.kp b_is_two_sided (fn_text F_is_two_sided s_8 T9 gl mb c_is_two_sided)
  have T11 : TabOk P w K mg base 11 (tn.take 11) t11 := T10.snoc rfl g_law_draw F_law_draw.kp b_law_draw (fn_text F_law_draw s_13 T10 gl mb c_law_draw)
  have T12 : TabOk P w K mg base 12 (tn.take 12) t12 := T11.snoc rfl g_law_table F_law_table.kp b_law_table (fn_text F_law_table s_14 T11 gl mb c_law_table)
  have T13 : TabOk P w K mg base 13 (tn.take 13) t13 := T12.snoc rfl g_law_is_number F_law_is_number.kp b_law_is_number (fn_text F_law_is_number s_15 T12 gl mb c_law_is_number)
  have T14 : TabOk P w K mg base 14 (tn.take 14) t14 := T13.snoc rfl g_law_is_clubs F_law_is_clubs.kp b_law_is_clubs (fn_text F_law_is_clubs s_16 T13 gl mb c_law_is_clubs)
  have T15 : TabOk P w K mg base 15 (tn.take 15) t15 := T14.snoc rfl g_law_is_lists F_law_is_lists.kp b_law_is_lists (fn_text F_law_is_lists s_17 T14 gl mb c_law_is_lists)
  exact law_text (by decide) F_law s_18 T15 gl mb rfl c_law rfl rfl (by decide +kernel) (by decide +kernel) (by decide +kernel) (by decide +kernel) (by decide +kernel) g_law_open_cells F_law_open_cells.kp b_law_open_cells (o_open.mono (by decide)) law_holds
end DT
open PySem PySem.W PySem.Calls PyProof.Rows
set_option maxHeartbeats 0 in
theorem PySem.Challenge.cw_cornersled_k86_clubs_and_lists_holds : PySem.Challenge.rw_cornersled_k86_clubs_and_lists.Holds := by
  w_on; o_law
  refine HandSHeadRun.head_any (r := OpenLaw.row PySem.Challenge.rw_cornersled_k86_clubs_and_lists) (q := view (OpenLaw.row PySem.Challenge.rw_cornersled_k86_clubs_and_lists).prog [18]) (H := DT.hk) (ob := DT.ob) (M := 4000) (loose := DT.namesL) (d := HandSHeadRun.topDef (OpenLaw.row PySem.Challenge.rw_cornersled_k86_clubs_and_lists).prog 18) (kwd := []) DT.ob_eq
    (by kernel_rfl) (fun s => by kernel_rfl) DT.run (by kernel_rfl) (by kernel_rfl) (by kernel_rfl) (by rfl) (by first | assumption | decide +kernel) (by decide +kernel) ⟨rfl, rfl, rfl, rfl, rfl, by decide +kernel⟩ ?hw ?hc
  case hw => w_witness2
  case hc =>
    refine DT.walk_G (l := PySem.Challenge.rw_cornersled_k86_clubs_and_lists) (lev := 16) (x := "script") rfl (by kernel_rfl) ⟨rfl, by decide, by decide⟩ ?G
    intro w mg fa h Y G hmg0
    obtain ⟨K, KX, c⟩ := Y
    have hmg : mg ("law" : PySem.Str) = some (.ref fa) := by
      have e : (HandSHeadRun.topDef (OpenLaw.row PySem.Challenge.rw_cornersled_k86_clubs_and_lists).prog 18).name = ("law" : PySem.Str) := by kernel_rfl
      rw [← e]
      exact hmg0
    obtain ⟨fd, hb, hF⟩ := DT.factsL (P := (PySem.Challenge.rw_cornersled_k86_clubs_and_lists).prog) (w := w) KX G hmg c
    exact ⟨K, fd, KX, hb, hF⟩
