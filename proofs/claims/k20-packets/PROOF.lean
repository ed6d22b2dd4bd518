import PyProof.Rows.All
import Wide.All
import OpenK.AllK
import Wide.FinOn
import KE.SortData
import HandS.ForMost
import KE.DataMinMax
import HandS.TupMul
import HandS.TupAny
import HandS.TupLe
import HandS.Deep
import HandS.More
import PyProof.SumWalkG
import HandS.SetFor
import HandS.Strs
import PyProof.WalksMore
import PyProof.TupleIter
import HandS.TupSets
import HandS.Conv
import KE.KDictCopyH
import HandS.Flt
import HandS.Style
import HandS.Zip
import HandS.IsInst
import HandS.Sort
import KE.KDictZip
import HandS.TryOnly
import HandS.Defaults
import HandS.Head0
import HandS.Head1
import HandS.Head2
import HandS.HeadEnd
import HandS.HeadHook1
import HandS.HeadHook2
import HandS.HeadHook3
import HandS.HeadHook4
import PySem.Challenge.RW_farwheels_k20_packets_put_back
set_option linter.all false
/-! PvZ: the constant tuples of this law's row. -/
namespace Pv
open PySem
def cTups : List PyData := []
end Pv

set_option Elab.async false
set_option linter.all false
set_option maxRecDepth 100000
/-! PvA: a small interpreter over plain data (PyData): values, slots, IR, ev, exec, callN. -/
namespace Pv
open PySem

abbrev D := PyData
abbrev LIM : Nat := 16777216

/-! ### data that == may look at -/
mutual
def okd : D → Nat → Bool
  | .none, _ => true
  | .bool _, _ => true
  | .int _, _ => true
  | .str x, _ => PyData.strOk x
  | .list xs, n => match n with
    | 0 => false
    | m + 1 => okds xs m
  | .tuple xs, n => match n with
    | 0 => false
    | m + 1 => okds xs m
  | .dict _, _ => false
def okds : List D → Nat → Bool
  | [], _ => true
  | x :: xs, n => okd x n && okds xs n
end
abbrev okD (d : D) : Bool := okd d 40
mutual
def eqD : D → D → Bool
  | .none, y => match y with
    | .none => true
    | _ => false
  | .bool a, y => match y with
    | .bool b => a == b
    | _ => false
  | .int a, y => match y with
    | .int b => a == b
    | _ => false
  | .str a, y => match y with
    | .str b => a == b
    | _ => false
  | .tuple a, y => match y with
    | .tuple b => eqDs a b
    | _ => false
  | .list _, _ => false
  | .dict _, _ => false
def eqDs : List D → List D → Bool
  | [], b => match b with
    | [] => true
    | _ => false
  | x :: a, b => match b with
    | [] => false
    | y :: r => eqD x y && eqDs a r
end
/-- is it one of the row's constant tuples -/
def ctB (ds : List D) : Bool := cTups.any fun c => eqD c (.tuple ds)

/-! ### slots -/
inductive Slot where
  | un
  | sh (d : D)
  | ow (d : D)
  | io (d : D)
abbrev Env := List Slot
def gets (E : Env) (i : Nat) : Slot := E.getD i .un
def Slot.cont : Slot → Option D
  | .un => none
  | .sh d => some d
  | .ow d => some d
  | .io d => some d
/-- a slot's content is let go: from now on it may be shared, and is not written -/
def frz (E : Env) (i : Nat) : Env := match gets E i with
  | .ow d => E.set i (.sh d)
  | _ => E
/-- a written slot: its content anew -/
def puts (E : Env) (i : Nat) (d : D) : Option Env := match gets E i with
  | .ow _ => some (E.set i (.ow d))
  | .io _ => some (E.set i (.io d))
  | _ => none
def mine (E : Env) (i : Nat) : Option D := match gets E i with
  | .ow d => some d
  | .io d => some d
  | _ => none

/-! ### operators by values -/
inductive Bop where | add | sub | mul | fdiv | mod | pow
inductive Cop where | eq | ne | lt | le | gt | ge | isin | notin | is | isnot
inductive Blt where | abs | int | len | min2 | max2 | mn | mx | sum | all | any | tuple | list | dict | sorted | dictT
inductive Mth where | get1 | get2
inductive Mut where | append | extend | pop | popA

def i2 (f : Int → Int → Option D) : D → D → Option D
  | .int i, .int j => f i j
  | _, _ => none
def mulI (i j : Int) : Option D := if i.natAbs < 18446744073709551616 ∨ j.natAbs < 18446744073709551616 then some (.int (i * j)) else none
def binop (o : Bop) (x y : D) : Option D := match o, x, y with
  | .add, .int i, .int j => some (.int (i + j))
  | .add, .str a, .str b => if a.length + b.length ≤ LIM then some (.str (a ++ b)) else none
  | .add, .list a, .list b => if a.length + b.length ≤ LIM then some (.list (a ++ b)) else none
  | .add, .tuple a, .tuple b => if a.length + b.length ≤ LIM then some (.tuple (a ++ b)) else none
  | .sub, .int i, .int j => some (.int (i - j))
  | .mul, .int i, .int j => mulI i j
  | .mul, .list a, .int k => if k < 9223372036854775808 ∧ -9223372036854775808 ≤ k ∧ a.length * k.toNat ≤ LIM then some (.list (List.replicate k.toNat a).flatten) else none
  | .mul, .tuple a, .int k => if k = 1 then some (.tuple a) else if (!a.isEmpty) = true ∧ 2 ≤ k ∧ k ≤ 1000 ∧ a.length ≤ 1000 then some (.tuple (List.replicate k.toNat a).flatten) else none
  | .fdiv, .int i, .int j => if j ≠ 0 ∧ j.natAbs < 1073741824 then some (.int (i.fdiv j)) else none
  | .mod, .int i, .int j => if j ≠ 0 then some (.int (i.fmod j)) else none
  | .pow, .int i, .int j => if 0 ≤ j ∧ j ≤ 1000000 ∧ i.natAbs < 18446744073709551616 then some (.int (i ^ j.toNat)) else none
  | _, _, _ => none

/-- a dict's key: an int or a text -/
def keyOf : D → Option L2.Key
  | .int i => some (.inl i)
  | .str x => some (.inr x)
  | _ => none
def keyD : L2.Key → D
  | .inl i => .int i
  | .inr x => .str x
def keyE1 : D → D → Bool
  | .int i, .int j => i == j
  | .str x, .str y => x == y
  | _, _ => false
def keyEs : List D → List D → Bool
  | [], [] => true
  | x :: a, y :: b => keyE1 x y && keyEs a b
  | _, _ => false
def keyEq : D → D → Bool
  | .tuple a, .tuple b => keyEs a b
  | x, y => keyE1 x y
/-- a key that is a tuple of ints and texts -/
def keyTD (ks : List L2.Key) : D := .tuple (ks.map keyD)
def isKey : D → Bool
  | .int _ => true
  | .str _ => true
  | _ => false
def isKeyT : D → Bool
  | .tuple ks => ks.all isKey
  | _ => false
/-- what stands first in a dict whose keys are tuples -/
abbrev tMark : D × D := (.bool false, .none)
def tOk : List (D × D) → Bool
  | (.bool false, .none) :: _ => true
  | _ => false
/-- a key that is no constant of the row -/
def freeK : D → Bool
  | .tuple ks => !ctB ks
  | _ => false
def dval (kvs : List (D × D)) (k : D) : Option D := (kvs.find? fun p => keyEq p.1 k).map (·.2)
def dput (kvs : List (D × D)) (k v : D) : List (D × D) := if kvs.any fun p => keyEq p.1 k then kvs.map fun p => if keyEq p.1 k then (p.1, v) else p else kvs ++ [(k, v)]

/-- a dict, not the script (whose items stand under None) -/
def dOk : List (D × D) → Bool
  | (.none, _) :: _ => false
  | (.bool _, _) :: _ => false
  | _ => true
/-- what stands at a key (none: this is no such dict) -/
def dlook (kvs : List (D × D)) (k : D) : Option (Option D) := if isKey k && dOk kvs then some (dval kvs k) else if isKeyT k && (freeK k && tOk kvs) then some (dval kvs.tail k) else none
def ltStr (a b : Str) : Bool := decide (a.cps.toList < b.cps.toList)
def intsOf : List D → Option (List Int)
  | [] => some []
  | .int i :: r => (intsOf r).map (i :: ·)
  | _ => none
def boolsOf : List D → Option (List Bool)
  | [] => some []
  | .bool b :: r => (boolsOf r).map (b :: ·)
  | _ => none

def cmpop (o : Cop) (x y : D) : Option Bool := match o with
  | .eq => if okD x && okD y then some (PyData.eqv x y) else none
  | .ne => if okD x && okD y then some (!PyData.eqv x y) else none
  | .lt => match x, y with
    | .int i, .int j => some (decide (i < j))
    | .str a, .str b => some (ltStr a b)
    | .tuple a, .tuple b => if okD x && okD y && PySem.W.alike x y then some (PySem.W.dataLt x y) else none
    | _, _ => none
  | .le => match x, y with
    | .int i, .int j => some (decide (i ≤ j))
    | .str a, .str b => some (!ltStr b a)
    | .tuple a, .tuple b => if okD x && okD y && PySem.W.alike x y then some (!PySem.W.dataLt y x) else none
    | _, _ => none
  | .gt => match x, y with
    | .int i, .int j => some (decide (j < i))
    | .str a, .str b => some (ltStr b a)
    | .tuple a, .tuple b => if okD x && okD y && PySem.W.alike x y then some (PySem.W.dataLt y x) else none
    | _, _ => none
  | .ge => match x, y with
    | .int i, .int j => some (decide (j ≤ i))
    | .str a, .str b => some (!ltStr a b)
    | .tuple a, .tuple b => if okD x && okD y && PySem.W.alike x y then some (!PySem.W.dataLt x y) else none
    | _, _ => none
  | .isin => match y with
    | .list ds => if okD x && okD y then some (ds.any fun z => PyData.eqv z x) else none
    | .tuple ds => if okD x && okD y then some (ds.any fun z => PyData.eqv z x) else none
    | .dict kvs => (dlook kvs x).map Option.isSome
    | _ => none
  | .notin => match y with
    | .list ds => if okD x && okD y then some (!ds.any fun z => PyData.eqv z x) else none
    | .tuple ds => if okD x && okD y then some (!ds.any fun z => PyData.eqv z x) else none
    | .dict kvs => (dlook kvs x).map fun o => !o.isSome
    | _ => none
  | .is => match y with
    | .none => match x with
      | .none => some true
      | _ => some false
    | .bool b => match x with
      | .bool a => some (a == b)
      | _ => none
    | _ => none
  | .isnot => match y with
    | .none => match x with
      | .none => some false
      | _ => some true
    | .bool b => match x with
      | .bool a => some (!(a == b))
      | _ => none
    | _ => none

/-- the place that a subscript means -/
def at? (n : Nat) (i : Int) : Option Nat := if 0 ≤ i then (if i < n then some i.toNat else none) else if -(n : Int) ≤ i then some (i + n).toNat else none
def item (x i : D) : Option D := match x, i with
  | .list xs, .int k => (at? xs.length k).bind fun j => xs[j]?
  | .tuple xs, .int k => (at? xs.length k).bind fun j => xs[j]?
  | .dict [(.none, .list xs)], .int k => (at? xs.length k).bind fun j => xs[j]?
  | .str z, .int k => if z.length ≤ LIM then (at? z.cps.toList.length k).bind fun j => z.cps.toList[j]?.map fun c => .str ⟨#[c]⟩ else none
  | .dict kvs, k => (dlook kvs k).bind id
  | _, _ => none
/-- a slice's end -/
def sIx (n d : Nat) : Option Int → Nat
  | none => d
  | some v => if v < 0 then (v + n).toNat else min v.toNat n
def cut {α : Type} (xs : List α) (lo hi : Option Int) : List α := (xs.drop (sIx xs.length 0 lo)).take (sIx xs.length xs.length hi - sIx xs.length 0 lo)
def slice (x : D) (l h : Option Int) : Option D := match x with
  | .list xs => some (.list (cut xs l h))
  | .tuple xs => some (.tuple (cut xs l h))
  | _ => none

def mnL : List Int → Option Int
  | [] => none
  | x :: r => some (r.foldl min x)
def mxL : List Int → Option Int
  | [] => none
  | x :: r => some (r.foldl max x)
/-- data that can be put in order -/
def AlkB (xs : List D) : Bool := xs.all fun x => xs.all (PySem.W.alike x) && !(match x with | .none => true | _ => false)
def SrtB (xs : List D) : Bool := (xs.all fun x => match x with | .tuple _ => true | _ => false) || xs.all fun x => match x with | .none => false | .tuple _ => false | _ => true
def flatD : D → Bool
  | .list _ => false
  | .dict _ => false
  | _ => true
abbrev leD (x y : D) : Bool := PySem.W.dataLe false (fun d : D => d) x y
abbrev sortD (xs : List D) : List D := xs.mergeSort leD
def ordB (xs : List D) : Bool := okds xs 39 && AlkB xs && xs.all flatD
def mnD (xs : List D) : Option D := match intsOf xs with
  | some ns => (mnL ns).map .int
  | none => match xs with
    | x :: r => if ordB (x :: r) then some (PySem.W.minD x r) else none
    | [] => none
def mxD (xs : List D) : Option D := match intsOf xs with
  | some ns => (mxL ns).map .int
  | none => match xs with
    | x :: r => if ordB (x :: r) then some (PySem.W.maxD x r) else none
    | [] => none
/-- pairs of a key and a value -/
def prsK : List D → Option (List (D × D))
  | [] => some []
  | .tuple [k, v] :: r => if isKey k then (prsK r).map ((k, v) :: ·) else none
  | _ :: _ => none
def mergeD (ps : List (D × D)) : List (D × D) := ps.foldl (fun a p => dput a p.1 p.2) []
def strsOf : List D → Option (List Str)
  | [] => some []
  | .str x :: r => (strsOf r).map (x :: ·)
  | _ => none
def srtS (ks : List Str) : List Str := ks.mergeSort fun a b => decide (¬ b.cps.toList < a.cps.toList)
def srtI (ks : List Int) : List Int := ks.mergeSort fun a b => decide (a ≤ b)
/-- tuples of ints, the empty one among them -/
def tupI0 : D → Option (List Int)
  | .tuple xs => intsOf xs
  | _ => none
def tupsI0 : List D → Option (List (List Int))
  | [] => some []
  | d :: r => (tupI0 d).bind fun k => (tupsI0 r).map (k :: ·)
def srtL (ks : List (List Int)) : List (List Int) := ks.mergeSort fun a b => decide (¬ b < a)
/-- pairs of a tuple that is a key, and a value -/
def prsT : List D → Option (List (D × D))
  | [] => some []
  | .tuple [k, v] :: r => if isKeyT k && freeK k then (prsT r).map ((k, v) :: ·) else none
  | _ :: _ => none
def bltop (b : Blt) (ds : List D) : Option D := match b, ds with
  | .abs, [.int i] => some (.int (if i < 0 then -i else i))
  | .int, [.int i] => some (.int i)
  | .int, [.bool b] => some (.int (if b then 1 else 0))
  | .len, [.list xs] => some (.int xs.length)
  | .len, [.tuple xs] => some (.int xs.length)
  | .len, [.dict [(.none, .list xs)]] => some (.int xs.length)
  | .len, [.dict kvs] => if dOk kvs then some (.int kvs.length) else none
  | .len, [.str z] => if z.length ≤ LIM then some (.int z.length) else none
  | .min2, [.int i, .int j] => some (.int (if j < i then j else i))
  | .min2, [x, y] => if ordB [x, y] then some (if PySem.W.dataLt y x = true then y else x) else none
  | .max2, [.int i, .int j] => some (.int (if j > i then j else i))
  | .max2, [x, y] => if ordB [x, y] then some (if PySem.W.dataLt x y = true then y else x) else none
  | .mn, [.list xs] => mnD xs
  | .mn, [.tuple xs] => mnD xs
  | .mx, [.list xs] => mxD xs
  | .mx, [.tuple xs] => mxD xs
  | .sum, [.list xs] => (intsOf xs).map fun ns => .int ns.sum
  | .sum, [.tuple xs] => (intsOf xs).map fun ns => .int ns.sum
  | .sorted, [.list xs] => if okds xs 39 && AlkB xs && SrtB xs then some (.list (sortD xs)) else none
  | .sorted, [.tuple xs] => if okds xs 39 && AlkB xs && SrtB xs then some (.list (sortD xs)) else none
  | .sorted, [.dict kvs] => if dOk kvs then match intsOf (kvs.map Prod.fst) with
    | some ks => if ks.length < 64 then some (.list ((srtI ks).map .int)) else none
    | none => (strsOf (kvs.map Prod.fst)).bind fun ks => if ks.length < 64 then some (.list ((srtS ks).map .str)) else none
    else if tOk kvs then (tupsI0 (kvs.tail.map Prod.fst)).bind fun ks => if ks.length < 64 then some (.list ((srtL ks).map fun k => .tuple (k.map .int))) else none
    else none
  | .dictT, [.list xs] => (prsT xs).map fun ps => .dict (tMark :: mergeD ps)
  | .min2, [.int i, .int j, .int k] => some (.int (if k < (if j < i then j else i) then k else if j < i then j else i))
  | .all, [.list xs] => (boolsOf xs).map fun bs => .bool (bs.all id)
  | .any, [.list xs] => (boolsOf xs).map fun bs => .bool (bs.any id)
  | .tuple, [.list xs] => some (.tuple xs)
  | .tuple, [.tuple xs] => some (.tuple xs)
  | .list, [.list xs] => some (.list xs)
  | .list, [.tuple xs] => some (.list xs)
  | .list, [.dict kvs] => if dOk kvs then some (.list (kvs.map Prod.fst)) else none
  | .dict, [.dict kvs] => if dOk kvs then some (.dict kvs) else none
  | .dict, [.list xs] => (prsK xs).map fun ps => .dict (mergeD ps)
  | _, _ => none
def mthop (m : Mth) (x : D) (ds : List D) : Option D := match m, x, ds with
  | .get1, .dict kvs, [k] => (dlook kvs k).map fun o => o.getD .none
  | .get2, .dict kvs, [k, d] => (dlook kvs k).map fun o => o.getD d
  | _, _, _ => none
/-- what comes back, and the content behind it -/
def mutop (m : Mut) (x : D) (ds : List D) : Option (D × D) := match m, x, ds with
  | .append, .list xs, [d] => if xs.length < LIM then some (.none, .list (xs ++ [d])) else none
  | .extend, .list xs, [.list ys] => if xs.length + ys.length ≤ LIM then some (.none, .list (xs ++ ys)) else none
  | .pop, .list xs, [] => (xs[xs.length - 1]?).map fun y => (y, .list xs.dropLast)
  | .popA, .list xs, [.int i] => if 0 ≤ i ∧ i < xs.length ∧ i < 1000000 then (xs[i.toNat]?).map fun y => (y, .list (xs.eraseIdx i.toNat)) else none
  | _, _, _ => none
/-- what a for or a comprehension walks -/
def itemsOf : D → Option (List D)
  | .list xs => some xs
  | .tuple xs => some xs
  | _ => none
def rngI (lo : Int) (n : Nat) : List D := (List.range n).map fun i => .int (lo + (i : Nat))
def rng (ds : List D) : Option D := match ds with
  | [.int j] => if -4611686018427387904 ≤ j ∧ j < 4611686018427387904 ∧ j.toNat ≤ LIM then some (.list (rngI 0 j.toNat)) else none
  | [.int i, .int j] => if -4611686018427387904 ≤ i ∧ i < 4611686018427387904 ∧ -4611686018427387904 ≤ j ∧ j < 4611686018427387904 ∧ (j - i).toNat ≤ LIM then some (.list (rngI i (j - i).toNat)) else none
  | _ => none

/-- sorted(set(l)), ints -/
def insS (k : Int) : List Int → List Int
  | [] => [k]
  | x :: r => if k < x then k :: x :: r else if k = x then x :: r else x :: insS k r
def dsort (ns : List Int) : List Int := ns.foldr insS []
def insT (k : List Int) : List (List Int) → List (List Int)
  | [] => [k]
  | x :: r => if k < x then k :: x :: r else if k = x then x :: r else x :: insT k r
def dsortT (ks : List (List Int)) : List (List Int) := ks.foldr insT []
/-- a tuple of ints, not empty -/
def tupI : D → Option (List Int)
  | .tuple (x :: xs) => intsOf (x :: xs)
  | _ => none
def tupsI : List D → Option (List (List Int))
  | [] => some []
  | d :: r => (tupI d).bind fun k => (tupsI r).map (k :: ·)
def srsD : D → Option D
  | .list xs => match tupsI xs with
    | some (k :: ks) => if ks.length < 60 then some (.list ((dsortT (k :: ks)).map fun k => .tuple (k.map .int))) else none
    | _ => (intsOf xs).bind fun ns => if ns.length ≤ 60 then some (.list ((dsort ns).map .int)) else none
  | .tuple xs => (intsOf xs).bind fun ns => if ns.length ≤ 60 then some (.list ((dsort ns).map .int)) else none
  | _ => none
/-- l.index(k), ints -/
def lixD : D → D → Option D
  | .list xs, .int k => (intsOf xs).bind fun ns => if k ∈ ns then some (.int ((ns.idxOf k : Nat) : Int)) else none
  | _, _ => none
/-- l.count(k), ints -/
def cntD : D → D → Option D
  | .list xs, .int k => (intsOf xs).map fun ns => .int (ns.count k : Nat)
  | .list xs, .list ys => if okD (.list xs) && okD (.list ys) then some (.int (xs.countP fun z => PyData.eqv z (.list ys) : Nat)) else none
  | .list xs, .tuple ys => if okD (.list xs) && okD (.tuple ys) then some (.int (xs.countP fun z => PyData.eqv z (.tuple ys) : Nat)) else none
  | _, _ => none
/-- range(i, j, k), k from 1 on -/
def stepN (i j k : Int) : Nat := if i < j then ((j - i - 1) / k + 1).toNat else 0
def rngC (lo c : Int) (n : Nat) : List D := (List.range n).map fun i => .int (lo + (i : Nat) * c)
/-- list(zip(a, b)) of two tuples -/
def lzS : List D → Option D
  | [.tuple xs, .tuple ys] => some (.list (List.zipWith (fun a b => .tuple [a, b]) xs ys))
  | _ => none
def rngS (ds : List D) : Option D := match ds with
  | [.int i, .int j, .int k] => if -1099511627776 ≤ i ∧ i < 1099511627776 ∧ -1099511627776 ≤ j ∧ j < 1099511627776 ∧ 1 ≤ k ∧ k < 1048576 ∧ stepN i j k ≤ LIM then some (.list (rngC i k (stepN i j k))) else if -1099511627776 ≤ i ∧ i < 1099511627776 ∧ -1099511627776 ≤ j ∧ j < 1099511627776 ∧ k = -1 ∧ (i - j).toNat ≤ LIM then some (.list (rngC i k (i - j).toNat)) else none
  | _ => none

/-- x[::-1] -/
def revD : D → Option D
  | .list xs => some (.list xs.reverse)
  | .tuple xs => some (.tuple xs.reverse)
  | _ => none
/-- isinstance -/
inductive Ty where | int | bool | str | tuple | list | dict
def isTy : D → Ty → Option Bool
  | .none, _ => some false
  | .bool _, .int => some true
  | .bool _, .bool => some true
  | .bool _, _ => some false
  | .int _, .int => some true
  | .int _, _ => some false
  | .str _, .str => some true
  | .str _, _ => some false
  | .list _, .list => some true
  | .list _, _ => some false
  | .tuple _, .tuple => some true
  | .tuple _, _ => some false
  | .dict kvs, t => if dOk kvs then some (match t with | .dict => true | _ => false) else none
def zipD (x y : D) : Option D := match x, y with
  | .list xs, .list ys => some (.list (List.zipWith (fun a b => .tuple [a, b]) xs ys))
  | .tuple xs, .tuple ys => some (.list (List.zipWith (fun a b => .tuple [a, b]) xs ys))
  | _, _ => none
/-- x in range(..) -/
def inRng (x : D) (ds : List D) : Option Bool := match x, ds with
  | .int i, [.int j] => some (decide (0 ≤ i ∧ i < j))
  | .int i, [.int a, .int j] => some (decide (a ≤ i ∧ i < j))
  | _, _ => none
/-- d.update(e), keys tuples of ints; into an empty dict: hashes apart -/
def hashT (k : List Int) : Int := reduceHash (Builtin.Tuple.tupleHashOf (k.map hashInt))
def hashOk (kvs : List (D × D)) : Bool := match tupsI0 (kvs.map Prod.fst) with
  | some ks => decide (ks.map hashT).Nodup
  | none => false
def isTd : D → Bool
  | .dict kvs => tOk kvs
  | _ => false
def updD (x y : D) : Option D := match x, y with
  | .dict kvs, .dict ms => if tOk kvs && tOk ms && decide (kvs.tail.length + ms.tail.length ≤ LIM) && (!kvs.tail.isEmpty || hashOk ms.tail) then some (.dict (tMark :: ms.tail.foldl (fun a p => dput a p.1 p.2) kvs.tail)) else none
  | _, _ => none
/-! ### the language -/
inductive Tg where
  | name (i : Nat)
  | tup (ts : List Tg)
inductive IR where
  | k (d : D)
  | var (i : Nat)
  | glb (g : Nat)
  | bin (o : Bop) (a b : IR)
  | neg (a : IR)
  | not (a : IR)
  | cmp (o : Cop) (a b : IR)
  | chain (o1 o2 : Cop) (a b c : IR)
  | chn3 (o1 o2 o3 : Cop) (a b c d : IR)
  | and (a b : IR)
  | or (a b : IR)
  | ite (c a b : IR)
  | tup (xs : List IR)
  | lst (xs : List IR)
  | dct (kvs : List IR)
  | dctT
  | idx (a i : IR)
  | slc (a lo hi : IR)
  | rev (a : IR)
  | call (f : Nat) (ios : List Nat) (args : List IR)
  | blt (b : Blt) (args : List IR)
  | mth (m : Mth) (o : IR) (args : List IR)
  | mut (m : Mut) (i : Nat) (args : List IR)
  | upd (i : Nat) (e : IR)
  | rng (args : List IR)
  | rgs (args : List IR)
  | srs (e : IR)
  | lix (o e : IR)
  | cnt (o e : IR)
  | comp (elt : IR) (t : Tg) (s : IR) (c : IR) (own : List Nat)
  | fz (a : IR)
  | lrg (args : List IR)
  | lrs (args : List IR)
  | lzp (args : List IR)
  | trg (args : List IR)
  | zip (a b : IR)
  | inr (neg : Bool) (a : IR) (args : List IR)
  | isi (a : IR) (t : Ty)
  | kys (i : Nat)
  | callB (f : Nat) (is : List Nat)
  | comp2 (elt : IR) (t : Tg) (s : IR) (c : IR) (own : List Nat) (t1 : Tg) (s1 : IR) (c1 : IR) (own1 : List Nat)
inductive SIR where
  | asg (t : Tg) (e : IR)
  | par (ts : List Nat) (es : List IR)
  | aug (i : Nat) (o : Bop) (e : IR)
  | augS (i : Nat) (ix : IR) (o : Bop) (e : IR)
  | setS (i : Nat) (ix e : IR)
  | parS (i j : Nat) (ix ea eb : IR)
  | exp (e : IR)
  | ret (e : IR)
  | ite (c : IR) (a b : List SIR)
  | for (t : Tg) (s : IR) (b : List SIR)
  | while (c : IR) (b : List SIR)
  | brk
  | ct
  | pass
inductive Out where
  | nx (E : Env)
  | ret (d : D) (E : Env)
  | brk (E : Env)
  | ct (E : Env)
/-- a slice's end: left out, or an int -/
def optX (ir : IR) (d : D) : Option (Option Int) := match ir with
  | .k .none => some none
  | _ => match d with
    | .int i => some (some i)
    | _ => none
/-- calls and the module's constants -/
structure Ctx where
  cf : Nat → List D → Option (D × List D)
  gl : List D

/-- an operand: a value, or a name's own content, looked at when it is used -/
inductive Tok where
  | val (d : D)
  | bor (i : Nat)
def Tok.get : Tok → Env → Option D
  | .val d, _ => some d
  | .bor i, E => (gets E i).cont
/-- a name whose list is walked is not looked at meanwhile -/
def Tok.hold : Tok → List Nat
  | .val _ => []
  | .bor i => [i]
def isL : Option D → Bool
  | some (.list _) => true
  | _ => false
def isD : D → Bool
  | .dict kvs => dOk kvs || tOk kvs
  | _ => false
/-- what l[k] op= e may stand at -/
def isM : D → Bool
  | .list _ => true
  | d => isD d
def isM2 : D → D → Bool
  | .list _, .list _ => true
  | .dict _, d => isD d
  | _, _ => false
def opd (a : IR) (r : Env → Option (D × Env)) (E : Env) : Option (Tok × Env) := match a with
  | .var i => match gets E i with
    | .un => none
    | _ => some (.bor i, E)
  | _ => (r E).map fun p => (.val p.1, p.2)
def toks (E : Env) : List Tok → Option (List D)
  | [] => some []
  | t :: r => (t.get E).bind fun d => (toks E r).map (d :: ·)

mutual
def assignT : Tg → D → Env → Option Env
  | .name i, d, E => match gets E i with
    | .io _ => none
    | _ => some (E.set i (.sh d))
  | .tup ts, d, E => match d with
    | .tuple ds => assignTs ts ds E
    | .list ds => assignTs ts ds E
    | _ => none
def assignTs : List Tg → List D → Env → Option Env
  | [], ds, E => match ds with
    | [] => some E
    | _ => none
  | t :: ts, ds, E => match ds with
    | d :: r => (assignT t d E).bind fun E1 => assignTs ts r E1
    | [] => none
end
def wipes (E : Env) : List Nat → Env
  | [] => E
  | i :: r => (wipes E r).set i .un
/-- behind a block: its own names' slots as they stood ahead of it -/
def backs (E0 E : Env) : List Nat → Env
  | [] => E
  | i :: r => (backs E0 E r).set i (gets E0 i)
def compL (asg : D → Env → Option Env) (own : List Nat) (c e : Env → Option (D × Env)) : List D → Env → Option (List D × Env)
  | [], E => some ([], E)
  | x :: r, E => (asg x E).bind fun E1 => (c E1).bind fun (b, E2) => match b with
    | .bool true => (e E2).bind fun (y, E3) => (compL asg own c e r (wipes E3 own)).map fun (ys, E4) => (y :: ys, E4)
    | .bool false => compL asg own c e r (wipes E2 own)
    | _ => none
/-- two for in a block -/
def compL2 (asg : D → Env → Option Env) (own : List Nat) (c : Env → Option (D × Env)) (inn : Env → Option (List D × Env)) : List D → Env → Option (List D × Env)
  | [], E => some ([], E)
  | x :: r, E => (asg x E).bind fun E1 => (c E1).bind fun (b, E2) => match b with
    | .bool true => (inn E2).bind fun (zs, E3) => (compL2 asg own c inn r (wipes E3 own)).map fun (ys, E4) => (zs ++ ys, E4)
    | .bool false => compL2 asg own c inn r (wipes E2 own)
    | _ => none
def mines (E : Env) : List Nat → Option (List D)
  | [] => some []
  | i :: r => (mine E i).bind fun d => (mines E r).map (d :: ·)
def putL (E : Env) : List Nat → List D → Option Env
  | [], [] => some E
  | i :: r, d :: ds => (puts E i d).bind fun E1 => putL E1 r ds
  | _, _ => none
/-- a display's keys and values, in turn -/
def dputs : List D → List (D × D) → Option (List (D × D))
  | [], acc => some acc
  | [_], _ => none
  | k :: v :: r, acc => if isKey k then dputs r (dput acc k v) else none

/-- names' contents, lent -/
def conts (E : Env) : List Nat → Option (List D)
  | [] => some []
  | i :: r => (gets E i).cont.bind fun d => (conts E r).map (d :: ·)
def flatR : D → Bool
  | .none => true
  | .bool _ => true
  | .int _ => true
  | .str _ => true
  | _ => false
/-- a name's own value, let go -/
def varE (E : Env) (i : Nat) : Option (D × Env) := match gets E i with
  | .sh d => some (d, E)
  | .ow d => some (d, E.set i (.sh d))
  | _ => none
/-- a dict's keys (ints and texts), to be walked -/
def keysD : D → Option D
  | .dict kvs => if dOk kvs && decide (kvs.length ≤ LIM) then some (.list (kvs.map Prod.fst)) else if tOk kvs && decide (kvs.tail.length ≤ LIM) then some (.list (kvs.tail.map Prod.fst)) else none
  | _ => none

mutual
def ev (C : Ctx) : IR → Env → Option (D × Env)
  | .k d, E => some (d, E)
  | .callB f is, E => (conts E is).bind fun ds => (C.cf f ds).bind fun p => if flatR p.1 && p.2.isEmpty then some (p.1, E) else none
  | .kys i, E => (varE E i).bind fun p => (keysD p.1).map fun z => (z, p.2)
  | .var i, E => match gets E i with
    | .sh d => some (d, E)
    | .ow d => some (d, E.set i (.sh d))
    | _ => none
  | .glb g, E => C.gl[g]?.map fun d => (d, E)
  | .bin o a b, E => (opd a (ev C a) E).bind fun (t, E1) => (opd b (ev C b) E1).bind fun (u, E2) => (t.get E2).bind fun x => (u.get E2).bind fun y => (binop o x y).map fun z => (z, E2)
  | .neg a, E => (ev C a E).bind fun (x, E1) => match x with
    | .int i => some (.int (-i), E1)
    | _ => none
  | .not a, E => (ev C a E).bind fun (x, E1) => match x with
    | .bool b => some (.bool (!b), E1)
    | _ => none
  | .cmp o a b, E => (opd a (ev C a) E).bind fun (t, E1) => (opd b (ev C b) E1).bind fun (u, E2) => (t.get E2).bind fun x => (u.get E2).bind fun y => (cmpop o x y).map fun z => (.bool z, E2)
  | .chain o1 o2 a b c, E => (opd a (ev C a) E).bind fun (t, E1) => (opd b (ev C b) E1).bind fun (u, E2) => (t.get E2).bind fun x => (u.get E2).bind fun y => (cmpop o1 x y).bind fun z => match z with
    | true => (opd c (ev C c) E2).bind fun (v, E3) => (u.get E3).bind fun y => (v.get E3).bind fun w => (cmpop o2 y w).map fun z => (.bool z, E3)
    | false => some (.bool false, E2)
  | .chn3 o1 o2 o3 a b c d, E => (opd a (ev C a) E).bind fun (t, E1) => (opd b (ev C b) E1).bind fun (u, E2) => (t.get E2).bind fun x => (u.get E2).bind fun y => (cmpop o1 x y).bind fun z => match z with
    | true => (opd c (ev C c) E2).bind fun (v, E3) => (u.get E3).bind fun y => (v.get E3).bind fun w => (cmpop o2 y w).bind fun z => match z with
      | true => (opd d (ev C d) E3).bind fun (v4, E4) => (v.get E4).bind fun w => (v4.get E4).bind fun w4 => (cmpop o3 w w4).map fun z => (.bool z, E4)
      | false => some (.bool false, E3)
    | false => some (.bool false, E2)
  | .and a b, E => (ev C a E).bind fun (x, E1) => match x with
    | .bool true => ev C b E1
    | .bool false => some (.bool false, E1)
    | _ => none
  | .or a b, E => (ev C a E).bind fun (x, E1) => match x with
    | .bool true => some (.bool true, E1)
    | .bool false => ev C b E1
    | _ => none
  | .ite c a b, E => (ev C c E).bind fun (x, E1) => match x with
    | .bool true => ev C a E1
    | .bool false => ev C b E1
    | _ => none
  | .tup xs, E => (evs C xs E).bind fun (ds, E1) => if ds.length ≤ LIM then some (.tuple ds, E1) else none
  | .lst xs, E => (evs C xs E).bind fun (ds, E1) => if ds.length ≤ LIM then some (.list ds, E1) else none
  | .dctT, E => some (.dict [tMark], E)
  | .dct xs, E => (evs C xs E).bind fun (ds, E1) => if ds.length ≤ 30 then (dputs ds []).map fun kvs => (.dict kvs, E1) else none
  | .idx a i, E => (opd a (ev C a) E).bind fun (t, E1) => (ev C i E1).bind fun (k, E2) => (t.get E2).bind fun x => (item x k).map fun z => (z, E2)
  | .slc a lo hi, E => (opd a (ev C a) E).bind fun (t, E1) => (ev C lo E1).bind fun (l, E2) => (ev C hi E2).bind fun (h, E3) => (t.get E3).bind fun x => (optX lo l).bind fun l => (optX hi h).bind fun h => (slice x l h).map fun z => (z, E3)
  | .rev a, E => (opd a (ev C a) E).bind fun (t, E1) => (t.get E1).bind fun x => (revD x).map fun z => (z, E1)
  | .call f ios args, E => (mines E ios).bind fun _ => (evs C args E).bind fun (ds, E1) => (mines E1 ios).bind fun cs => (C.cf f (cs ++ ds)).bind fun (r, cs') => (putL E1 ios cs').map fun E2 => (r, E2)
  | .blt b args, E => (evo C args E).bind fun (ts, E1) => (toks E1 ts).bind fun ds => (bltop b ds).map fun z => (z, E1)
  | .mth m o args, E => (opd o (ev C o) E).bind fun (t, E1) => (t.get E1).bind fun x => if isD x then (evs C args E1).bind fun (ds, E2) => (t.get E2).bind fun x => (mthop m x ds).map fun z => (z, E2) else none
  | .lix o e, E => (opd o (ev C o) E).bind fun (t, E1) => (t.get E1).bind fun x => if isL (some x) then (ev C e E1).bind fun (y, E2) => (t.get E2).bind fun x => (lixD x y).map fun z => (z, E2) else none
  | .cnt o e, E => (opd o (ev C o) E).bind fun (t, E1) => (t.get E1).bind fun x => if isL (some x) then (ev C e E1).bind fun (y, E2) => (t.get E2).bind fun x => (cntD x y).map fun z => (z, E2) else none
  | .mut m i args, E => if isL (mine E i) then (evs C args E).bind fun (ds, E1) => (mine E1 i).bind fun x => (mutop m x ds).bind fun (z, x') => (puts E1 i x').map fun E2 => (z, E2) else none
  | .upd i e, E => if (mine E i).any isTd then (ev C e E).bind fun (y, E1) => (mine E1 i).bind fun x => (updD x y).bind fun x' => (puts E1 i x').map fun E2 => (.none, E2) else none
  | .fz a, E => ev C a E
  | .lrg args, E => (evs C args E).bind fun (ds, E1) => (rng ds).map fun z => (z, E1)
  | .lrs args, E => (evs C args E).bind fun (ds, E1) => (rngS ds).map fun z => (z, E1)
  | .lzp args, E => (evs C args E).bind fun (ds, E1) => (lzS ds).map fun z => (z, E1)
  | .trg args, E => (evs C args E).bind fun (ds, E1) => (rng ds).bind fun z => (itemsOf z).map fun xs => (.tuple xs, E1)
  | .zip a b, E => (ev C a E).bind fun (x, E1) => (ev C b E1).bind fun (y, E2) => (zipD x y).map fun z => (z, E2)
  | .inr n a args, E => (ev C a E).bind fun (x, E1) => (evs C args E1).bind fun (ds, E2) => (inRng x ds).map fun z => (.bool (if n then !z else z), E2)
  | .isi a t, E => (opd a (ev C a) E).bind fun (tk, E1) => (tk.get E1).bind fun x => (isTy x t).map fun z => (.bool z, E1)
  | .rng args, E => (evs C args E).bind fun (ds, E1) => (rng ds).map fun z => (z, E1)
  | .rgs args, E => (evs C args E).bind fun (ds, E1) => (rngS ds).map fun z => (z, E1)
  | .srs e, E => (ev C e E).bind fun (d, E1) => (srsD d).map fun z => (z, E1)
  | .comp elt t s c own, E => (opd s (ev C s) E).bind fun (tk, E1) => (tk.get E1).bind fun x => (itemsOf x).bind fun xs =>
      if xs.length ≤ LIM then (compL (assignT t) (tk.hold ++ own) (ev C c) (ev C elt) xs (wipes E1 (tk.hold ++ own))).map fun (ys, E2) => (.list ys, backs E1 E2 (tk.hold ++ own)) else none
  | .comp2 elt t s c own t1 s1 c1 own1, E => (opd s (ev C s) E).bind fun (tk, E1) => (tk.get E1).bind fun x => (itemsOf x).bind fun xs =>
      if xs.length ≤ LIM then (compL2 (assignT t) (tk.hold ++ own) (ev C c) (fun E2 => (opd s1 (ev C s1) E2).bind fun (tk1, E3) => (tk1.get E3).bind fun x1 => (itemsOf x1).bind fun xs1 =>
        (compL (assignT t1) (tk1.hold ++ own1) (ev C c1) (ev C elt) xs1 (wipes E3 (tk1.hold ++ own1))).map fun (ys, E4) => (ys, backs E3 E4 (tk1.hold ++ own1))) xs (wipes E1 (tk.hold ++ own))).bind fun (ys, E2) => if ys.length ≤ LIM then some (.list ys, backs E1 E2 (tk.hold ++ own)) else none else none
def evs (C : Ctx) : List IR → Env → Option (List D × Env)
  | [], E => some ([], E)
  | a :: r, E => (ev C a E).bind fun (d, E1) => (evs C r E1).map fun (ds, E2) => (d :: ds, E2)
def evo (C : Ctx) : List IR → Env → Option (List Tok × Env)
  | [], E => some ([], E)
  | a :: r, E => (opd a (ev C a) E).bind fun (t, E1) => (evo C r E1).map fun (ts, E2) => (t :: ts, E2)
end
end Pv

set_option Elab.async false
set_option linter.all false
set_option maxRecDepth 100000
/-! PvB: statements, defs, calls. -/
namespace Pv
open PySem

def isC : D → Bool
  | .list _ => true
  | .dict _ => true
  | _ => false
def isLst : IR → Bool
  | .lst _ => true
  | _ => false
def isNw : IR → Bool
  | .ite _ a b => isLst a && isLst b
  | .lst _ => true
  | .comp .. => true
  | .dct _ => true
  | .dctT => true
  | .blt .list _ => true
  | .blt .sorted _ => true
  | .srs _ => true
  | .blt .dict _ => true
  | .blt .dictT _ => true
  | .bin .add _ _ => true
  | .bin .mul _ _ => true
  | .slc .. => true
  | .rev _ => true
  | .lrg _ => true
  | .lrs _ => true
  | .lzp _ => true
  | .comp2 .. => true
  | _ => false
/-- is what an expression gives a new object, that nobody else holds -/
def isFr (e : IR) (d : D) : Bool := isNw e && isC d
def setV (E : Env) (i : Nat) (own : Bool) (d : D) : Option Env := match gets E i with
  | .io _ => none
  | _ => some (E.set i (if own then .ow d else .sh d))
/-- two ints; a list -/
def ii2 : List D → Option (Int × Int)
  | [.int a, .int b] => some (a, b)
  | _ => none
def lsM : D → Option (List D)
  | .list xs => some xs
  | _ => none
/-- several names at once; the values' expressions tell what is new -/
def parL : List Nat → List IR → List D → Env → Option Env
  | [], [], [], E => some E
  | i :: is, e :: es, d :: ds, E => (setV E i (isFr e d) d).bind fun E1 => parL is es ds E1
  | _, _, _, _ => none
def augop (o : Bop) (x y : D) : Option D := match o, x, y with
  | .add, .int i, .int j => some (.int (i + j))
  | .sub, .int i, .int j => some (.int (i - j))
  | .add, .str a, .str b => if a.length + b.length ≤ LIM then some (.str (a ++ b)) else none
  | _, _, _ => none
/-- o[k] = v -/
def setItem (x k v : D) : Option D := match x, k with
  | .list xs, .int i => (at? xs.length i).map fun j => .list (xs.set j v)
  | .dict kvs, k => if isKey k && dOk kvs && decide (kvs.length < LIM) then some (.dict (dput kvs k v)) else if isKeyT k && (freeK k && (tOk kvs && decide (kvs.tail.length < LIM))) then some (.dict (tMark :: dput kvs.tail k v)) else none
  | _, _ => none
def bindOut (o : Option Out) (f : Env → Option Out) : Option Out := match o with
  | some (.nx E) => f E
  | r => r
def whileL (c : Env → Option (D × Env)) (b : Env → Option Out) : Nat → Env → Option Out
  | 0, _ => none
  | n + 1, E => match c E with
    | some (.bool true, E1) => match b E1 with
      | some (.nx E2) => whileL c b n E2
      | some (.ct E2) => whileL c b n E2
      | some (.brk E2) => some (.nx E2)
      | r => r
    | some (.bool false, E1) => some (.nx E1)
    | _ => none
def forL (asg : D → Env → Option Env) (b : Env → Option Out) : List D → Env → Option Out
  | [], E => some (.nx E)
  | x :: r, E => (asg x E).bind fun E1 => match b E1 with
    | some (.nx E2) => forL asg b r E2
    | some (.ct E2) => forL asg b r E2
    | some (.brk E2) => some (.nx E2)
    | o => o
def WF : Nat := 1000000
mutual
def exec (C : Ctx) : SIR → Env → Option Out
  | .asg t e, E => (ev C e E).bind fun (d, E1) => match t with
    | .name i => (setV E1 i (isFr e d) d).map .nx
    | t => (assignT t d E1).map .nx
  | .par is es, E => (evs C es E).bind fun (ds, E1) => (parL is es ds E1).map .nx
  | .aug i o e, E => match (gets E i).cont with
    | some x => (ev C e E).bind fun (y, E1) => (augop o x y).bind fun z => (setV E1 i false z).map .nx
    | none => none
  | .augS i ix o e, E => (mine E i).bind fun _ => (ev C ix E).bind fun (k, E1) => (mine E1 i).bind fun x => if isM x then (item x k).bind fun old => (ev C e E1).bind fun (y, E2) => (augop o old y).bind fun z => (mine E2 i).bind fun x2 => if isM2 x x2 then (setItem x2 k z).bind fun x' => (puts E2 i x').map .nx else none else none
  | .setS i ix e, E => (ev C e E).bind fun (v, E1) => (mine E1 i).bind fun _ => (ev C ix E1).bind fun (k, E2) => (mine E2 i).bind fun x => (setItem x k v).bind fun x' => (puts E2 i x').map .nx
  | .parS i j ix ea eb, E => (evs C [ea, eb] E).bind fun (ds, E1) => (ii2 ds).bind fun p => (setV E1 i false (.int p.1)).bind fun E2 => (mine E2 j).bind fun _ => (ev C ix E2).bind fun (k, E3) => (mine E3 j).bind fun x => (lsM x).bind fun xs => (setItem (.list xs) k (.int p.2)).bind fun x' => (puts E3 j x').map .nx
  | .exp e, E => (ev C e E).map fun p => .nx p.2
  | .ret e, E => (ev C e E).map fun p => .ret p.1 p.2
  | .ite c a b, E => (ev C c E).bind fun (x, E1) => match x with
    | .bool true => execs C a E1
    | .bool false => execs C b E1
    | _ => none
  | .for t s b, E => (ev C s E).bind fun (x, E1) => (itemsOf x).bind fun xs => forL (assignT t) (execs C b) xs E1
  | .while c b, E => whileL (ev C c) (execs C b) WF E
  | .brk, E => some (.brk E)
  | .ct, E => some (.ct E)
  | .pass, E => some (.nx E)
def execs (C : Ctx) : List SIR → Env → Option Out
  | [], E => some (.nx E)
  | s :: r, E => bindOut (exec C s E) (execs C r)
end
structure FDef where
  nio : Nat
  np : Nat
  ns : Nat
  body : List SIR
def startE (F : FDef) (args : List D) : Env := (args.take F.nio).map .io ++ (args.drop F.nio).map .sh ++ List.replicate (F.ns - args.length) .un
def iosOf (E : Env) : Nat → Option (List D)
  | 0 => some []
  | n + 1 => (iosOf E n).bind fun ds => match gets E n with
    | .io d => some (ds ++ [d])
    | _ => none
def runDef (C : Ctx) (F : FDef) (args : List D) : Option (D × List D) :=
  if args.length = F.np ∧ F.nio ≤ F.np ∧ F.np ≤ F.ns then
    match execs C F.body (startE F args) with
    | some (.nx E) => (iosOf E F.nio).map fun cs => (.none, cs)
    | some (.ret d E) => (iosOf E F.nio).map fun cs => (d, cs)
    | _ => none
  else none
def callN (T : List FDef) (gl : List D) : Nat → Nat → List D → Option (D × List D)
  | 0, _, _ => none
  | n + 1, f, args => match T[f]? with
    | some F => runDef ⟨callN T gl n, gl⟩ F args
    | none => none
end Pv

set_option Elab.async false
set_option linter.all false
set_option maxRecDepth 100000
/-! PvC: what data stands at a value in a heap; a frame's state beside the interpreter's. -/
namespace Pv
open PySem L2

/-- a tuple that is tracked, or one of the row's constants -/
def TupR (K : PySem.W.Frag) (G : Hp) (a : Addr) (xs : List V) (ds : List D) : Prop := G a = some (.tup xs) ∨ SqT K G a xs ∧ ctB ds = true
theorem TupR.sq {K : PySem.W.Frag} {G : Hp} {a : Addr} {xs : List V} {ds : List D} (h : TupR K G a xs ds) : SqT K G a xs := h.elim SqT.of And.left
mutual
inductive Rp (K : PySem.W.Frag) (G : Hp) : V → D → Prop
  | non : Rp K G .non .none
  | bl (b : Bool) : Rp K G (.bl b) (.bool b)
  | int (i : Int) : Rp K G (.int i) (.int i)
  | str (x : Str) : Rp K G (.str x) (.str x)
  | lst {a : Addr} {xs : List V} {ds : List D} : G a = some (.lst xs) → RpAll K G xs ds → Rp K G (.ref a) (.list ds)
  | frz {a : Addr} {xs : List V} {ds : List D} : SqL K G a xs → RpAll K G xs ds → Rp K G (.ref a) (.dict [(.none, .list ds)])
  | tup {a : Addr} {xs : List V} {ds : List D} : TupR K G a xs ds → RpAll K G xs ds → Rp K G (.ref a) (.tuple ds)
  | dK {a : Addr} {ks : List (Key × V)} {kvs : List (D × D)} : Rd G a (.dK ks) → RpKV K G ks kvs → Rp K G (.ref a) (.dict kvs)
  | dT {a : Addr} {ks : List (List Key × V)} {kvs : List (D × D)} : Rd G a (.dT ks) → RpKT K G ks kvs → Rp K G (.ref a) (.dict (tMark :: kvs))
inductive RpAll (K : PySem.W.Frag) (G : Hp) : List V → List D → Prop
  | nil : RpAll K G [] []
  | cons {v : V} {vs : List V} {d : D} {ds : List D} : Rp K G v d → RpAll K G vs ds → RpAll K G (v :: vs) (d :: ds)
inductive RpKV (K : PySem.W.Frag) (G : Hp) : List (Key × V) → List (D × D) → Prop
  | nil : RpKV K G [] []
  | cons {k : Key} {v : V} {ks : List (Key × V)} {d : D} {kvs : List (D × D)} : Rp K G v d → RpKV K G ks kvs → RpKV K G ((k, v) :: ks) ((keyD k, d) :: kvs)
inductive RpKT (K : PySem.W.Frag) (G : Hp) : List (List Key × V) → List (D × D) → Prop
  | nil : RpKT K G [] []
  | cons {k : List Key} {v : V} {ks : List (List Key × V)} {d : D} {kvs : List (D × D)} : Rp K G v d → RpKT K G ks kvs → RpKT K G ((k, v) :: ks) ((keyTD k, d) :: kvs)
end
theorem Same.rd {G G' : Hp} {a : Addr} {u : HO} (s : Same G G') (h : Rd G a u) : Rd G' a u := by
  rcases h with h | ⟨o, h⟩
  · exact .inl (s _ _ h)
  · exact .inr ⟨o, s _ _ h⟩
theorem Same.sqT {K : PySem.W.Frag} {G G' : Hp} {a : Addr} {xs : List V} (s : Same G G') (h : SqT K G a xs) : SqT K G' a xs := by
  rcases h with h | h
  · exact .inl (Same.rd s h)
  · exact .inr h
theorem Same.sqL {K : PySem.W.Frag} {G G' : Hp} {a : Addr} {xs : List V} (s : Same G G') (h : SqL K G a xs) : SqL K G' a xs := by
  rcases h with h | h
  · exact .inl (Same.rd s h)
  · exact .inr h
section
variable {K : PySem.W.Frag} {G G' H H' : Hp}
mutual
theorem Rp.mono (s : Same G G') : ∀ (d : D) (v : V), Rp K G v d → Rp K G' v d
  | .none, _, h => by cases h; exact .non
  | .bool _, _, h => by cases h; exact .bl _
  | .int _, _, h => by cases h; exact .int _
  | .str _, _, h => by cases h; exact .str _
  | .list ds, _, h => by
    cases h with
    | lst h1 h2 => exact .lst (s _ _ h1) (RpAll.mono s ds _ h2)
  | .tuple ds, _, h => by
    cases h with
    | tup h1 h2 => exact .tup (h1.imp (s _ _) fun h => ⟨Same.sqT s h.1, h.2⟩) (RpAll.mono s ds _ h2)
  | .dict kvs, _, h => by
    cases h with
    | dK h1 h2 => exact .dK (Same.rd s h1) (RpKV.mono s kvs _ h2)
    | @frz a xs ds h1 h2 => exact .frz (Same.sqL s h1) (RpAll.mono s ds _ h2)
    | @dT a ks r h1 h2 => exact .dT (Same.rd s h1) (RpKT.mono s r _ h2)
theorem RpAll.mono (s : Same G G') : ∀ (ds : List D) (vs : List V), RpAll K G vs ds → RpAll K G' vs ds
  | [], _, h => by cases h; exact .nil
  | d :: ds, _, h => by
    cases h with
    | cons h1 h2 => exact .cons (Rp.mono s d _ h1) (RpAll.mono s ds _ h2)
theorem RpKV.mono (s : Same G G') : ∀ (kvs : List (D × D)) (ks : List (Key × V)), RpKV K G ks kvs → RpKV K G' ks kvs
  | [], _, h => by cases h; exact .nil
  | (k, d) :: kvs, _, h => by
    cases h with
    | cons h1 h2 => exact .cons (Rp.mono s d _ h1) (RpKV.mono s kvs _ h2)
theorem RpKT.mono (s : Same G G') : ∀ (kvs : List (D × D)) (ks : List (List Key × V)), RpKT K G ks kvs → RpKT K G' ks kvs
  | [], _, h => by cases h; exact .nil
  | (k, d) :: kvs, _, h => by
    cases h with
    | cons h1 h2 => exact .cons (Rp.mono s d _ h1) (RpKT.mono s kvs _ h2)
end
theorem Rp.up (s : Same G G') {d : D} {v : V} (h : Rp K G v d) : Rp K G' v d := Rp.mono s d v h
theorem RpAll.up (s : Same G G') {ds : List D} {vs : List V} (h : RpAll K G vs ds) : RpAll K G' vs ds := RpAll.mono s ds vs h
theorem RpKT.up (s : Same G G') {kvs : List (D × D)} {ks : List (List Key × V)} (h : RpKT K G ks kvs) : RpKT K G' ks kvs := RpKT.mono s kvs ks h
theorem RpKV.up (s : Same G G') {kvs : List (D × D)} {ks : List (Key × V)} (h : RpKV K G ks kvs) : RpKV K G' ks kvs := RpKV.mono s kvs ks h
mutual
theorem Rp.dp (s : Same G H) : ∀ (d : D) (n : Nat) (v : V), Rp K G v d → okd d n = true → Dp K H v d
  | .none, _, _, h, _ => by cases h; exact .non
  | .bool _, _, _, h, _ => by cases h; exact .bl _
  | .int _, _, _, h, _ => by cases h; exact .int _
  | .str _, _, _, h, _ => by cases h; exact .str _
  | .list ds, n, _, h, o => by
    cases h with
    | lst h1 h2 =>
      cases n with
      | zero => simp [okd] at o
      | succ n => exact .lst (SqL.of (s _ _ h1)) (RpAll.dp s ds n _ h2 (by simpa [okd] using o))
  | .tuple ds, n, _, h, o => by
    cases h with
    | tup h1 h2 =>
      cases n with
      | zero => simp [okd] at o
      | succ n => exact .tup (Same.sqT s h1.sq) (RpAll.dp s ds n _ h2 (by simpa [okd] using o))
  | .dict _, _, _, _, o => by simp [okd] at o
theorem RpAll.dp (s : Same G H) : ∀ (ds : List D) (n : Nat) (vs : List V), RpAll K G vs ds → okds ds n = true → DpAll K H vs ds
  | [], _, _, h, _ => by cases h; exact .nil
  | d :: ds, n, _, h, o => by
    cases h with
    | cons h1 h2 =>
      simp only [okds, Bool.and_eq_true] at o
      exact .cons (Rp.dp s d n _ h1 o.1) (RpAll.dp s ds n _ h2 o.2)
end
theorem RpAll.len : ∀ {vs : List V} {ds : List D}, RpAll K G vs ds → vs.length = ds.length
  | _, _, .nil => rfl
  | _, _, .cons _ h => congrArg (· + 1) h.len
theorem RpAll.get : ∀ {vs : List V} {ds : List D} {j : Nat} {d : D}, RpAll K G vs ds → ds[j]? = some d → ∃ v, vs[j]? = some v ∧ Rp K G v d
  | _, _, _, _, .nil, e => by simp at e
  | _, _, 0, _, .cons h _, e => by simp at e; subst e; exact ⟨_, rfl, h⟩
  | _, _, j + 1, _, .cons _ h, e => by
    obtain ⟨v, e1, h1⟩ := RpAll.get (j := j) h (by simpa using e)
    exact ⟨v, by simpa using e1, h1⟩
theorem RpAll.append : ∀ {vs ws : List V} {ds es : List D}, RpAll K G vs ds → RpAll K G ws es → RpAll K G (vs ++ ws) (ds ++ es)
  | _, _, _, _, .nil, h => h
  | _, _, _, _, .cons a b, h => .cons a (b.append h)
theorem RpAll.take : ∀ {vs : List V} {ds : List D} (n : Nat), RpAll K G vs ds → RpAll K G (vs.take n) (ds.take n)
  | _, _, 0, _ => by simp; exact .nil
  | _, _, _ + 1, .nil => .nil
  | _, _, n + 1, .cons a b => .cons a (b.take n)
theorem RpAll.drop : ∀ {vs : List V} {ds : List D} (n : Nat), RpAll K G vs ds → RpAll K G (vs.drop n) (ds.drop n)
  | _, _, 0, h => h
  | _, _, _ + 1, .nil => .nil
  | _, _, n + 1, .cons _ b => b.drop n
theorem RpAll.set : ∀ {vs : List V} {ds : List D} {v : V} {d : D} (j : Nat), RpAll K G vs ds → Rp K G v d → RpAll K G (vs.set j v) (ds.set j d)
  | _, _, _, _, _, .nil, _ => .nil
  | _, _, _, _, 0, .cons _ b, h => .cons h b
  | _, _, _, _, j + 1, .cons a b, h => .cons a (b.set j h)
theorem RpAll.rep {vs : List V} {ds : List D} (h : RpAll K G vs ds) : ∀ n : Nat, RpAll K G (List.replicate n vs).flatten (List.replicate n ds).flatten
  | 0 => .nil
  | n + 1 => by rw [List.replicate_succ, List.replicate_succ, List.flatten_cons, List.flatten_cons]; exact h.append (h.rep n)
theorem RpAll.dropLast {vs : List V} {ds : List D} (h : RpAll K G vs ds) : RpAll K G vs.dropLast ds.dropLast := by
  rw [List.dropLast_eq_take, List.dropLast_eq_take, h.len]
  exact h.take _
theorem RpAll.ints : ∀ {vs : List V} {ds : List D} {ns : List Int}, RpAll K G vs ds → intsOf ds = some ns → vs = ns.map V.int
  | _, _, _, .nil, e => by simp [intsOf] at e; subst e; rfl
  | _, _, _, .cons (d := d) h r, e => by
    cases h with
    | int i =>
      simp only [intsOf, Option.map_eq_some_iff] at e
      obtain ⟨ms, e1, rfl⟩ := e
      rw [r.ints e1]
      rfl
    | _ => simp [intsOf] at e
theorem RpAll.bools : ∀ {vs : List V} {ds : List D} {bs : List Bool}, RpAll K G vs ds → boolsOf ds = some bs → vs = bs.map V.bl
  | _, _, _, .nil, e => by simp [boolsOf] at e; subst e; rfl
  | _, _, _, .cons (d := d) h r, e => by
    cases h with
    | bl b =>
      simp only [boolsOf, Option.map_eq_some_iff] at e
      obtain ⟨ms, e1, rfl⟩ := e
      rw [r.bools e1]
      rfl
    | _ => simp [boolsOf] at e
theorem keyEq_keyD (k j : Key) : keyEq (keyD k) (keyD j) = decide (k = j) := by
  cases k <;> cases j <;> simp [keyEq, keyE1, keyD, Bool.beq_eq_decide_eq]
theorem keyEs_keyD : ∀ k j : List Key, keyEs (k.map keyD) (j.map keyD) = decide (k = j)
  | [], [] => rfl
  | [], _ :: _ => rfl
  | _ :: _, [] => rfl
  | x :: a, y :: b => by
    have e : keyE1 (keyD x) (keyD y) = decide (x = y) := by cases x <;> cases y <;> simp [keyE1, keyD, Bool.beq_eq_decide_eq]
    rw [List.map_cons, List.map_cons, keyEs, keyEs_keyD a b, e]
    by_cases h1 : x = y <;> by_cases h2 : a = b <;> simp [h1, h2]
theorem keyEq_keyTD (k j : List Key) : keyEq (keyTD k) (keyTD j) = decide (k = j) := by unfold keyTD; rw [keyEq]; exact keyEs_keyD k j
theorem isKey_of {d : D} (h : isKey d = true) : ∃ k : Key, d = keyD k := by
  cases d <;> simp [isKey] at h
  · exact ⟨.inl _, rfl⟩
  · exact ⟨.inr _, rfl⟩
theorem Rp.key {v : V} {k : Key} (h : Rp K G v (keyD k)) : v = kV k := by
  cases k <;> (cases h; rfl)
theorem RpKV.len : ∀ {ks : List (Key × V)} {kvs : List (D × D)}, RpKV K G ks kvs → ks.length = kvs.length
  | _, _, .nil => rfl
  | _, _, .cons _ h => congrArg (· + 1) h.len
/-- a look-up -/
theorem RpKV.val : ∀ {ks : List (Key × V)} {kvs : List (D × D)} (k : Key), RpKV K G ks kvs → (valV ks k = none ∧ dval kvs (keyD k) = none) ∨ ∃ v d, valV ks k = some v ∧ dval kvs (keyD k) = some d ∧ Rp K G v d
  | _, _, _, .nil => .inl ⟨rfl, rfl⟩
  | _, _, k, .cons (k := j) (v := v) (d := d) h r => by
    by_cases e : j = k
    · subst e
      refine .inr ⟨v, d, ?_, ?_, h⟩
      · simp [valV]
      · simp [dval, keyEq_keyD]
    · have e1 : ∀ l, valV ((j, v) :: l) k = valV l k := fun l => by simp [valV, List.find?_cons, e]
      have e2 : ∀ l, dval ((keyD j, d) :: l) (keyD k) = dval l (keyD k) := fun l => by simp [dval, List.find?_cons, keyEq_keyD, e]
      rw [e1, e2]
      exact r.val k
theorem RpKV.any : ∀ {ks : List (Key × V)} {kvs : List (D × D)} (k : Key), RpKV K G ks kvs → (ks.any fun p => decide (p.1 = k)) = kvs.any fun p => keyEq p.1 (keyD k)
  | _, _, _, .nil => rfl
  | _, _, k, .cons h r => by simp only [List.any_cons, keyEq_keyD, r.any k]
theorem RpKV.repl : ∀ {ks : List (Key × V)} {kvs : List (D × D)} {v : V} {d : D} (k : Key), RpKV K G ks kvs → Rp K G v d →
    RpKV K G (ks.map fun p => if p.1 = k then (p.1, v) else p) (kvs.map fun p => if keyEq p.1 (keyD k) then (p.1, d) else p)
  | _, _, _, _, _, .nil, _ => .nil
  | _, _, _, _, k, .cons (k := j) h r, q => by
    simp only [List.map_cons, keyEq_keyD]
    by_cases e : j = k
    · simp only [e, decide_true, if_true]; exact .cons q (r.repl k q)
    · simp only [e, decide_false, if_false]; exact .cons h (r.repl k q)
theorem RpKV.snoc : ∀ {ks : List (Key × V)} {kvs : List (D × D)} {v : V} {d : D} (k : Key), RpKV K G ks kvs → Rp K G v d → RpKV K G (ks ++ [(k, v)]) (kvs ++ [(keyD k, d)])
  | _, _, _, _, _, .nil, q => .cons q .nil
  | _, _, _, _, k, .cons h r, q => .cons h (r.snoc k q)
theorem RpKT.len : ∀ {ks : List (List Key × V)} {kvs : List (D × D)}, RpKT K G ks kvs → ks.length = kvs.length
  | _, _, .nil => rfl
  | _, _, .cons _ h => congrArg (· + 1) h.len
/-- a look-up -/
theorem RpKT.val : ∀ {ks : List (List Key × V)} {kvs : List (D × D)} (k : List Key), RpKT K G ks kvs → (valV ks k = none ∧ dval kvs (keyTD k) = none) ∨ ∃ v d, valV ks k = some v ∧ dval kvs (keyTD k) = some d ∧ Rp K G v d
  | _, _, _, .nil => .inl ⟨rfl, rfl⟩
  | _, _, k, .cons (k := j) (v := v) (d := d) h r => by
    by_cases e : j = k
    · subst e
      refine .inr ⟨v, d, ?_, ?_, h⟩
      · simp [valV]
      · simp [dval, keyEq_keyTD]
    · have e1 : ∀ l, valV ((j, v) :: l) k = valV l k := fun l => by simp [valV, List.find?_cons, e]
      have e2 : ∀ l, dval ((keyTD j, d) :: l) (keyTD k) = dval l (keyTD k) := fun l => by simp [dval, List.find?_cons, keyEq_keyTD, e]
      rw [e1, e2]
      exact r.val k
theorem RpKT.any : ∀ {ks : List (List Key × V)} {kvs : List (D × D)} (k : List Key), RpKT K G ks kvs → (ks.any fun p => decide (p.1 = k)) = kvs.any fun p => keyEq p.1 (keyTD k)
  | _, _, _, .nil => rfl
  | _, _, k, .cons h r => by simp only [List.any_cons, keyEq_keyTD, r.any k]
theorem RpKT.repl : ∀ {ks : List (List Key × V)} {kvs : List (D × D)} {v : V} {d : D} (k : List Key), RpKT K G ks kvs → Rp K G v d →
    RpKT K G (ks.map fun p => if p.1 = k then (p.1, v) else p) (kvs.map fun p => if keyEq p.1 (keyTD k) then (p.1, d) else p)
  | _, _, _, _, _, .nil, _ => .nil
  | _, _, _, _, k, .cons (k := j) h r, q => by
    simp only [List.map_cons, keyEq_keyTD]
    by_cases e : j = k
    · simp only [e, decide_true, if_true]; exact .cons q (r.repl k q)
    · simp only [e, decide_false, if_false]; exact .cons h (r.repl k q)
theorem RpKT.snoc : ∀ {ks : List (List Key × V)} {kvs : List (D × D)} {v : V} {d : D} (k : List Key), RpKT K G ks kvs → Rp K G v d → RpKT K G (ks ++ [(k, v)]) (kvs ++ [(keyTD k, d)])
  | _, _, _, _, _, .nil, q => .cons q .nil
  | _, _, _, _, k, .cons h r, q => .cons h (r.snoc k q)
end

section
variable {K : PySem.W.Frag} {G G' H H' : Hp}
theorem RpKV.put {ks : List (Key × V)} {kvs : List (D × D)} {v : V} {d : D} (h : RpKV K G ks kvs) (k : Key) (q : Rp K G v d) : RpKV K G (putK ks k v) (dput kvs (keyD k) d) := by
  unfold putK dput
  rw [h.any k]
  split
  · exact h.repl k q
  · exact h.snoc k q

theorem RpKT.put {ks : List (List Key × V)} {kvs : List (D × D)} {v : V} {d : D} (h : RpKT K G ks kvs) (k : List Key) (q : Rp K G v d) : RpKT K G (putK ks k v) (dput kvs (keyTD k) d) := by
  unfold putK dput
  rw [h.any k]
  split
  · exact h.repl k q
  · exact h.snoc k q

/-! ### what a name's own object holds -/
/-- a dict's object: by ints and texts, or by tuples of them -/
def DO (K : PySem.W.Frag) (G : Hp) (o : HO) (kvs : List (D × D)) : Prop := (∃ ks, o = .dK ks ∧ RpKV K G ks kvs) ∨ ∃ ks r, kvs = tMark :: r ∧ o = .dT ks ∧ RpKT K G ks r
theorem DO.up (s : Same G G') {o : HO} {kvs : List (D × D)} (h : DO K G o kvs) : DO K G' o kvs := by
  rcases h with ⟨ks, e, r⟩ | ⟨ks, r, e, e2, h⟩
  · exact .inl ⟨ks, e, r.up s⟩
  · exact .inr ⟨ks, r, e, e2, h.up s⟩
theorem DO.rp {o : HO} {a : Addr} {kvs : List (D × D)} (q : Rd G a o) (h : DO K G o kvs) : Rp K G (.ref a) (.dict kvs) := by
  rcases h with ⟨ks, rfl, r⟩ | ⟨ks, r, rfl, rfl, h⟩
  · exact .dK q r
  · exact .dT q h
theorem DO.k {o : HO} {kvs : List (D × D)} (h : DO K G o kvs) (d : dOk kvs = true) : ∃ ks, o = .dK ks ∧ RpKV K G ks kvs := by
  rcases h with h | ⟨ks, r, rfl, _⟩
  · exact h
  · simp [dOk] at d
theorem DO.t {o : HO} {kvs : List (D × D)} (h : DO K G o kvs) (d : tOk kvs = true) : ∃ ks r, kvs = tMark :: r ∧ o = .dT ks ∧ RpKT K G ks r := by
  rcases h with ⟨ks, rfl, h⟩ | h
  · cases h with
    | nil => simp [tOk] at d
    | cons h1 h2 =>
      rename_i k _ _ _ _
      cases k <;> simp [tOk, keyD] at d
  · exact h
def Own (K : PySem.W.Frag) (G H : Hp) (a : Addr) : D → Prop
  | .list ds => ∃ xs, H a = some (.lst xs) ∧ RpAll K G xs ds
  | .dict kvs => ∃ o, H a = some o ∧ DO K G o kvs
  | _ => False
theorem Own.there {a : Addr} {d : D} (h : Own K G H a d) : ∃ o, H a = some o := by
  cases d <;> first | exact False.elim h | (obtain ⟨x, e, _⟩ := h; exact ⟨_, e⟩)
theorem Own.thereN {a : Addr} {d : D} (h : Own K G H a d) : ∃ o, H a = some o ∧ ∀ xs, o ≠ .tup xs := by
  cases d <;> first | exact False.elim h | skip
  · obtain ⟨x, e, _⟩ := h; exact ⟨_, e, fun _ z => by cases z⟩
  · obtain ⟨x, e, r⟩ := h
    refine ⟨x, e, fun xs z => ?_⟩
    subst z
    rcases r with ⟨_, z, _⟩ | ⟨_, _, _, z, _⟩ <;> cases z
theorem Own.up (s : Same G G') {a : Addr} {d : D} (e : H' a = H a) (h : Own K G H a d) : Own K G' H' a d := by
  cases d <;> first | exact False.elim h | skip
  · obtain ⟨x, e1, r⟩ := h; exact ⟨x, by rw [e]; exact e1, r.up s⟩
  · obtain ⟨x, e1, r⟩ := h; exact ⟨x, by rw [e]; exact e1, r.up s⟩
/-- let go: it is seen by all -/
theorem Own.rp (s : Same G G') {a : Addr} {d : D} (e : G' a = H a) (h : Own K G H a d) : Rp K G' (.ref a) d := by
  cases d <;> first | exact False.elim h | skip
  · obtain ⟨x, e1, r⟩ := h; exact .lst (e.trans e1) (r.up s)
  · obtain ⟨x, e1, r⟩ := h; exact (r.up s).rp (.inl (e.trans e1))
/-- an operand's content: the container as it stands, the items seen by all -/
def RpC (K : PySem.W.Frag) (G H : Hp) (v : V) (d : D) : Prop := Rp K G v d ∨ ∃ a, v = .ref a ∧ Own K G H a d
theorem RpC.toH (s : Same G H) {v : V} {d : D} (h : RpC K G H v d) : Rp K H v d := by
  rcases h with h | ⟨a, rfl, h⟩
  · exact h.up s
  · exact h.rp s rfl
theorem RpC.list (s : Same G H) {v : V} {ds : List D} (h : RpC K G H v (.list ds)) : ∃ a xs, v = .ref a ∧ H a = some (.lst xs) ∧ RpAll K G xs ds := by
  rcases h with h | ⟨a, rfl, xs, e, h⟩
  · cases h with
    | lst h1 h2 => exact ⟨_, _, rfl, s _ _ h1, h2⟩
  · exact ⟨a, xs, rfl, e, h⟩
theorem RpKV.keys : ∀ {ks : List (Key × V)} {kvs : List (D × D)}, RpKV K G ks kvs → ∀ p ∈ kvs, ∃ k, p.1 = keyD k
  | _, _, .nil, _, h => by simp at h
  | _, _, .cons (k := k) _ r, p, h => by
    rcases List.mem_cons.mp h with e | h
    · exact ⟨k, by rw [e]⟩
    · exact r.keys p h
theorem RpKV.nofrz {ks : List (Key × V)} {d : D} {r : List (D × D)} (h : RpKV K G ks ((.none, d) :: r)) : False := by
  obtain ⟨k, e⟩ := h.keys _ List.mem_cons_self
  cases k <;> simp [keyD] at e
theorem RpC.frz (s : Same G H) {v : V} {ds : List D} (h : RpC K G H v (.dict [(.none, .list ds)])) : ∃ a xs, v = .ref a ∧ SqL K H a xs ∧ RpAll K G xs ds := by
  rcases h with h | ⟨a, rfl, ks, e, h⟩
  · cases h with
    | frz h1 h2 => exact ⟨_, _, rfl, Same.sqL s h1, h2⟩
    | dK _ h2 => exact h2.nofrz.elim
  · rcases h with ⟨ks, rfl, h⟩ | ⟨ks, r, e, _⟩
    · exact h.nofrz.elim
    · cases e
theorem RpC.tuple (s : Same G H) {v : V} {ds : List D} (h : RpC K G H v (.tuple ds)) : ∃ a xs, v = .ref a ∧ SqT K H a xs ∧ RpAll K G xs ds := by
  rcases h with h | ⟨a, rfl, h⟩
  · cases h with
    | tup h1 h2 => exact ⟨_, _, rfl, Same.sqT s h1.sq, h2⟩
  · exact False.elim h
/-- a tuple that is no constant: it is tracked -/
theorem RpC.tupN (s : Same G H) {v : V} {ds : List D} (h : RpC K G H v (.tuple ds)) (n : ctB ds = false) : ∃ a xs, v = .ref a ∧ H a = some (.tup xs) ∧ RpAll K G xs ds := by
  rcases h with h | ⟨a, rfl, h⟩
  · cases h with
    | tup h1 h2 =>
      rcases h1 with h1 | ⟨_, h1⟩
      · exact ⟨_, _, rfl, s _ _ h1, h2⟩
      · rw [n] at h1; cases h1
  · exact False.elim h
theorem RpC.dictO (s : Same G H) {v : V} {kvs : List (D × D)} (h : RpC K G H v (.dict kvs)) (nf : ∀ ds, kvs ≠ [(.none, .list ds)]) : ∃ a o, v = .ref a ∧ Rd H a o ∧ DO K G o kvs := by
  rcases h with h | ⟨a, rfl, o, e, h⟩
  · cases h with
    | dK h1 h2 => exact ⟨_, _, rfl, Same.rd s h1, .inl ⟨_, rfl, h2⟩⟩
    | dT h1 h2 => exact ⟨_, _, rfl, Same.rd s h1, .inr ⟨_, _, rfl, rfl, h2⟩⟩
    | frz => exact absurd rfl (nf _)
  · exact ⟨a, o, rfl, .inl e, h⟩
theorem dOk_nf {kvs : List (D × D)} (d : dOk kvs = true) : ∀ ds, kvs ≠ [(.none, .list ds)] := fun ds e => by subst e; simp [dOk] at d
theorem tOk_nf {kvs : List (D × D)} (d : tOk kvs = true) : ∀ ds, kvs ≠ [(.none, .list ds)] := fun ds e => by subst e; simp [tOk] at d
theorem RpC.dict (s : Same G H) {v : V} {kvs : List (D × D)} (h : RpC K G H v (.dict kvs)) (d : dOk kvs = true) : ∃ a ks, v = .ref a ∧ Rd H a (.dK ks) ∧ RpKV K G ks kvs := by
  obtain ⟨a, o, e, r, x⟩ := h.dictO s (dOk_nf d)
  obtain ⟨ks, rfl, y⟩ := x.k d
  exact ⟨a, ks, e, r, y⟩
theorem RpC.dictT (s : Same G H) {v : V} {kvs : List (D × D)} (h : RpC K G H v (.dict kvs)) (d : tOk kvs = true) : ∃ a ks r, v = .ref a ∧ kvs = tMark :: r ∧ Rd H a (.dT ks) ∧ RpKT K G ks r := by
  obtain ⟨a, o, e, r, x⟩ := h.dictO s (tOk_nf d)
  obtain ⟨ks, r2, q, rfl, y⟩ := x.t d
  exact ⟨a, ks, r2, e, q, r, y⟩
theorem RpC.int {v : V} {i : Int} (h : RpC K G H v (.int i)) : v = .int i := by
  rcases h with h | ⟨a, _, h⟩
  · cases h; rfl
  · exact False.elim h
theorem RpC.bl {v : V} {i : Bool} (h : RpC K G H v (.bool i)) : v = .bl i := by
  rcases h with h | ⟨a, _, h⟩
  · cases h; rfl
  · exact False.elim h
theorem RpC.str {v : V} {i : Str} (h : RpC K G H v (.str i)) : v = .str i := by
  rcases h with h | ⟨a, _, h⟩
  · cases h; rfl
  · exact False.elim h
theorem RpC.non {v : V} (h : RpC K G H v .none) : v = .non := by
  rcases h with h | ⟨a, _, h⟩
  · cases h; rfl
  · exact False.elim h
end

/-! ### a frame -/
/-- at a def's entry: the heap, what may be seen of it, the objects that it may change -/
structure Bs where
  H0 : Hp
  Gin : Hp
  ioa : List Addr
def Wr (E : Env) (i : Nat) : Prop := (∃ d, gets E i = .ow d) ∨ ∃ d, gets E i = .io d
/-- no tuple -/
abbrev NT (o : HO) : Prop := ∀ xs, o ≠ .tup xs
structure Frm (K : PySem.W.Frag) (B : Bs) (G H : Hp) (E : Env) (σ : St) : Prop where
  sub : Same G H
  len : E.length = σ.length
  sh : ∀ i d, gets E i = .sh d → ∃ v, σ[i]? = some (some v) ∧ Rp K G v d
  ow : ∀ i d, gets E i = .ow d → ∃ a, σ[i]? = some (some (.ref a)) ∧ G a = none ∧ B.H0 a = none ∧ Own K G H a d
  io : ∀ i d, gets E i = .io d → ∃ a, B.ioa[i]? = some a ∧ σ[i]? = some (some (.ref a)) ∧ G a = none ∧ Own K G H a d
  dj : ∀ i j a, Wr E i → Wr E j → σ[i]? = some (some (.ref a)) → σ[j]? = some (some (.ref a)) → i = j
  keep : ∀ b o, B.H0 b = some o → b ∉ B.ioa → H b = some o
  iok : ∀ b ∈ B.ioa, ∃ o, H b = some o
  new : ∀ b o, NT o → G b = some o → (∃ u, B.Gin b = some u) ∨ B.H0 b = none
/-- a is some name's own -/
def Mn (E : Env) (σ : St) (a : Addr) : Prop := ∃ i, Wr E i ∧ σ[i]? = some (some (.ref a))
structure Ext (σ : St) (E E' : Env) (G H G' H' : Hp) : Prop where
  g : Same G G'
  h : ∀ b o, H b = some o → ¬ Mn E σ b → H' b = some o
  n : ∀ b o, NT o → H b = some o → ¬ Mn E σ b → G b = none → G' b = none
  w : ∀ i, Wr E' i → Wr E i
  t : ∀ b o, H b = some o → ∃ o', H' b = some o'
theorem Ext.refl {σ : St} {E : Env} {G H : Hp} : Ext σ E E G H G H := ⟨Same.refl _, fun _ _ h _ => h, fun _ _ _ _ _ h => h, fun _ h => h, fun _ o h => ⟨o, h⟩⟩
theorem Ext.mn {σ : St} {E E' : Env} {G H G' H' : Hp} (x : Ext σ E E' G H G' H') {a : Addr} (h : ¬ Mn E σ a) : ¬ Mn E' σ a := fun ⟨i, w, e⟩ => h ⟨i, x.w i w, e⟩
theorem Ext.trans {σ : St} {E1 E2 E3 : Env} {G1 H1 G2 H2 G3 H3 : Hp} (a : Ext σ E1 E2 G1 H1 G2 H2) (b : Ext σ E2 E3 G2 H2 G3 H3) : Ext σ E1 E3 G1 H1 G3 H3 where
  g := a.g.trans b.g
  h := fun c o e m => b.h c o (a.h c o e m) (a.mn m)
  n := fun c o nt e m g => b.n c o nt (a.h c o e m) (a.mn m) (a.n c o nt e m g)
  w := fun i w => a.w i (b.w i w)
  t := fun c o e => let ⟨o', e'⟩ := a.t c o e; b.t c o' e'
section
variable {K : PySem.W.Frag} {B : Bs} {G G' H H' : Hp} {E E' : Env} {σ : St}
theorem Frm.there (F : Frm K B G H E σ) {a : Addr} (m : Mn E σ a) : (∃ o, H a = some o) ∧ G a = none := by
  obtain ⟨i, ⟨d, w⟩ | ⟨d, w⟩, e⟩ := m
  · obtain ⟨b, e1, g, _, o⟩ := F.ow i d w
    rw [e] at e1; cases e1
    exact ⟨o.there, g⟩
  · obtain ⟨b, _, e1, g, o⟩ := F.io i d w
    rw [e] at e1; cases e1
    exact ⟨o.there, g⟩
theorem Frm.thereN (F : Frm K B G H E σ) {a : Addr} (m : Mn E σ a) : (∃ o, H a = some o ∧ NT o) ∧ G a = none := by
  obtain ⟨i, ⟨d, w⟩ | ⟨d, w⟩, e⟩ := m
  · obtain ⟨b, e1, g, _, o⟩ := F.ow i d w
    rw [e] at e1; cases e1
    exact ⟨o.thereN, g⟩
  · obtain ⟨b, _, e1, g, o⟩ := F.io i d w
    rw [e] at e1; cases e1
    exact ⟨o.thereN, g⟩
theorem Frm.notMn (F : Frm K B G H E σ) {a : Addr} (h : H a = none) : ¬ Mn E σ a := fun m => by
  obtain ⟨⟨o, e⟩, _⟩ := F.there m
  rw [h] at e; cases e
theorem Frm.gnone (F : Frm K B G H E σ) {a : Addr} (h : H a = none) : G a = none := F.sub.free h
theorem Frm.h0none (F : Frm K B G H E σ) {a : Addr} (h : H a = none) : B.H0 a = none := by
  cases q : B.H0 a with
  | none => rfl
  | some o =>
    by_cases m : a ∈ B.ioa
    · obtain ⟨o', e⟩ := F.iok a m
      rw [h] at e; cases e
    · have := F.keep a o q m
      rw [h] at this; cases this
end
end Pv

set_option Elab.async false
set_option linter.all false
set_option maxRecDepth 100000
set_option maxHeartbeats 4000000
/-! PvDm: a tuple once: t * 1 is t. -/
namespace Pv
open PySem PySem.Spec L2 PyProof.Rows
theorem once_meets (l : Addr) (items : Array Value) (n : Nat) (dd : Option Addr) (sl : Array (Option Value)) (u : PySem.Tok) :
    Meets (Builtin.«tuple.__mul__» ⟨[.ref l, .int 1 u], []⟩) (fun _ R s => s.heap.get? l = some { cls := .type "tuple", dict := dd, data := .seq items n, slots := sl } ∧ ∀ tk, R (.ok (.ret (Value.ref l))) { s with toks := tk }) :=
  .of_wp fun prog w A R s h => by
    obtain ⟨hp, g, d, tk, os⟩ := s
    obtain ⟨hl, h⟩ := h
    have f1 := AutoSeq1.idx_int
    wp_walk using wpAny_loadPart' hl
    exact ⟨_, rfl, h tk⟩
def rOnce (K : PySem.W.Frag) : R2 := fun x y H Q => ∃ l xs, x = .ref l ∧ y = .int 1 ∧ SqT K H l xs ∧ Q (.ref l) H
section
variable {X : Cx}
theorem op_once : OpR X (binaryOp .Mult) (rOnce X.K) := by
  intro pins s σ H x y v u Q I rx ry h
  obtain ⟨l, xs, rfl, rfl, hT, q⟩ := h
  cases rx
  obtain ⟨t, rfl⟩ := ry
  obtain ⟨its, r, ⟨⟨cls, dd, data, sl⟩, ho, hc, n, hd⟩, hs⟩ := I.tuple hT
  simp only at hc hd
  subst hc hd
  refine wpAny_binaryOp_repeat_ref (T := "tuple") (U := "int") (by decide) ⟨_, ho, rfl⟩ (fun s' => typeIs_int s' 1 t) noFill_tuple_mul F.fills_int_mul F.slot_int_rmul repeat_tuple F.slot_int_index.lookup
    (call_meets F.slot_int_rmul (typeIs_int s 1 t) F.entry_int_rmul (F.args_int_rmul_2 _ _) (int_rmul_tuple 1 t l its.toArray n dd sl) ⟨ho, rfl, ⟨_, ho, rfl⟩, call_meets F.slot_tuple_mul ⟨_, ho, rfl⟩ F.entry_tuple_mul (F.args_tuple_mul_2 _ _) (once_meets l its.toArray n dd sl t) ⟨ho, fun tk => ?_⟩⟩)
  exact ⟨.ref l, H, I.tok _, rfl, q⟩
end
end Pv

set_option Elab.async false
set_option linter.all false
set_option maxRecDepth 100000
set_option maxHeartbeats 1000000
/-! PvD: operators, comparisons, subscripts, built-ins: by values and data. -/
namespace Pv
open PySem PySem.Spec L2

/-! ### what an operation gives -/
def NewO (K : PySem.W.Frag) (G : Hp) (o : HO) (z : D) : Prop :=
  (∃ xs ds, o = .lst xs ∧ z = .list ds ∧ RpAll K G xs ds) ∨ (∃ xs ds, o = .tup xs ∧ z = .tuple ds ∧ RpAll K G xs ds) ∨ ∃ kvs, z = .dict kvs ∧ DO K G o kvs
def NewL (K : PySem.W.Frag) (G H : Hp) (u : V) (H' : Hp) (z : D) : Prop := ∃ p o, H p = none ∧ H' = upd H p o ∧ u = .ref p ∧ NewO K G o z
/-- a new object, or what was seen already (no list, no dict) -/
def Res (K : PySem.W.Frag) (G H : Hp) (u : V) (H' : Hp) (z : D) : Prop := NewL K G H u H' z ∨ (isC z = false ∧ H' = H ∧ Rp K G u z)
section
variable {K : PySem.W.Frag} {B : Bs} {G G' H H' : Hp} {E E' : Env} {σ : St}
theorem same_upd {p : Addr} {o : HO} (h : H p = none) : Same H (upd H p o) := fun b x e => by
  rw [upd_ne (ne_of_none e h)]
  exact e
theorem NewO.rp {o : HO} {z : D} {p : Addr} (n : NewO K G o z) (s : Same G G') (e : G' p = some o) : Rp K G' (.ref p) z := by
  rcases n with ⟨xs, ds, rfl, rfl, r⟩ | ⟨xs, ds, rfl, rfl, r⟩ | ⟨kvs, rfl, r⟩
  · exact .lst e (r.up s)
  · exact .tup (.inl e) (r.up s)
  · exact (r.up s).rp (.inl e)
theorem NewO.own {o : HO} {z : D} {p : Addr} (n : NewO K G o z) (c : isC z = true) (e : H p = some o) : Own K G H p z := by
  rcases n with ⟨xs, ds, rfl, rfl, r⟩ | ⟨xs, ds, rfl, rfl, r⟩ | ⟨kvs, rfl, r⟩
  · exact ⟨xs, e, r⟩
  · simp [isC] at c
  · exact ⟨o, e, r⟩
/-- a new object laid, not seen yet -/
theorem Frm.alloc (F : Frm K B G H E σ) {p : Addr} (o : HO) (hp : H p = none) : Frm K B G (upd H p o) E σ where
  sub := fun b x e => same_upd hp _ _ (F.sub b x e)
  len := F.len
  sh := F.sh
  ow := fun i d w => by
    obtain ⟨a, e, g, h, q⟩ := F.ow i d w
    obtain ⟨x, ex⟩ := q.there
    exact ⟨a, e, g, h, q.up (Same.refl _) (upd_ne (ne_of_none ex hp))⟩
  io := fun i d w => by
    obtain ⟨a, e0, e, g, q⟩ := F.io i d w
    obtain ⟨x, ex⟩ := q.there
    exact ⟨a, e0, e, g, q.up (Same.refl _) (upd_ne (ne_of_none ex hp))⟩
  dj := F.dj
  keep := fun b x e m => same_upd hp _ _ (F.keep b x e m)
  iok := fun b m => by
    obtain ⟨x, e⟩ := F.iok b m
    exact ⟨x, same_upd hp _ _ e⟩
  new := F.new
theorem Ext.alloc {p : Addr} {o : HO} (hp : H p = none) : Ext σ E E G H G (upd H p o) := ⟨Same.refl _, fun b x e _ => same_upd hp _ _ e, fun _ _ _ _ _ g => g, fun _ w => w, fun _ o e => ⟨o, same_upd hp _ _ e⟩⟩
theorem same_see {p : Addr} {o : HO} (h : G p = none) : Same G (upd G p o) := same_upd h
/-- an object that was not seen is seen from now on -/
theorem Frm.see (F : Frm K B G H E σ) {p : Addr} {o : HO} (hp : H p = some o) (hg : G p = none) (hm : ¬ Mn E σ p) (h0 : B.H0 p = none) : Frm K B (upd G p o) H E σ where
  sub := fun b x e => by
    by_cases q : b = p
    · subst q; rw [upd_same] at e; rw [hp]; exact e
    · rw [upd_ne q] at e; exact F.sub b x e
  len := F.len
  sh := fun i d w => by
    obtain ⟨v, e, r⟩ := F.sh i d w
    exact ⟨v, e, r.up (same_see hg)⟩
  ow := fun i d w => by
    obtain ⟨a, e, g, h, q⟩ := F.ow i d w
    have : a ≠ p := fun z => hm ⟨i, .inl ⟨d, w⟩, by rw [← z]; exact e⟩
    exact ⟨a, e, by rw [upd_ne this]; exact g, h, q.up (same_see hg) rfl⟩
  io := fun i d w => by
    obtain ⟨a, e0, e, g, q⟩ := F.io i d w
    have : a ≠ p := fun z => hm ⟨i, .inr ⟨d, w⟩, by rw [← z]; exact e⟩
    exact ⟨a, e0, e, by rw [upd_ne this]; exact g, q.up (same_see hg) rfl⟩
  dj := F.dj
  keep := F.keep
  iok := F.iok
  new := fun b x nt e => by
    by_cases q : b = p
    · subst q; exact .inr h0
    · rw [upd_ne q] at e; exact F.new b x nt e
/-- a tuple that stands may be seen by all -/
theorem Frm.growT (F : Frm K B G H E σ) {q : Addr} {xs : List V} (h : H q = some (.tup xs)) : ∃ G', Frm K B G' H E σ ∧ Ext σ E E G H G' H ∧ G' q = some (.tup xs) := by
  cases g : G q with
  | some o =>
    have e := F.sub q o g
    rw [h] at e
    cases e
    exact ⟨G, F, Ext.refl, g⟩
  | none =>
    have hm : ¬ Mn E σ q := fun m => by
      obtain ⟨⟨o, e, nt⟩, _⟩ := F.thereN m
      rw [h] at e; cases e
      exact nt _ rfl
    refine ⟨upd G q (.tup xs), ⟨fun b x e => ?_, F.len, fun i d w => ?_, fun i d w => ?_, fun i d w => ?_, F.dj, F.keep, F.iok, fun b x nt e => ?_⟩, ⟨same_see g, fun _ _ e _ => e, fun b o nt e _ gb => ?_, fun _ w => w, fun b o e => ⟨o, e⟩⟩, upd_same⟩
    · by_cases c : b = q
      · subst c; rw [upd_same] at e; rw [h]; exact e
      · rw [upd_ne c] at e; exact F.sub b x e
    · obtain ⟨v, e, r⟩ := F.sh i d w
      exact ⟨v, e, r.up (same_see g)⟩
    · obtain ⟨a, e, ga, h0, r⟩ := F.ow i d w
      have : a ≠ q := fun z => hm ⟨i, .inl ⟨d, w⟩, by rw [← z]; exact e⟩
      exact ⟨a, e, by rw [upd_ne this]; exact ga, h0, r.up (same_see g) rfl⟩
    · obtain ⟨a, e0, e, ga, r⟩ := F.io i d w
      have : a ≠ q := fun z => hm ⟨i, .inr ⟨d, w⟩, by rw [← z]; exact e⟩
      exact ⟨a, e0, e, by rw [upd_ne this]; exact ga, r.up (same_see g) rfl⟩
    · by_cases c : b = q
      · subst c; rw [upd_same] at e; cases e; exact absurd rfl (nt xs)
      · rw [upd_ne c] at e; exact F.new b x nt e
    · have : b ≠ q := fun z => by
        rw [z, h] at e; cases e
        exact nt xs rfl
      rw [upd_ne this]; exact gb
theorem rp_keys : ∀ ks : List Key, RpAll K G (ks.map kV) (ks.map keyD)
  | [] => .nil
  | k :: r => .cons (by cases k <;> first | exact .int _ | exact .str _) (rp_keys r)
theorem NewL.toE (F : Frm K B G H E σ) {u : V} {z : D} (n : NewL K G H u H' z) : ∃ G', Frm K B G' H' E σ ∧ Ext σ E E G H G' H' ∧ Rp K G' u z := by
  obtain ⟨p, o, hp, rfl, rfl, n⟩ := n
  have hg := F.gnone hp
  refine ⟨upd G p o, (F.alloc o hp).see upd_same hg (F.notMn hp) (F.h0none hp), ⟨same_see hg, fun b x e _ => same_upd hp _ _ e, fun b x _ e _ g => ?_, fun _ w => w, fun _ o e => ⟨o, same_upd hp _ _ e⟩⟩, n.rp (same_see hg) upd_same⟩
  rw [upd_ne (ne_of_none e hp)]
  exact g
theorem Res.toE (F : Frm K B G H E σ) {u : V} {z : D} (n : Res K G H u H' z) : ∃ G', Frm K B G' H' E σ ∧ Ext σ E E G H G' H' ∧ Rp K G' u z := by
  rcases n with n | ⟨_, rfl, r⟩
  · exact n.toE F
  · exact ⟨G, F, Ext.refl, r⟩
/-- a new list or dict that nobody holds; Hs: the heap ahead -/
def FreshR (K : PySem.W.Frag) (B : Bs) (Hs G H : Hp) (E : Env) (σ : St) (v : V) (d : D) : Prop := ∃ a, v = .ref a ∧ Hs a = none ∧ G a = none ∧ B.H0 a = none ∧ ¬ Mn E σ a ∧ Own K G H a d
theorem NewL.toA (F : Frm K B G H E σ) {u : V} {z : D} (n : NewL K G H u H' z) (c : isC z = true) : Frm K B G H' E σ ∧ Ext σ E E G H G H' ∧ FreshR K B H G H' E σ u z := by
  obtain ⟨p, o, hp, rfl, rfl, n⟩ := n
  exact ⟨F.alloc o hp, Ext.alloc hp, p, rfl, hp, F.gnone hp, F.h0none hp, F.notMn hp, n.own c upd_same⟩
theorem FreshR.up {Hs Hs' : Hp} {v : V} {d : D} (f : FreshR K B Hs' G H E σ v d) (s : ∀ a, Hs' a = none → Hs a = none) : FreshR K B Hs G H E σ v d := by
  obtain ⟨a, e, h, r⟩ := f
  exact ⟨a, e, s a h, r⟩
/-- it is let go -/
theorem FreshR.see {Gs Hs : Hp} (F : Frm K B G H E' σ) (x : Ext σ E E' Gs Hs G H) {v : V} {d : D} (f : FreshR K B Hs G H E' σ v d) : ∃ G', Frm K B G' H E' σ ∧ Ext σ E E' Gs Hs G' H ∧ Rp K G' v d := by
  obtain ⟨a, rfl, hs, g, h0, m, o⟩ := f
  obtain ⟨y, e⟩ := o.there
  refine ⟨upd G a y, F.see e g m h0, ⟨x.g.trans (same_see g), x.h, fun b u nt eb mb gb => ?_, x.w, x.t⟩, o.rp (same_see g) (upd_same.trans e.symm)⟩
  rw [upd_ne (ne_of_none eb hs)]
  exact x.n b u nt eb mb gb
theorem Ext.gone {Gs Hs : Hp} (x : Ext σ E E' Gs Hs G H) {a : Addr} (h : H a = none) : Hs a = none := by
  cases q : Hs a with
  | none => rfl
  | some o =>
    obtain ⟨o', e⟩ := x.t a o q
    rw [h] at e; cases e
end

/-! ### okd -/
mutual
theorem okd_lay : ∀ (d : D) (n : Nat), okd d n = true → d.canLay0 = true ∧ d.depth ≤ n
  | .none, n, _ => ⟨by simp [PyData.canLay0], by simp [PyData.depth]⟩
  | .bool _, n, _ => ⟨by simp [PyData.canLay0], by simp [PyData.depth]⟩
  | .int _, n, _ => ⟨by simp [PyData.canLay0], by simp [PyData.depth]⟩
  | .str x, n, h => ⟨by simpa [PyData.canLay0, okd] using h, by simp [PyData.depth]⟩
  | .list xs, n, h => by
    cases n with
    | zero => simp [okd] at h
    | succ n =>
      have q := okds_lay xs n (by simpa [okd] using h)
      exact ⟨by simpa [PyData.canLay0] using q.1, by simp only [PyData.depth]; omega⟩
  | .tuple xs, n, h => by
    cases n with
    | zero => simp [okd] at h
    | succ n =>
      have q := okds_lay xs n (by simpa [okd] using h)
      exact ⟨by simpa [PyData.canLay0] using q.1, by simp only [PyData.depth]; omega⟩
  | .dict _, n, h => by simp [okd] at h
theorem okds_lay : ∀ (ds : List D) (n : Nat), okds ds n = true → PyData.canLayAll0 ds = true ∧ PyData.depthAll ds ≤ n
  | [], _, _ => ⟨by simp [PyData.canLayAll0], by simp [PyData.depthAll]⟩
  | d :: ds, n, h => by
    simp only [okds, Bool.and_eq_true] at h
    have a := okd_lay d n h.1
    have b := okds_lay ds n h.2
    exact ⟨by simp [PyData.canLayAll0, a.1, b.1], by simp only [PyData.depthAll]; omega⟩
end
theorem okD_shaped {d : D} (h : okD d = true) : SeqAt.shaped d = true := by
  have q := okd_lay d 40 h
  simp only [SeqAt.shaped, Bool.and_eq_true, decide_eq_true_eq]
  exact ⟨q.1, by omega⟩

/-! ### arithmetic -/
def opOf : Bop → Operator
  | .add => .Add
  | .sub => .Sub
  | .mul => .Mult
  | .fdiv => .FloorDiv
  | .mod => .Mod
  | .pow => .Pow
def OpA (K : PySem.W.Frag) (r : R2) (f : D → D → Option D) : Prop := ∀ (G H : Hp) (v w : V) (x y z : D) (Q : VK), Same G H → RpC K G H v x → RpC K G H w y → f x y = some z → (∀ u H', Res K G H u H' z → Q u H') → r v w H Q
section
variable {K : PySem.W.Frag} {G H : Hp}
theorem Res.int {i : Int} : Res K G H (.int i) H (.int i) := .inr ⟨rfl, rfl, .int i⟩
theorem Res.bl {b : Bool} : Res K G H (.bl b) H (.bool b) := .inr ⟨rfl, rfl, .bl b⟩
theorem Res.str {b : Str} : Res K G H (.str b) H (.str b) := .inr ⟨rfl, rfl, .str b⟩
theorem Res.lst {p : Addr} {xs : List V} {ds : List D} (hp : H p = none) (r : RpAll K G xs ds) : Res K G H (.ref p) (upd H p (.lst xs)) (.list ds) := .inl ⟨p, _, hp, rfl, rfl, .inl ⟨_, _, rfl, rfl, r⟩⟩
theorem Res.tup {p : Addr} {xs : List V} {ds : List D} (hp : H p = none) (r : RpAll K G xs ds) : Res K G H (.ref p) (upd H p (.tup xs)) (.tuple ds) := .inl ⟨p, _, hp, rfl, rfl, .inr (.inl ⟨_, _, rfl, rfl, r⟩)⟩
theorem Res.dO {p : Addr} {o : HO} {kvs : List (D × D)} (hp : H p = none) (r : DO K G o kvs) : Res K G H (.ref p) (upd H p o) (.dict kvs) := .inl ⟨p, _, hp, rfl, rfl, .inr (.inr ⟨_, rfl, r⟩)⟩
theorem Res.dK {p : Addr} {ks : List (Key × V)} {kvs : List (D × D)} (hp : H p = none) (r : RpKV K G ks kvs) : Res K G H (.ref p) (upd H p (.dK ks)) (.dict kvs) := Res.dO hp (.inl ⟨_, rfl, r⟩)
end
theorem sl_eq : (sizeLine : Nat) = LIM := sizeLine_eq
theorem RpC.seenT {K : PySem.W.Frag} {G H : Hp} {v : V} {ds : List D} (h : RpC K G H v (.tuple ds)) : Rp K G v (.tuple ds) := by
  rcases h with h | ⟨a, _, h⟩
  · exact h
  · exact False.elim h
theorem cmul_of {i j : Int} (h : i.natAbs < 18446744073709551616 ∨ j.natAbs < 18446744073709551616) : CMul i j := by
  rcases h with h | h
  · exact .inl ⟨by omega, by omega⟩
  · exact .inr ⟨by omega, by omega⟩
theorem bop_ok {X : Cx} (o : Bop) : ∃ r, OpR X (binaryOp (opOf o)) r ∧ OpA X.K r (binop o) := by
  cases o with
  | add =>
    refine ⟨_, op_add.or (op_add_str.or (op_cat.or op_catA)), fun G H v w x y z Q s hx hy e q => ?_⟩
    unfold binop at e
    split at e <;> first | contradiction | skip
    · cases e; exact .inl ⟨_, _, hx.int, hy.int, q _ _ .int⟩
    · rename_i a b _
      split at e
      · rename_i hl
        cases e
        exact .inr (.inl ⟨_, _, hx.str, hy.str, by rw [sl_eq]; exact hl, q _ _ .str⟩)
      · cases e
    · rename_i a b _
      split at e
      · rename_i hl
        cases e
        obtain ⟨l, xs, rfl, hl1, r1⟩ := hx.list s
        obtain ⟨m, ys, rfl, hl2, r2⟩ := hy.list s
        exact .inr (.inr (.inl ⟨l, m, xs, ys, rfl, rfl, hl1, hl2, by rw [sl_eq, r1.len, r2.len]; exact hl, fun p hp => q _ _ (.lst hp (r1.append r2))⟩))
      · cases e
    · rename_i a b _
      split at e
      · rename_i hl
        cases e
        obtain ⟨l, xs, rfl, hl1, r1⟩ := hx.tuple s
        obtain ⟨m, ys, rfl, hl2, r2⟩ := hy.tuple s
        refine .inr (.inr (.inr ⟨l, m, xs, ys, rfl, rfl, hl1, hl2, by rw [sl_eq, r1.len, r2.len]; exact hl, fun h0 => ?_, fun h1 h2 => ?_, fun h1 h2 p hp => q _ _ (.tup hp (r1.append r2))⟩))
        · subst h0
          cases r1
          exact q _ _ (.inr ⟨rfl, rfl, hy.seenT⟩)
        · subst h2
          cases r2
          rw [List.append_nil] at q
          exact q _ _ (.inr ⟨rfl, rfl, hx.seenT⟩)
      · cases e
  | sub =>
    refine ⟨_, op_sub, fun G H v w x y z Q s hx hy e q => ?_⟩
    unfold binop at e
    split at e <;> first | contradiction | skip
    cases e; exact ⟨_, _, hx.int, hy.int, q _ _ .int⟩
  | mul =>
    refine ⟨_, (op_mul.or op_rep).or (op_once.or op_repT), fun G H v w x y z Q s hx hy e q => ?_⟩
    unfold binop at e
    split at e <;> first | contradiction | skip
    · unfold mulI at e
      split at e
      · rename_i hl
        cases e
        exact .inl (.inl ⟨_, _, hx.int, hy.int, cmul_of hl, q _ _ .int⟩)
      · cases e
    · split at e
      · rename_i hl
        cases e
        obtain ⟨l, xs, rfl, hl1, r1⟩ := hx.list s
        exact .inl (.inr ⟨l, _, xs, rfl, hy.int, hl1, hl.2.1, hl.1, by rw [sl_eq, r1.len]; exact hl.2.2, fun p hp => q _ _ (.lst hp (r1.rep _))⟩)
      · cases e
    · split at e
      · rename_i hl
        cases e
        obtain ⟨l, xs, rfl, hl1, r1⟩ := hx.tuple s
        have hr : Rp _ G (.ref l) _ := hx.elim id fun ⟨_, _, h⟩ => False.elim h
        have hw := hy.int
        subst hl
        exact .inr (.inl ⟨l, xs, rfl, hw, hl1, q _ _ (.inr ⟨rfl, rfl, hr⟩)⟩)
      · split at e
        · rename_i hl
          cases e
          obtain ⟨l, xs, rfl, hl1, r1⟩ := hx.tuple s
          have hne : xs ≠ [] := fun z => by subst z; cases r1; simp at hl
          exact .inr (.inr ⟨l, _, xs, rfl, hy.int, hl1, hne, hl.2.1, hl.2.2.1, by rw [r1.len]; exact hl.2.2.2, fun p hp => q _ _ (.tup hp (r1.rep _))⟩)
        · cases e
  | fdiv =>
    refine ⟨_, op_fdivN, fun G H v w x y z Q s hx hy e q => ?_⟩
    unfold binop at e
    split at e <;> first | contradiction | skip
    split at e
    · rename_i hl
      cases e; exact ⟨_, _, hx.int, hy.int, hl, q _ _ .int⟩
    · cases e
  | mod =>
    refine ⟨_, op_modN, fun G H v w x y z Q s hx hy e q => ?_⟩
    unfold binop at e
    split at e <;> first | contradiction | skip
    split at e
    · rename_i hl
      cases e; exact ⟨_, _, hx.int, hy.int, hl, q _ _ .int⟩
    · cases e
  | pow =>
    refine ⟨_, op_pow, fun G H v w x y z Q s hx hy e q => ?_⟩
    unfold binop at e
    split at e <;> first | contradiction | skip
    split at e
    · rename_i hl
      cases e; exact ⟨_, _, hx.int, hy.int, hl, q _ _ .int⟩
    · cases e
end Pv

set_option Elab.async false
set_option linter.all false
set_option maxRecDepth 100000
set_option maxHeartbeats 4000000
/-! PvDn: sorted of a tuple. -/
namespace Pv
open PySem PySem.Spec L2 PyProof.Rows PySem.W
section
variable {prog : Program} {w : World} {A : Around} {E : Value → Shared → Prop} {s : Shared}
/-- the items of a tuple, put down as a list -/
theorem collectT {l : Addr} {us : List Value} {Q : List Value → Shared → Prop} (ht : IsTup s.heap l us.toArray) (hz : us.length ≤ sizeLine)
    (q : Q us { s with heap := (s.heap.push (seqObj "list" #[] 0)).update s.heap.objs.size (Obj.mapSeq (· ++ us.toArray)) }) : wpAny (model prog w) A (collect (.ref l)) Q E s := by
  obtain ⟨ob, e0, ec, ep, ed⟩ := ht
  unfold collect; refine wpAny_bind (wpAny_runValue (codeAny_builtin entry_proto_collect' ?_))
  show wpAny _ _ (do again (.builtin "list.__iadd__" ⟨[← newList [], .ref l], []⟩)) _ _ s; refine wpAny_bind (wpAny_newList (wpAny_pure ⟨Code.quiet_builtin _ (by decide +kernel), codeAny_builtin entry_list_iadd' ?_⟩))
  show wpAny _ _ (Builtin.List.listExtendWith (.ref s.heap.objs.size) (.ref l) (.ref s.heap.objs.size)) _ _ { s with heap := s.heap.push (seqObj "list" #[] 0) }; unfold Builtin.List.listExtendWith
  have e1 : (s.heap.push (seqObj "list" #[] 0)).get? l = some ob := Heap.get?_push_of_some _ e0
  refine wpAny_bind (wpAny_typeOf (T := "tuple") ⟨ob, e1, ec⟩ ?_)
  have tt : (Value.type "tuple" == Value.type "tuple") = true := by rfl
  rw [if_pos (by rw [tt]; simp)]; refine wpAny_bind (listItems_at e1 ed ?_)
  refine wpAny_bind (listItems_at (xs := #[]) (n := 0) (Heap.get?_push_size _ rfl) rfl ?_); rw [if_neg (by simp)]
  have hb : ((#[] : Array Value) ++ us.toArray).size ≤ sizeLine + 1 := by simp only [Array.size_append, List.size_toArray, List.length_nil]; simp; omega
  refine wpAny_bind (listUpdate_at (xs := #[]) (n := 0) (Heap.get?_push_size _ rfl) rfl ?_ (Nat.zero_le _) hb); refine wpAny_pure ?_
  show wpAny (model prog w) A (do let o ← load s.heap.objs.size; match o.data with | .seq xs _ => pure xs.toList | _ => unsupported "internal:collect") Q E { s with heap := (s.heap.push (seqObj "list" #[] 0)).update s.heap.objs.size (Obj.mapSeq (· ++ us.toArray)) }
  refine wpAny_bind (wpAny_load (get?_update_seq (Heap.get?_push_size _ rfl) _) ?_); show wpAny _ _ (pure ((#[] : Array Value) ++ us.toArray).toList) Q E _
  rw [show ((#[] : Array Value) ++ us.toArray).toList = us by simp]; exact wpAny_pure q
/-- sorted of a tuple, by the sort of a list of its items -/
theorem sortT_of {l : Addr} {us : List Value} {Q : Value → Shared → Prop} (ht : IsTup s.heap l us.toArray) (hz : us.length ≤ sizeLine)
    (b : ∀ E' : Value → Shared → Prop, wpAny (model prog w) A.in1.in1 (Builtin.«list.sort» ⟨[.ref (s.heap.objs.size + 1)], []⟩) (fun f s' => f = .done (.ret .none) ∧ Q (.ref (s.heap.objs.size + 1)) s') E' { s with heap := copyHeap s.heap us }) :
    wpAny (model prog w) A (call (.builtin "sorted") [.ref l]) Q E s := by
  refine call_function_entry_kw kind_sorted plain_sorted entry_sorted (args_sorted1 _) ?_; unfold Builtin.«sorted»
  refine wpAny_bind (m := checkCount "sorted" 1 1 _) (wpAny_pure ?_); refine wpAny_bind (collectT ht hz ?_); refine wpAny_bind (wpAny_newList ?_ hz)
  have es : ((s.heap.push (seqObj "list" #[] 0)).update s.heap.objs.size (Obj.mapSeq (· ++ us.toArray))).objs.size = s.heap.objs.size + 1 := by rw [Heap.size_update, size_push']
  show wpAny _ _ _ _ _ { s with heap := copyHeap s.heap us }; rw [es]
  refine wpAny_bind (wpAny_holding (wpAny_call_entry_kw slot_list_sort ⟨_, copyHeap_at s.heap us, rfl⟩ entry_list_sort ?body (args_list_sort _)))
  case body =>
    show wpAny _ A.in1.in1 (Builtin.«list.sort» ⟨[.ref (s.heap.objs.size + 1)], []⟩) _ _ _
    exact wpAny_mono (b _) (fun f s' hf => by obtain ⟨rfl, hq⟩ := hf; exact ⟨_, rfl, wpAny_pure ⟨_, rfl, hq⟩⟩) fun _ _ e => e
/-- .. of data that can be put in order -/
theorem sortT_data0 {β : Type} {R : Value → β → Prop} {enc : β → PyData} {us : List Value} {bs : List β} {l : Addr} {Q : Value → Shared → Prop} (ht : IsTup s.heap l us.toArray) (e : EachIs R us bs) (er : EachIs (fun v b => ∃ as, Reads s.heap v (enc b) as) us bs)
    (hal : AllAlike (bs.map enc)) (hk : Sortable (bs.map enc)) (hL : bs.length ≤ sizeLine) (hu : ∀ b, b ∈ bs → A.units + 2 + (enc b).depth < cLine)
    (h : ∀ out, out.length = bs.length → EachIs R out (bs.mergeSort (dataLe false enc)) → Q (.ref (s.heap.objs.size + 1)) { s with heap := sortedAll s.heap us (List.toArray out) }) : wpAny (model prog w) A (call (.builtin "sorted") [.ref l]) Q E s := by
  have er2 : EachIs (fun v b => ∃ as, Reads (sortingHeap (copyHeap s.heap us) (s.heap.objs.size + 1) us) v (enc b) as) us bs := er.mono fun _ _ ⟨as, r⟩ => ⟨as, Reads.keeps (fun _ _ => sorting_copy_old) r⟩
  have hz : us.length ≤ sizeLine := by rw [e.length]; exact hL
  have S := SortsAt.data (prog := prog) (w := w) (A := A.in1.in1) (s := { s with heap := sortingHeap (copyHeap s.heap us) (s.heap.objs.size + 1) us }) (each_map (R := fun v d => ∃ as, Reads (sortingHeap (copyHeap s.heap us) (s.heap.objs.size + 1) us) v d as) enc er2) hal hk (bound_map hu)
  exact sortT_of ht hz fun _ => list_sort_vals (s := { s with heap := copyHeap s.heap us }) (copyHeap_at s.heap us) S hz ⟨rfl, h _ (by rw [sortVals_length false rfl]; exact e.length) (sortVals_data false e er2 hal)⟩
end
end Pv

set_option Elab.async false
set_option linter.all false
set_option maxRecDepth 100000
set_option maxHeartbeats 4000000
/-! PvDp: tuples, the empty one among them, can be sorted. -/
namespace Pv
open PySem PySem.Spec L2 PyProof.Rows PySem.W PySem.SeqAt PySem.Calls
section
variable {prog : Program} {w : World} {A : Around} {E : Value → Shared → Prop} {s : Shared}
def neT : PyData → Bool | .tuple (_ :: _) => true | _ => false
theorem firstsT : ∀ (vs : List Value) (ds : List PyData), EachIs (fun v d => ∃ as, Reads s.heap v d as) vs ds → (∀ d ∈ ds, ∃ r, d = .tuple r) → ∀ {Q : List (Option Value) → Shared → Prop},
    (∀ fs : List (Option Value), fs.map Option.isSome = ds.map neT → Q fs s) → wpAny (model prog w) A (vs.mapM firstOfTuple') Q E s
  | _, _, .nil, _, Q, h => by rw [List.mapM_nil]; exact wpAny_pure (h [] rfl)
  | _ :: vs, d :: ds, .cons r t, hd, Q, h => by
    obtain ⟨xs, rfl⟩ := hd d (List.mem_cons_self ..)
    obtain ⟨as, r⟩ := r
    rw [List.mapM_cons]
    refine wpAny_bind ?_
    rw [kas_first_eq]
    cases r with
    | @tuple a o its n _ _ ho hc hdt hr =>
      refine wpAny_bind (Looks.here (show Looks (model prog w) s.heap (typeOf (.ref a)) o.cls from (Looks.ld ho).andThen .now) ?_)
      rw [hc, if_neg (by first | decide | simp)]
      refine wpAny_bind (listItems_at ho hdt (wpAny_pure ?_))
      refine wpAny_bind (firstsT vs ds t (fun d hm => hd d (List.mem_cons_of_mem _ hm)) (Q := fun bs s' => wpAny (model prog w) A (pure (its[0]? :: bs)) Q E s') fun fs hf => wpAny_pure (h _ ?_))
      have hn : its.size = xs.length := by simpa using SeqAt.ReadsAll.length _ _ _ hr
      rw [List.map_cons, List.map_cons, hf]
      congr 1
      cases xs with
      | nil => simp [neT] at hn ⊢; exact hn
      | cons x r => simp [neT] at hn ⊢; omega
theorem keyLt'_general (x y : Value) : keyLt' general' x y = oneLt' false x y := rfl
theorem call_tuple_lt {Q : Value → Shared → Prop} {l b : Addr} {items items2 : Array Value} {e r : Nat → Bool} (hl : s.heap.IsTuple l items) (hb : s.heap.IsTuple b items2)
    (he : ∀ j (h1 : j < items.size) (h2 : j < items2.size), EqAt A.in1 s items[j] items2[j] (e j)) (hr : ∀ j (h1 : j < items.size) (h2 : j < items2.size), e j = false → RcLt A.in1 s items[j] items2[j] (r j))
    (h : Q (.bool (firstLt e r (decide (items.size < items2.size)) (List.range (min items.size items2.size)))) s) : wpAny (model prog w) A (call (.builtin "tuple.__lt__") [.ref l, .ref b]) Q E s := by
  obtain ⟨⟨cls, dd, data, sl⟩, ho, hc, n, hd⟩ := id hl
  obtain ⟨⟨cls2, dd2, data2, sl2⟩, ho2, hc2, n2, hd2⟩ := id hb
  simp only at hc hd hc2 hd2
  subst hc hd hc2 hd2
  exact call_meets F.slot_tuple_lt ⟨_, ho, rfl⟩ F.entry_tuple_lt (F.args_tuple_lt_2 _ _) (tuple_ltAt l b items items2 n n2 dd dd2 sl sl2 e r) ⟨ho, ho2, he, hr, h⟩
theorem oneLt_tuples {xs ys : List PyData} {a b : Value} {as bs : List Addr} {Q : Bool → Shared → Prop} (ra : Reads s.heap a (.tuple xs) as) (rb : Reads s.heap b (.tuple ys) bs) (h : alike (.tuple xs) (.tuple ys) = true)
    (hu : A.units + min (PyData.tuple xs).depth (PyData.tuple ys).depth < cLine) (hq : Q (dataLt (.tuple xs) (.tuple ys)) s) : wpAny (model prog w) A (oneLt' true a b) Q E s := by
  have hal : alikeAll xs ys = true := by simpa [alike] using h
  cases ra with
  | @tuple l o vs n _ as₁ h1 h2 h3 h4 =>
    cases rb with
    | @tuple l' o' vs' n' _ bs₁ k1 k2 k3 k4 =>
      have n1 : vs.size = xs.length := by simpa using ReadsAll.length _ _ _ h4
      have n2 : vs'.size = ys.length := by simpa using ReadsAll.length _ _ _ k4
      rw [dataLt_tuple, ← firstLt_toks xs ys hal, ← n1, ← n2] at hq
      rw [oneLt'_eq]
      simp only [if_true]
      refine wpAny_bind (wpAny_cRoomFor (room_here hu) ?_)
      refine wpAny_bind (wpAny_callSpecialIfBound?_slot (T := "tuple") ⟨_, h1, h2⟩ F.slot_tuple_lt (call_tuple_lt (e := pairEq xs ys) (r := fun j => dataLt (xs.getD j .none) (ys.getD j .none)) ⟨_, h1, h2, _, h3⟩ ⟨_, k1, k2, _, k3⟩ (fun j j1 j2 => ?_) (fun j j1 j2 hj => ?_) ?_))
      · have := eqAt_alikeAll xs ys A.in1 s vs.toList vs'.toList _ _ h4 k4 hal (room_in hu) j (by simpa using j1) (by simpa using j2)
        simpa using this
      · have := rcLt_alikeAll xs ys A.in1 s vs.toList vs'.toList _ _ h4 k4 hal (room_in hu) j (by simpa using j1) (by simpa using j2) hj
        simpa using this
      · exact wpAny_truthy_bool hq
/-- tuples of any lengths -/
theorem sortsT {vs : List Value} {ds : List PyData} (e : EachIs (fun v d => ∃ as, Reads s.heap v d as) vs ds) (hal : AllAlike ds) (ht : ∀ d ∈ ds, ∃ r, d = .tuple r) (hu : ∀ d, d ∈ ds → A.units + d.depth < cLine) :
    SortsAt prog w A s (dataKind s.heap ds) vs := by
  by_cases hne : ds.all neT = true
  · refine SortsAt.data e hal (.inl fun d hd => ?_) hu
    have := List.all_eq_true.mp hne d hd
    obtain ⟨r, rfl⟩ := ht d hd
    cases r with
    | nil => simp [neT] at this
    | cons x r => exact ⟨_, _, rfl⟩
  have room : ∀ {d d' : PyData}, d ∈ ds → A.units + min d.depth d'.depth < cLine := fun {d d'} hd => Nat.lt_of_le_of_lt (Nat.add_le_add_left (Nat.min_le_left _ _) _) (hu d hd)
  refine ⟨fun v hv => ?_, ?_⟩
  · obtain ⟨d, hd, as, r⟩ := e.left v hv
    exact ⟨_, dataKind_some hal hd r⟩
  · have hneg : ∀ fs : List (Option Value), fs.map Option.isSome = ds.map neT → ¬ (fs.toArray.all fun x => x.isSome) = true := fun fs hf hc => by
      rw [List.all_toArray] at hc
      have h2 : (fs.map Option.isSome).all id = true := by rw [List.all_map]; exact hc
      rw [hf, List.all_map] at h2
      exact hne h2
    cases hds : ds with
    | nil => subst hds; simp at hne
    | cons d₀ ds₀ =>
      by_cases h0 : neT d₀ = true
      · refine ⟨general', ?_, fun h2 E Q hq => ?_⟩
        · rw [← hds]
          intro E x y a b Q ha hb hq
          obtain ⟨d, as, hd, ra, rfl⟩ := dataKind_inv ha
          obtain ⟨d', as', hd', rb, rfl⟩ := dataKind_inv hb
          rw [keyLt'_general]
          obtain ⟨r, rfl⟩ := ht d hd
          exact oneLt_alike (fun h => by simp at h) ra rb (hal _ hd d' hd') (by simp) (room hd) hq
        · rw [kat_kind_eq, List.mapM_toArray, map_eq_pure_bind]
          refine wpAny_bind (wpAny_bind (firstsT vs ds e ht fun fs hf => wpAny_pure ?_))
          rw [if_neg (hneg fs hf)]
          cases fs with
          | nil => rw [hds] at hf; simp at hf
          | cons f fr =>
            have hf0 : f.isSome = true := by
              rw [hds] at hf
              simp only [List.map_cons, List.cons.injEq] at hf
              rw [hf.1, h0]
            rw [if_pos (by simpa using hf0)]
            exact wpAny_pure hq
      · refine ⟨oneType', ?_, fun h2 E Q hq => ?_⟩
        · rw [← hds]
          intro E x y a b Q ha hb hq
          obtain ⟨d, as, hd, ra, rfl⟩ := dataKind_inv ha
          obtain ⟨d', as', hd', rb, rfl⟩ := dataKind_inv hb
          rw [keyLt'_oneType]
          obtain ⟨r, rfl⟩ := ht d hd
          obtain ⟨r', rfl⟩ := ht d' hd'
          exact oneLt_tuples ra rb (hal _ hd _ hd') (room hd) hq
        · rw [kat_kind_eq, List.mapM_toArray, map_eq_pure_bind]
          refine wpAny_bind (wpAny_bind (firstsT vs ds e ht fun fs hf => wpAny_pure ?_))
          rw [if_neg (hneg fs hf)]
          cases fs with
          | nil => rw [hds] at hf; simp at hf
          | cons f fr =>
            have hf0 : ¬ f.isSome = true := by
              rw [hds] at hf
              simp only [List.map_cons, List.cons.injEq] at hf
              rw [hf.1]; exact h0
            rw [if_neg (by simpa using hf0)]
            rw [oneTypeOnly'_eq, List.mapM_toArray, map_eq_pure_bind]
            have hT : ∀ v ∈ vs, Looks (model prog w) s.heap (typeOf v) (Value.type "tuple") := fun v hv => by
              obtain ⟨d, hd, as, r⟩ := e.left v hv
              obtain ⟨xs, rfl⟩ := ht d hd
              exact looks_reads r
            refine wpAny_bind (wpAny_bind (wpAny_bind (kas_mapM (r := Value.type "tuple") _ (fun v hv Q' hq => (hT v hv).here hq) (wpAny_pure ?_))))
            have hall : ((List.map (fun _ => Value.type "tuple") vs).toArray.all fun x => x == Value.type "tuple") = true := by
              simp only [List.all_toArray, List.all_map, List.all_eq_true]
              intro _ _
              rfl
            have h0 : (List.map (fun _ => Value.type "tuple") vs).toArray[0]? = some (Value.type "tuple") := by
              cases vs with
              | nil => simp at h2
              | cons v vs => simp
            rw [h0]
            simp only [hall, if_true]
            exact wpAny_pure (wpAny_pure hq)
def Sortable2 (ds : List PyData) : Prop := Sortable ds ∨ ∀ d ∈ ds, ∃ r, d = .tuple r
theorem sorts2 {vs : List Value} {ds : List PyData} (e : EachIs (fun v d => ∃ as, Reads s.heap v d as) vs ds) (hal : AllAlike ds) (hk : Sortable2 ds) (hu : ∀ d, d ∈ ds → A.units + d.depth < cLine) :
    SortsAt prog w A s (dataKind s.heap ds) vs := by
  rcases hk with h | h
  · exact SortsAt.data e hal h hu
  · exact sortsT e hal h hu
theorem sortT_data {β : Type} {R : Value → β → Prop} {enc : β → PyData} {us : List Value} {bs : List β} {l : Addr} {Q : Value → Shared → Prop} (ht : IsTup s.heap l us.toArray) (e : EachIs R us bs) (er : EachIs (fun v b => ∃ as, Reads s.heap v (enc b) as) us bs)
    (hal : AllAlike (bs.map enc)) (hk : Sortable2 (bs.map enc)) (hL : bs.length ≤ sizeLine) (hu : ∀ b, b ∈ bs → A.units + 2 + (enc b).depth < cLine)
    (h : ∀ out, out.length = bs.length → EachIs R out (bs.mergeSort (dataLe false enc)) → Q (.ref (s.heap.objs.size + 1)) { s with heap := sortedAll s.heap us (List.toArray out) }) : wpAny (model prog w) A (call (.builtin "sorted") [.ref l]) Q E s := by
  have er2 : EachIs (fun v b => ∃ as, Reads (sortingHeap (copyHeap s.heap us) (s.heap.objs.size + 1) us) v (enc b) as) us bs := er.mono fun _ _ ⟨as, r⟩ => ⟨as, Reads.keeps (fun _ _ => sorting_copy_old) r⟩
  have hz : us.length ≤ sizeLine := by rw [e.length]; exact hL
  have S := sorts2 (prog := prog) (w := w) (A := A.in1.in1) (s := { s with heap := sortingHeap (copyHeap s.heap us) (s.heap.objs.size + 1) us }) (each_map (R := fun v d => ∃ as, Reads (sortingHeap (copyHeap s.heap us) (s.heap.objs.size + 1) us) v d as) enc er2) hal hk (bound_map hu)
  exact sortT_of ht hz fun _ => list_sort_vals (s := { s with heap := copyHeap s.heap us }) (copyHeap_at s.heap us) S hz ⟨rfl, h _ (by rw [sortVals_length false rfl]; exact e.length) (sortVals_data false e er2 hal)⟩
theorem sortL_data {β : Type} {R : Value → β → Prop} {enc : β → PyData} {vs : List Value} {bs : List β} {l : Addr} {Q : Value → Shared → Prop} (hl : s.heap.IsList l vs.toArray) (e : EachIs R vs bs) (er : EachIs (fun v b => ∃ as, Reads s.heap v (enc b) as) vs bs)
    (hal : AllAlike (bs.map enc)) (hk : Sortable2 (bs.map enc)) (hL : bs.length ≤ sizeLine) (hu : ∀ b, b ∈ bs → A.units + 2 + (enc b).depth < cLine)
    (h : ∀ out, out.length = bs.length → EachIs R out (bs.mergeSort (dataLe false enc)) → Q (.ref (s.heap.objs.size + 1)) { s with heap := sortedAll s.heap vs (List.toArray out) }) : wpAny (model prog w) A (call (.builtin "sorted") [.ref l]) Q E s := by
  have er2 : EachIs (fun v b => ∃ as, Reads (sortingHeap (copyHeap s.heap vs) (s.heap.objs.size + 1) vs) v (enc b) as) vs bs := er.mono fun _ _ ⟨as, r⟩ => ⟨as, Reads.keeps (fun _ _ => sorting_copy_old) r⟩
  exact sorted_vals hl (sorts2 (s := { s with heap := sortingHeap (copyHeap s.heap vs) (s.heap.objs.size + 1) vs }) (each_map (R := fun v d => ∃ as, Reads (sortingHeap (copyHeap s.heap vs) (s.heap.objs.size + 1) vs) v d as) enc er2) hal hk (bound_map hu)) (by rw [e.length]; exact hL)
    (h _ (by rw [sortVals_length false rfl]; exact e.length) (sortVals_data false e er2 hal))
end
end Pv

set_option Elab.async false
set_option linter.all false
set_option maxRecDepth 100000
set_option maxHeartbeats 1000000
/-! PvDo: the order of data: <, min, max, sorted, sum of tuples. -/
namespace Pv
open PySem PySem.Spec L2 PySem.W
section
variable {X : Cx}
theorem DpAll.len : ∀ {K : PySem.W.Frag} {H : Hp} {vs : List V} {ds : List D}, DpAll K H vs ds → vs.length = ds.length
  | _, _, _, _, .nil => rfl
  | _, _, _, _, .cons _ t => congrArg (· + 1) (DpAll.len t)
theorem DpAll.at : ∀ {K : PySem.W.Frag} {H : Hp} {vs : List V} {ds : List D} {i : Nat} {d : D}, DpAll K H vs ds → ds[i]? = some d → ∃ v, vs[i]? = some v ∧ Dp K H v d
  | _, _, _, _, _, _, .nil, e => by simp at e
  | _, _, _, _, 0, _, .cons h _, e => by simp at e; subst e; exact ⟨_, rfl, h⟩
  | _, _, _, _, i + 1, _, .cons _ t, e => by
    obtain ⟨v, h1, h2⟩ := DpAll.at (i := i) t (by simpa using e)
    exact ⟨v, by simpa using h1, h2⟩
theorem alkB_of {xs : List D} (h : AlkB xs = true) : PySem.W.AlikeAll xs := by
  unfold AlkB at h
  simp only [List.all_eq_true, Bool.and_eq_true] at h
  refine ⟨fun x hx y hy => (h x hx).1 y hy, fun x hx e => ?_⟩
  have := (h x hx).2
  subst e
  simp at this
/-- which item it is -/
theorem pick_of {K : PySem.W.Frag} {s : Shared} {h' : Heap} {xs : List V} {its : List Value} {ds : List D} {i : Nat} {u : Value} {z : D} {bs as : List Addr} (ra : ReadsAll s.heap its ds as) (rv : Vals xs its) (hu : its[i]? = some u) (r : Reads h' u z bs) (hk : ∀ b o, s.heap.get? b = some o → h'.get? b = some o)
    (hz : ∀ d ∈ ds, alike z d = true) : ∃ v, xs[i]? = some v ∧ RelV v u ∧ ds[i]? = some z := by
  obtain ⟨cs, r2, hi, hm, _⟩ := PySem.W.readsAll_at ra i u hu
  have e := alike_unique z (ds.getD i .none) u bs cs (hz _ hm) r (PyProof.Rows.Reads.keeps hk r2)
  have ed : ds[i]? = some z := by
    rw [e, List.getD_eq_getElem?_getD, List.getElem?_eq_getElem hi]; rfl
  obtain ⟨hi2, eu⟩ := List.getElem?_eq_some_iff.mp hu
  have hl : xs.length = its.length := rv.length
  have hx : i < xs.length := by omega
  refine ⟨xs[i], List.getElem?_eq_getElem hx, ?_, ed⟩
  have key : ∀ {xs : List V} {its : List Value}, Vals xs its → ∀ (i : Nat) (h1 : i < xs.length) (h2 : i < its.length), RelV xs[i] its[i] := by
    intro xs its r
    induction r with
    | nil => intro i h1; simp at h1
    | cons a t ih =>
      intro i h1 h2
      cases i with
      | zero => exact a
      | succ i => exact ih i (by simpa using h1) (by simpa using h2)
  rw [← eu]
  exact key rv i hx hi2
def rPick (K : PySem.W.Frag) (f : D → List D → D) : List V → Hp → VK → Prop := fun vs H Q => ∃ a xs x ds, vs = [.ref a] ∧ (SqL K H a xs ∨ SqT K H a xs) ∧ DpAll K H xs (x :: ds) ∧ AlkB (x :: ds) = true ∧ PyData.depthAll (x :: ds) ≤ 40 ∧ ∀ (i : Nat) v, xs[i]? = some v → (x :: ds)[i]? = some (f x ds) → Q v H
theorem foldl_mem {α : Type} (p : α → α → Bool) : ∀ (xs : List α) (x : α), xs.foldl (fun a y => if p y a then y else a) x ∈ x :: xs
  | [], x => by simp
  | y :: ys, x => by
    rw [List.foldl_cons]
    have := foldl_mem p ys (if p y x then y else x)
    rcases List.mem_cons.mp this with e | h
    · rw [e]; split <;> simp
    · exact List.mem_cons_of_mem _ (List.mem_cons_of_mem _ h)
theorem minD_mem (x : D) (xs : List D) : PySem.W.minD x xs ∈ x :: xs := foldl_mem dataLt xs x
theorem maxD_mem (x : D) (xs : List D) : PySem.W.maxD x xs ∈ x :: xs := foldl_mem (fun y a => dataLt a y) xs x
theorem cr_mnD (hc : X.calm = true) (hu : X.A.units + 65 < cLine) : CallR X (.builtin "min") (rPick X.K PySem.W.minD) := by
  intro pins s σ H vs us Q I r h
  obtain ⟨a, xs, x, ds, rfl, hs, hd, ha, hdep, q⟩ := h
  have hal := alkB_of ha
  rw [Vals.ref1 r]
  rcases hs with hs | hs
  · obtain ⟨its, rv, hl, _⟩ := I.list hs
    obtain ⟨as, ra⟩ := Dp.readsAll I _ _ _ hd rv
    refine PySem.W.min_list_data (I.ok.hd hc) hl.isList ra hal (by omega) fun i u h' tk bs hi r2 hk => ?_
    obtain ⟨v, e1, rel, e2⟩ := pick_of (K := X.K) ra rv (by simpa using hi) r2 hk (fun d hd' => hal.1 _ (minD_mem x ds) d hd')
    exact ⟨v, H, I.kept hk, rel, q i v e1 e2⟩
  · obtain ⟨its, rv, hl, _⟩ := I.tuple hs
    obtain ⟨as, ra⟩ := Dp.readsAll I _ _ _ hd rv
    refine PySem.W.min_tuple_data (I.ok.hd hc) hl ra hal (by omega) fun i u h' tk bs hi r2 hk => ?_
    obtain ⟨v, e1, rel, e2⟩ := pick_of (K := X.K) ra rv (by simpa using hi) r2 hk (fun d hd' => hal.1 _ (minD_mem x ds) d hd')
    exact ⟨v, H, I.kept hk, rel, q i v e1 e2⟩
theorem cr_mxD (hc : X.calm = true) (hu : X.A.units + 65 < cLine) : CallR X (.builtin "max") (rPick X.K PySem.W.maxD) := by
  intro pins s σ H vs us Q I r h
  obtain ⟨a, xs, x, ds, rfl, hs, hd, ha, hdep, q⟩ := h
  have hal := alkB_of ha
  rw [Vals.ref1 r]
  rcases hs with hs | hs
  · obtain ⟨its, rv, hl, _⟩ := I.list hs
    obtain ⟨as, ra⟩ := Dp.readsAll I _ _ _ hd rv
    refine PySem.W.max_list_data (I.ok.hd hc) hl.isList ra hal (by omega) fun i u h' tk bs hi r2 hk => ?_
    obtain ⟨v, e1, rel, e2⟩ := pick_of (K := X.K) ra rv (by simpa using hi) r2 hk (fun d hd' => hal.1 _ (maxD_mem x ds) d hd')
    exact ⟨v, H, I.kept hk, rel, q i v e1 e2⟩
  · obtain ⟨its, rv, hl, _⟩ := I.tuple hs
    obtain ⟨as, ra⟩ := Dp.readsAll I _ _ _ hd rv
    refine PySem.W.max_tuple_data (I.ok.hd hc) hl ra hal (by omega) fun i u h' tk bs hi r2 hk => ?_
    obtain ⟨v, e1, rel, e2⟩ := pick_of (K := X.K) ra rv (by simpa using hi) r2 hk (fun d hd' => hal.1 _ (maxD_mem x ds) d hd')
    exact ⟨v, H, I.kept hk, rel, q i v e1 e2⟩
/-! ### <, >, <=, >= -/
def rCmpD (K : PySem.W.Frag) (f : D → D → Bool) : R2 := fun x y H Q => ∃ d e, Dp K H x d ∧ Dp K H y e ∧ alike d e = true ∧ d ≠ .none ∧ d.depth ≤ 40 ∧ Q (.bl (f d e)) H
theorem op_ltD (hu : X.A.units + 65 < cLine) : OpR X (compareOp .Lt) (rCmpD X.K fun d e => dataLt d e) := by
  intro pins s σ H x y v u Q I rx ry h
  obtain ⟨d, e, hd, he, al, hn, dp, q⟩ := h
  obtain ⟨as, r1⟩ := Dp.reads I d x v hd rx
  obtain ⟨bs, r2⟩ := Dp.reads I e y u he ry
  exact PySem.W.lt_data r1 r2 al hn (by have := Nat.min_le_left d.depth e.depth; omega) ⟨.bl _, H, I, rfl, q⟩
theorem op_gtD (hu : X.A.units + 65 < cLine) : OpR X (compareOp .Gt) (rCmpD X.K fun d e => dataLt e d) := by
  intro pins s σ H x y v u Q I rx ry h
  obtain ⟨d, e, hd, he, al, hn, dp, q⟩ := h
  obtain ⟨as, r1⟩ := Dp.reads I d x v hd rx
  obtain ⟨bs, r2⟩ := Dp.reads I e y u he ry
  exact PySem.W.gt_data r1 r2 al hn (by have := Nat.min_le_left d.depth e.depth; omega) ⟨.bl _, H, I, rfl, q⟩
theorem op_leD (hu : X.A.units + 65 < cLine) : OpR X (compareOp .LtE) (rCmpD X.K fun d e => !dataLt e d) := by
  intro pins s σ H x y v u Q I rx ry h
  obtain ⟨d, e, hd, he, al, hn, dp, q⟩ := h
  obtain ⟨as, r1⟩ := Dp.reads I d x v hd rx
  obtain ⟨bs, r2⟩ := Dp.reads I e y u he ry
  exact PySem.W.le_data r1 r2 al hn (by have := Nat.min_le_left d.depth e.depth; omega) ⟨.bl _, H, I, rfl, q⟩
theorem op_geD (hu : X.A.units + 65 < cLine) : OpR X (compareOp .GtE) (rCmpD X.K fun d e => !dataLt d e) := by
  intro pins s σ H x y v u Q I rx ry h
  obtain ⟨d, e, hd, he, al, hn, dp, q⟩ := h
  obtain ⟨as, r1⟩ := Dp.reads I d x v hd rx
  obtain ⟨bs, r2⟩ := Dp.reads I e y u he ry
  exact PySem.W.ge_data r1 r2 al hn (by have := Nat.min_le_left d.depth e.depth; omega) ⟨.bl _, H, I, rfl, q⟩
end
/-! ### sum of a tuple, min and max of two -/
section
variable {prog : Program} {w : World} {A : Around} {E : Value → Shared → Prop} {s : Shared}
theorem sum_tup {l : Addr} {its : List Value} {ns : List Int} {Q : Value → Shared → Prop} (hh : A.handled = none) (hl : s.heap.IsTuple l its.toArray) (hi : PyProof.Rows.IntsAre its ns)
    (h : ∀ h' tk t', (∀ b o, s.heap.get? b = some o → h'.get? b = some o) → Q (.int ns.sum t') { s with heap := h', toks := tk }) : wpAny (model prog w) A (call (.builtin "sum") [.ref l]) Q E s := by
  obtain ⟨xs, e⟩ := hi.allInts.items
  have hn : numsOf (intItems xs).toList = ns := by rw [← e]; exact hi.numsOf
  rw [nums_intItems] at hn
  rw [e] at hl
  have hlt : l < s.heap.objs.size := by obtain ⟨_, q, _⟩ := hl; exact Heap.lt_size q
  refine call_sum_walkG (wpAny_pyIter_tuple hl ⟨_, _, _, _, _, _, numAt xs, rfl, Walks.tuple (A := A.in1) hh s.heap.objs.size l (Nat.ne_of_lt hlt) (intItems xs), ⟨⟨_, Heap.get?_push_size _ rfl, rfl, rfl⟩, hl.push _⟩, fun b hb => ?_, fun _ _ => intItems_at, fun h' tk t' hk => ?_⟩)
  · show b < (s.heap.push _).objs.size
    rw [Heap.size_push]
    rcases List.mem_cons.mp hb with rfl | hb
    · exact Nat.lt_succ_self _
    · rw [List.mem_singleton.mp hb]; exact Nat.lt_succ_of_lt hlt
  · have q := h h' tk t' fun b o eo => hk b o (fun hm => absurd (Heap.lt_size eo) (by rw [List.mem_singleton.mp hm]; exact Nat.lt_irrefl _)) (Heap.get?_push_of_some _ eo)
    have es : preSum (numAt xs) (intItems xs).size = ns.sum := by
      have : (intItems xs).size = xs.size := by simp [intItems]
      rw [this, preSum_eq, List.take_of_length_le (by simp), hn]
    rw [es]
    exact q
/-- the two, walked as a tuple -/
theorem two_min {a b : Value} {x y : D} {as bs : List Addr} {Q : Value → Shared → Prop} (hh : A.handled = none) (ra : Reads s.heap a x as) (rb : Reads s.heap b y bs) (hal : PySem.W.AlikeAll [x, y]) (hu : A.units + 1 + PyData.depthAll [x, y] < cLine)
    (h : ∀ h' tk, (∀ c o, s.heap.get? c = some o → h'.get? c = some o) → Q (if dataLt y x = true then b else a) { s with heap := h', toks := tk }) : wpAny (model prog w) A (call (.builtin "min") [a, b]) Q E s := by
  have loop : (toString "min" ++ toString ".loop" : String) = "min.loop" := by decide
  refine call_function_tree F.kind_min F.plain_min F.entry_min (F.args_min2 a b) ?_
  refine wpAny_bind (wpAny_of_eq (a := [none, none]) rfl ?_)
  show wpAny (model prog w) A.in1 (do let t ← newTuple [a, b]; _) _ _ _
  refine wpAny_bind (wpAny_newObj_type ?_)
  generalize hs1 : ({ s with heap := s.heap.push { cls := .type "tuple", data := .seq [a, b].toArray } } : Shared) = s1
  have k1 : ∀ c o, s.heap.get? c = some o → s1.heap.get? c = some o := fun c o e => by rw [← hs1]; exact Heap.get?_push_of_some _ e
  have ht : s1.heap.IsTuple s.heap.objs.size #[a, b] := by rw [← hs1]; exact ⟨_, Heap.get?_push_size _ rfl, rfl, 0, rfl⟩
  have rr : ReadsAll s1.heap #[a, b].toList [x, y] (as ++ (bs ++ [])) := .cons (PyProof.Rows.Reads.keeps k1 ra) (.cons (PyProof.Rows.Reads.keeps k1 rb) .nil)
  refine wpAny_bind (PySem.W.iter_tupleW (A := A.in1) hh ht fun s2 e W st hfp hw hk => ?_)
  refine wpAny_bind (wpAny_newObj_type ?_)
  have hS : s2.heap.objs.size ∉ [s1.heap.objs.size, s.heap.objs.size] := fun hm => Nat.lt_irrefl _ (hfp _ hm)
  rw [loop]
  refine wpAny_pure ⟨plainId_quiet F.plain_min_loop _, PySem.codeAny_min_loop_firstH W s1.heap hw _ (PySem.W.cmpIn_lt (A := A.in1) rr hal (by show A.units + 1 + _ < _; exact hu)) s2.heap.objs.size hS (PySem.fresh_in hk) _ (by simp) (fun c o q => Heap.get?_push_of_some _ (hk c o q)) (W.frame 0 s2 _ s2.toks st (Nat.le_refl _) fun c _ o q => Heap.get?_push_of_some _ q) (Heap.get?_push_size _ rfl) fun v s' hP hm => ?_⟩
  have m2 := Moved.drop_new (tk := s2.toks) hm (Nat.le_refl _)
  obtain ⟨h', tk, rfl, hk'⟩ := PySem.W.moved_old e rfl m2
  have q := h h' tk fun c o eo => hk' c o (k1 c o eo)
  have ev : v = if dataLt y x = true then b else a := by
    have hP : (#[a, b] : Array Value)[argBest (fun i j => dataLt ([x, y].getD i .none) ([x, y].getD j .none)) 1]? = some v := hP
    by_cases c : dataLt y x = true
    · have : argBest (fun i j => dataLt ([x, y].getD i .none) ([x, y].getD j .none)) 1 = 1 := by simp [argBest, c]
      rw [this] at hP
      rw [if_pos c]
      simpa using hP.symm
    · have : argBest (fun i j => dataLt ([x, y].getD i .none) ([x, y].getD j .none)) 1 = 0 := by simp [argBest, c]
      rw [this] at hP
      rw [if_neg c]
      simpa using hP.symm
  rw [ev]
  rw [← hs1]
  exact q
theorem two_max {a b : Value} {x y : D} {as bs : List Addr} {Q : Value → Shared → Prop} (hh : A.handled = none) (ra : Reads s.heap a x as) (rb : Reads s.heap b y bs) (hal : PySem.W.AlikeAll [x, y]) (hu : A.units + 1 + PyData.depthAll [x, y] < cLine)
    (h : ∀ h' tk, (∀ c o, s.heap.get? c = some o → h'.get? c = some o) → Q (if dataLt x y = true then b else a) { s with heap := h', toks := tk }) : wpAny (model prog w) A (call (.builtin "max") [a, b]) Q E s := by
  have loop : (toString "max" ++ toString ".loop" : String) = "max.loop" := by decide
  refine call_function_tree F.kind_max F.plain_max F.entry_max (F.args_max2 a b) ?_
  refine wpAny_bind (wpAny_of_eq (a := [none, none]) rfl ?_)
  show wpAny (model prog w) A.in1 (do let t ← newTuple [a, b]; _) _ _ _
  refine wpAny_bind (wpAny_newObj_type ?_)
  generalize hs1 : ({ s with heap := s.heap.push { cls := .type "tuple", data := .seq [a, b].toArray } } : Shared) = s1
  have k1 : ∀ c o, s.heap.get? c = some o → s1.heap.get? c = some o := fun c o e => by rw [← hs1]; exact Heap.get?_push_of_some _ e
  have ht : s1.heap.IsTuple s.heap.objs.size #[a, b] := by rw [← hs1]; exact ⟨_, Heap.get?_push_size _ rfl, rfl, 0, rfl⟩
  have rr : ReadsAll s1.heap #[a, b].toList [x, y] (as ++ (bs ++ [])) := .cons (PyProof.Rows.Reads.keeps k1 ra) (.cons (PyProof.Rows.Reads.keeps k1 rb) .nil)
  refine wpAny_bind (PySem.W.iter_tupleW (A := A.in1) hh ht fun s2 e W st hfp hw hk => ?_)
  refine wpAny_bind (wpAny_newObj_type ?_)
  have hS : s2.heap.objs.size ∉ [s1.heap.objs.size, s.heap.objs.size] := fun hm => Nat.lt_irrefl _ (hfp _ hm)
  rw [loop]
  refine wpAny_pure ⟨plainId_quiet F.plain_max_loop _, PySem.codeAny_max_loop_firstH W s1.heap hw _ (PySem.W.cmpIn_gt (A := A.in1) rr hal (by show A.units + 1 + _ < _; exact hu)) s2.heap.objs.size hS (PySem.fresh_in hk) _ (by simp) (fun c o q => Heap.get?_push_of_some _ (hk c o q)) (W.frame 0 s2 _ s2.toks st (Nat.le_refl _) fun c _ o q => Heap.get?_push_of_some _ q) (Heap.get?_push_size _ rfl) fun v s' hP hm => ?_⟩
  have m2 := Moved.drop_new (tk := s2.toks) hm (Nat.le_refl _)
  obtain ⟨h', tk, rfl, hk'⟩ := PySem.W.moved_old e rfl m2
  have q := h h' tk fun c o eo => hk' c o (k1 c o eo)
  have ev : v = if dataLt x y = true then b else a := by
    have hP : (#[a, b] : Array Value)[argBest (fun i j => dataLt ([x, y].getD j .none) ([x, y].getD i .none)) 1]? = some v := hP
    by_cases c : dataLt x y = true
    · have : argBest (fun i j => dataLt ([x, y].getD j .none) ([x, y].getD i .none)) 1 = 1 := by simp [argBest, c]
      rw [this] at hP
      rw [if_pos c]
      simpa using hP.symm
    · have : argBest (fun i j => dataLt ([x, y].getD j .none) ([x, y].getD i .none)) 1 = 0 := by simp [argBest, c]
      rw [this] at hP
      rw [if_neg c]
      simpa using hP.symm
  rw [ev]
  rw [← hs1]
  exact q
end
section
variable {X : Cx}
theorem cr_sumT (hc : X.calm = true) : CallR X (.builtin "sum") (fun vs H Q => ∃ (a : Addr) (ns : List Int), vs = [V.ref a] ∧ SqT X.K H a (ns.map V.int) ∧ Q (.int ns.sum) H) := by
  intro pins s σ H vs us Q I r h
  obtain ⟨a, ns, rfl, hs, q⟩ := h
  obtain ⟨its, rv, hl, _⟩ := I.tuple hs
  rw [Vals.ref1 r]
  exact sum_tup (I.ok.hd hc) hl rv.ints fun h' tk t' hk => ⟨.int ns.sum, H, I.kept hk, ⟨_, rfl⟩, q⟩
def rTwo (K : PySem.W.Frag) (f : D → D → Bool) : List V → Hp → VK → Prop := fun vs H Q => ∃ v u x y, vs = [v, u] ∧ Dp K H v x ∧ Dp K H u y ∧ AlkB [x, y] = true ∧ PyData.depthAll [x, y] ≤ 40 ∧ Q (if f x y = true then u else v) H
theorem cr_min2D (hc : X.calm = true) (hu : X.A.units + 65 < cLine) : CallR X (.builtin "min") (rTwo X.K fun x y => dataLt y x) := by
  intro pins s σ H vs us Q I r h
  obtain ⟨v, u, x, y, rfl, hx, hy, ha, hdep, q⟩ := h
  obtain ⟨a, b, rfl, r1, r2⟩ := vals2 r
  obtain ⟨as, ra⟩ := Dp.reads I x v a hx r1
  obtain ⟨bs, rb⟩ := Dp.reads I y u b hy r2
  refine two_min (I.ok.hd hc) ra rb (alkB_of ha) (by omega) fun h' tk hk => ⟨_, H, I.kept hk, ?_, q⟩
  split
  · exact r2
  · exact r1
theorem cr_max2D (hc : X.calm = true) (hu : X.A.units + 65 < cLine) : CallR X (.builtin "max") (rTwo X.K fun x y => dataLt x y) := by
  intro pins s σ H vs us Q I r h
  obtain ⟨v, u, x, y, rfl, hx, hy, ha, hdep, q⟩ := h
  obtain ⟨a, b, rfl, r1, r2⟩ := vals2 r
  obtain ⟨as, ra⟩ := Dp.reads I x v a hx r1
  obtain ⟨bs, rb⟩ := Dp.reads I y u b hy r2
  refine two_max (I.ok.hd hc) ra rb (alkB_of ha) (by omega) fun h' tk hk => ⟨_, H, I.kept hk, ?_, q⟩
  split
  · exact r2
  · exact r1
/-! ### sorted -/
theorem srtB_of {xs : List D} (h : SrtB xs = true) : Sortable2 xs := by
  unfold SrtB at h
  simp only [Bool.or_eq_true, List.all_eq_true] at h
  rcases h with h | h
  · refine .inr fun d hd => ?_
    have := h d hd
    split at this
    · exact ⟨_, rfl⟩
    · cases this
  · refine .inl (.inr fun d hd => ?_)
    have := h d hd
    refine ⟨fun e => ?_, fun xs e => ?_⟩ <;> subst e <;> simp at this
def rSortD (K : PySem.W.Frag) : List V → Hp → VK → Prop := fun vs H Q => ∃ a xs ds, vs = [.ref a] ∧ (SqL K H a xs ∨ SqT K H a xs) ∧ DpAll K H xs ds ∧ AlkB ds = true ∧ SrtB ds = true ∧ PyData.depthAll ds ≤ 40 ∧
  ∀ (ps : List (V × D)) p, ps.Perm (xs.zip ds) → ps.map (·.2) = sortD ds → H p = none → Q (.ref p) (upd H p (.lst (ps.map (·.1))))
theorem zip_snd {α β : Type} : ∀ (xs : List α) (ys : List β), xs.length = ys.length → (xs.zip ys).map (·.2) = ys
  | [], [], _ => rfl
  | x :: xs, y :: ys, h => by
    rw [List.zip_cons_cons, List.map_cons, zip_snd xs ys (by simpa using h)]
  | [], _ :: _, h => by simp at h
  | _ :: _, [], h => by simp at h
theorem depth_le : ∀ (ds : List D) (d : D), d ∈ ds → d.depth ≤ PyData.depthAll ds
  | x :: xs, d, h => by
    rw [PyData.depthAll]
    rcases List.mem_cons.mp h with rfl | h
    · omega
    · have := depth_le xs d h; omega
theorem cr_sortedD (hu : X.A.units + 65 < cLine) : CallR X (.builtin "sorted") (rSortD X.K) := by
  intro pins s σ H vs us Q I r h
  obtain ⟨a, xs, ds, rfl, hs, hd, ha, hk, hdep, q⟩ := h
  have hal := alkB_of ha
  rw [Vals.ref1 r]
  obtain ⟨its, rv, hz, hl⟩ : ∃ its : List Value, Vals xs its ∧ xs.length ≤ sizeLine ∧ (s.heap.IsList a its.toArray ∨ PyProof.Rows.IsTup s.heap a its.toArray) := by
    rcases hs with hs | hs
    · obtain ⟨its, rv, hl, hz⟩ := I.list hs
      exact ⟨its, rv, hz, .inl hl.isList⟩
    · obtain ⟨its, rv, hl, hz⟩ := I.tuple hs
      exact ⟨its, rv, hz, .inr hl⟩
  have hlen := DpAll.len hd
  have e1 : ∀ {xs : List V} {ds : List D} {its : List Value}, Vals xs its → DpAll X.K H xs ds → EachIs (fun u (p : V × D) => RelV p.1 u) its (xs.zip ds) := by
    intro xs ds its r
    induction r generalizing ds with
    | nil => intro _; simp; exact .nil
    | cons a t ih =>
      intro h
      cases h with
      | cons h1 h2 => exact .cons a (ih h2)
  have e2 : ∀ {xs : List V} {ds : List D} {its : List Value}, Vals xs its → DpAll X.K H xs ds → EachIs (fun u (p : V × D) => ∃ as, Reads s.heap u p.2 as) its (xs.zip ds) := by
    intro xs ds its r
    induction r generalizing ds with
    | nil => intro _; simp; exact .nil
    | cons a t ih =>
      intro h
      cases h with
      | cons h1 h2 => exact .cons (Dp.reads I _ _ _ h1 a) (ih h2)
  have ez := zip_snd xs ds hlen
  rcases hl with hl | hl
  · refine sortL_data (R := fun u (p : V × D) => RelV p.1 u) (enc := fun p : V × D => p.2) (bs := xs.zip ds) hl (e1 rv hd) (e2 rv hd) (by rw [ez]; exact hal.1) (by rw [ez]; exact srtB_of hk) (by rw [List.length_zip]; omega) (fun p hp => ?_) fun out ho hR => ?_
    · have : p.2 ∈ ds := by rw [← ez]; exact List.mem_map.mpr ⟨p, hp, rfl⟩
      have := depth_le ds _ this
      omega
    · obtain ⟨ep, he⟩ := PyProof.Rows.sortedAll_at s.heap its out.toArray
      have hv : ∀ {us : List Value} {ps : List (V × D)}, EachIs (fun u (p : V × D) => RelV p.1 u) us ps → Vals (ps.map (·.1)) us := by
        intro us ps h
        induction h with
        | nil => exact .nil
        | cons a _ ih => exact .cons a ih
      have rv2 := hv hR
      have hl2 : ((xs.zip ds).mergeSort (PySem.W.dataLe false fun p : V × D => p.2)).length = xs.length := by rw [List.length_mergeSort, List.length_zip]; omega
      refine ⟨.ref _, upd H (s.heap.objs.size + 1) (.lst (((xs.zip ds).mergeSort (PySem.W.dataLe false fun p : V × D => p.2)).map (·.1))), I.laid (t' := s.toks) (fun _ _ => PyProof.Rows.sortedAll_old) (Nat.le_succ _) ⟨by rw [List.length_map, hl2]; exact hz, out, ep, rv2, he⟩, rfl, q _ _ (List.mergeSort_perm ..) ?_ (I.hok.fresh (Nat.le_succ _))⟩
      have em := List.map_mergeSort (r := PySem.W.dataLe false fun p : V × D => p.2) (s := leD) (f := fun p : V × D => p.2) (l := xs.zip ds) (fun a _ b _ => rfl)
      rw [em, ez]

  · refine sortT_data (R := fun u (p : V × D) => RelV p.1 u) (enc := fun p : V × D => p.2) (bs := xs.zip ds) hl (e1 rv hd) (e2 rv hd) (by rw [ez]; exact hal.1) (by rw [ez]; exact srtB_of hk) (by rw [List.length_zip]; omega) (fun p hp => ?_) fun out ho hR => ?_
    · have : p.2 ∈ ds := by rw [← ez]; exact List.mem_map.mpr ⟨p, hp, rfl⟩
      have := depth_le ds _ this
      omega
    · obtain ⟨ep, he⟩ := PyProof.Rows.sortedAll_at s.heap its out.toArray
      have hv : ∀ {us : List Value} {ps : List (V × D)}, EachIs (fun u (p : V × D) => RelV p.1 u) us ps → Vals (ps.map (·.1)) us := by
        intro us ps h
        induction h with
        | nil => exact .nil
        | cons a _ ih => exact .cons a ih
      have rv2 := hv hR
      have hl2 : ((xs.zip ds).mergeSort (PySem.W.dataLe false fun p : V × D => p.2)).length = xs.length := by rw [List.length_mergeSort, List.length_zip]; omega
      refine ⟨.ref _, upd H (s.heap.objs.size + 1) (.lst (((xs.zip ds).mergeSort (PySem.W.dataLe false fun p : V × D => p.2)).map (·.1))), I.laid (t' := s.toks) (fun _ _ => PyProof.Rows.sortedAll_old) (Nat.le_succ _) ⟨by rw [List.length_map, hl2]; exact hz, out, ep, rv2, he⟩, rfl, q _ _ (List.mergeSort_perm ..) ?_ (I.hok.fresh (Nat.le_succ _))⟩
      have em := List.map_mergeSort (r := PySem.W.dataLe false fun p : V × D => p.2) (s := leD) (f := fun p : V × D => p.2) (l := xs.zip ds) (fun a _ b _ => rfl)
      rw [em, ez]
end
end Pv

set_option Elab.async false
set_option linter.all false
set_option maxRecDepth 100000
set_option maxHeartbeats 4000000
/-! PvDs: sorted(set(l)) of a list of ints. -/
namespace Pv
open PySem PySem.Spec L2 PyProof.Rows
/-- a set just made -/
abbrev nSet (w : World) : Obj := { cls := .type "set", dict := none, data := .set #[] 0 (.fresh 0 0 (!w.params.followText "set-order")) }
section
variable {P : Program} {w : World} {A : Around} {E : Value → Shared → Prop} {s : Shared}
/-- set(l), by what is in it -/
theorem call_setL {l : Addr} {us : Array Value} (ns : List Int) {Q : Value → Shared → Prop} (hh : A.handled = none) (hl : s.heap.IsList l us) (hit : IntsAre us.toList ns) (hb : ns.length + 1 < scanBound)
    (q : ∀ (g : Heap) (tk c : Nat), SetR w g s.heap.objs.size (fun j => decide (j ∈ ns)) c → c ≤ ns.length → (∀ b o, s.heap.get? b = some o → g.get? b = some o) → Q (.ref s.heap.objs.size) { s with heap := g, toks := tk }) :
    wpAny (model P w) A (call (.type "set") [.ref l]) Q E s := by
  have hz : us.size = ns.length := by have z := IntsAre.length hit; rw [Array.length_toList] at z; exact z
  obtain ⟨c, tl, hmro⟩ := F.called_set.mro; have hmade := F.called_set.made; have hsub := F.called_set.sub
  refine wpAny_call (codeAny_of_tree ?_); show wpAny _ _ (callAny (.type "set") _) _ _ _
  refine wpAny_pure ⟨Code.quiet_builtin _ (by decide +kernel), codeAny_builtin F.entry_type_call ?_⟩; rw [Around.under_plain (weight_type_call_type "set" [.ref l] []) rfl]
  have h1 := F.called_set.notType; have h2 := F.called_set.canCreate; have hct := F.typeCall_set_1 (.ref l)
  repeat (any_goals (first | assumption | wp_step))
  refine codeAny_mono (code_set_led1 (.ref l) (E := E) (Q₁ := fun obj t => obj = .ref s.heap.objs.size ∧ t = { s with heap := s.heap.push (nSet w) }) ⟨rfl, rfl⟩) fun r t hr => ?_
  cases r with
  | error e => exact hr
  | ok fl =>
    cases fl with
    | ret obj =>
      obtain ⟨rfl, rfl⟩ := hr
      have hS : (s.heap.push (nSet w)).get? s.heap.objs.size = some (nSet w) := Heap.get?_push_size _ rfl
      have hT : Shared.TypeIs { s with heap := s.heap.push (nSet w) } (.ref s.heap.objs.size) "set" := ⟨_, hS, rfl⟩
      have hli := F.called_set.init.lookup; have hbi := F.called_set.init.bind (.ref s.heap.objs.size)
      repeat (any_goals (first | assumption | wp_step))
      refine codeAny_mono (codeAny_call_builtin (R := wants (fun r t => r = .none ∧ ∃ g tk c, t = { s with heap := g, toks := tk } ∧ SetR w g s.heap.objs.size (fun j => decide (j ∈ ns)) c ∧ c ≤ ns.length ∧ (∀ b o, s.heap.get? b = some o → g.get? b = some o)) E) F.called_set.init.plain F.entry_set_init (check_set_init_1 hT ?_)) fun r2 t2 hr2 => ?_
      · obtain ⟨ol, hol, hcl, nl, hdl⟩ := hl
        obtain ⟨oc, od, oda, os⟩ := ol; simp only at hcl hdl; subst hcl; subst hdl
        have hol2 : (s.heap.push (nSet w)).get? l = some { cls := .type "list", dict := od, data := .seq us nl, slots := os } := Heap.get?_push_of_some _ hol
        have hsls := F.sub_list_set; have hslf := F.sub_list_frozenset; have hne : (Value.type "list" == Value.type "dict") = false := by decide
        have hl1 : (s.heap.push (nSet w)).IsList l us := ⟨_, hol2, rfl, nl, rfl⟩
        unfold Builtin.«set.__init__» noKeywords Builtin.Frozenset.updateFrom; generalize hPI : pyIter = PI
        wp_walk
        subst hPI
        refine wpAny_pyIter_list hl1 ?_; refine wpAny_bind (wpAny_runValue ?_)
        have hlS : l < s.heap.objs.size := Heap.lt_size hol
        have hh3 : A.in1.in1.in1.handled = none := by simp [hh]
        have hneI : l ≠ (s.heap.push (nSet w)).objs.size := by rw [Heap.size_push]; exact Nat.ne_of_lt (Nat.lt_succ_of_lt hlS)
        have hSf : s.heap.objs.size ∉ [(s.heap.push (nSet w)).objs.size, l] := by
          rw [Heap.size_push]; simp only [List.mem_cons, List.mem_singleton, List.not_mem_nil, or_false, not_or]; exact ⟨Nat.ne_of_lt (Nat.lt_succ_self _), Nat.ne_of_gt hlS⟩
        have hval : ∀ (i : Nat) (v : Value), us[i]? = some v → ∃ k t, ns[i]? = some k ∧ v = .int k t := fun i v hv => by
          have hi : i < ns.length := by rw [← hz]; exact (Array.getElem?_eq_some_iff.mp hv).1
          obtain ⟨t, e⟩ := IntsAre.int_at hit i v (by rw [Array.getElem?_toList]; exact hv)
          refine ⟨ns[i], t, List.getElem?_eq_getElem hi, ?_⟩; rw [e, List.getD_eq_getElem?_getD, List.getElem?_eq_getElem hi] <;> rfl
        refine set_update_ints ((Walks.list hh3 _ l hneI us).toS) s.heap.objs.size hSf ns hz hb hval (us.size - 0) 0 _ (by omega) (Nat.zero_le _) ⟨⟨_, Heap.get?_push_size _ rfl, rfl, rfl⟩, (hl1.push _)⟩ ?hS0 ?hR
        case hS0 =>
          have hget : ((s.heap.push (nSet w)).push { cls := .type "list_iterator", data := .fields #[.ref l, .int 0 0] }).get? s.heap.objs.size = some (nSet w) := Heap.get?_push_of_some _ hS
          exact ⟨0, Nat.le_refl 0, setR_new_at hget⟩
        case hR =>
          intro t c2 hm hc2 hS2
          obtain ⟨g, g2, d2, tk2, os2⟩ := t
          have eg : g2 = s.gens := hm.gens
          have ed : d2 = s.drawn := hm.drawn
          have eo : os2 = s.os := hm.os
          subst eg; subst ed; subst eo
          show wpAny _ _ _ _ _ _; refine wpAny_pure ?_; show wpAny _ _ (ret Value.none) _ _ _; rw [hz] at hc2
          refine wpAny_pure ⟨rfl, g, tk2, c2, rfl, hS2, hc2, fun b o e => ?_⟩
          have hb0 : b < s.heap.objs.size := Heap.lt_size e
          have hb2 : b ≠ (s.heap.push (nSet w)).objs.size := by rw [Heap.size_push]; exact Nat.ne_of_lt (Nat.lt_succ_of_lt hb0)
          refine hm.heap b o ?_ (Heap.get?_push_of_some _ (Heap.get?_push_of_some _ e)); simp only [List.mem_cons, List.mem_singleton, List.not_mem_nil, or_false, not_or]; exact ⟨Nat.ne_of_lt hb0, hb2⟩
      · cases r2 with
        | error e => exact hr2
        | ok f2 =>
          cases f2 with
          | ret r =>
            obtain ⟨rfl, g, tk, c2, rfl, hS2, hc2, hk2⟩ := hr2
            repeat (any_goals (first | assumption | wp_step))
            exact q _ _ _ hS2 hc2 hk2
          | _ => exact hr2.elim
    | _ => exact hr.elim
/-- set(t) of a tuple -/
theorem call_setT {l : Addr} {us : Array Value} (ns : List Int) {Q : Value → Shared → Prop} (hh : A.handled = none) (hl : s.heap.IsTuple l us) (hit : IntsAre us.toList ns) (hb : ns.length + 1 < scanBound)
    (q : ∀ (g : Heap) (tk c : Nat), SetR w g s.heap.objs.size (fun j => decide (j ∈ ns)) c → c ≤ ns.length → (∀ b o, s.heap.get? b = some o → g.get? b = some o) → Q (.ref s.heap.objs.size) { s with heap := g, toks := tk }) :
    wpAny (model P w) A (call (.type "set") [.ref l]) Q E s := by
  have hz : us.size = ns.length := by have z := IntsAre.length hit; rw [Array.length_toList] at z; exact z
  obtain ⟨c, tl, hmro⟩ := F.called_set.mro; have hmade := F.called_set.made; have hsub := F.called_set.sub
  refine wpAny_call (codeAny_of_tree ?_); show wpAny _ _ (callAny (.type "set") _) _ _ _
  refine wpAny_pure ⟨Code.quiet_builtin _ (by decide +kernel), codeAny_builtin F.entry_type_call ?_⟩; rw [Around.under_plain (weight_type_call_type "set" [.ref l] []) rfl]
  have h1 := F.called_set.notType; have h2 := F.called_set.canCreate; have hct := F.typeCall_set_1 (.ref l)
  repeat (any_goals (first | assumption | wp_step))
  refine codeAny_mono (code_set_led1 (.ref l) (E := E) (Q₁ := fun obj t => obj = .ref s.heap.objs.size ∧ t = { s with heap := s.heap.push (nSet w) }) ⟨rfl, rfl⟩) fun r t hr => ?_
  cases r with
  | error e => exact hr
  | ok fl =>
    cases fl with
    | ret obj =>
      obtain ⟨rfl, rfl⟩ := hr
      have hS : (s.heap.push (nSet w)).get? s.heap.objs.size = some (nSet w) := Heap.get?_push_size _ rfl
      have hT : Shared.TypeIs { s with heap := s.heap.push (nSet w) } (.ref s.heap.objs.size) "set" := ⟨_, hS, rfl⟩
      have hli := F.called_set.init.lookup; have hbi := F.called_set.init.bind (.ref s.heap.objs.size)
      repeat (any_goals (first | assumption | wp_step))
      refine codeAny_mono (codeAny_call_builtin (R := wants (fun r t => r = .none ∧ ∃ g tk c, t = { s with heap := g, toks := tk } ∧ SetR w g s.heap.objs.size (fun j => decide (j ∈ ns)) c ∧ c ≤ ns.length ∧ (∀ b o, s.heap.get? b = some o → g.get? b = some o)) E) F.called_set.init.plain F.entry_set_init (check_set_init_1 hT ?_)) fun r2 t2 hr2 => ?_
      · obtain ⟨ol, hol, hcl, nl, hdl⟩ := hl
        obtain ⟨oc, od, oda, os⟩ := ol; simp only at hcl hdl; subst hcl; subst hdl
        have hol2 : (s.heap.push (nSet w)).get? l = some { cls := .type "tuple", dict := od, data := .seq us nl, slots := os } := Heap.get?_push_of_some _ hol
        have hsls := F.sub_tuple_set; have hslf := F.sub_tuple_frozenset; have hne : (Value.type "tuple" == Value.type "dict") = false := by decide
        have hl1 : (s.heap.push (nSet w)).IsTuple l us := ⟨_, hol2, rfl, nl, rfl⟩
        unfold Builtin.«set.__init__» noKeywords Builtin.Frozenset.updateFrom; generalize hPI : pyIter = PI
        wp_walk
        subst hPI
        refine wpAny_pyIter_tuple hl1 ?_; refine wpAny_bind (wpAny_runValue ?_)
        have hlS : l < s.heap.objs.size := Heap.lt_size hol
        have hh3 : A.in1.in1.in1.handled = none := by simp [hh]
        have hneI : l ≠ (s.heap.push (nSet w)).objs.size := by rw [Heap.size_push]; exact Nat.ne_of_lt (Nat.lt_succ_of_lt hlS)
        have hSf : s.heap.objs.size ∉ [(s.heap.push (nSet w)).objs.size, l] := by
          rw [Heap.size_push]; simp only [List.mem_cons, List.mem_singleton, List.not_mem_nil, or_false, not_or]; exact ⟨Nat.ne_of_lt (Nat.lt_succ_self _), Nat.ne_of_gt hlS⟩
        have hval : ∀ (i : Nat) (v : Value), us[i]? = some v → ∃ k t, ns[i]? = some k ∧ v = .int k t := fun i v hv => by
          have hi : i < ns.length := by rw [← hz]; exact (Array.getElem?_eq_some_iff.mp hv).1
          obtain ⟨t, e⟩ := IntsAre.int_at hit i v (by rw [Array.getElem?_toList]; exact hv)
          refine ⟨ns[i], t, List.getElem?_eq_getElem hi, ?_⟩; rw [e, List.getD_eq_getElem?_getD, List.getElem?_eq_getElem hi] <;> rfl
        refine set_update_ints ((Walks.tuple hh3 _ l hneI us).toS) s.heap.objs.size hSf ns hz hb hval (us.size - 0) 0 _ (by omega) (Nat.zero_le _) ⟨⟨_, Heap.get?_push_size _ rfl, rfl, rfl⟩, (hl1.push _)⟩ ?hS0 ?hR
        case hS0 =>
          have hget : ((s.heap.push (nSet w)).push { cls := .type "tuple_iterator", data := .fields #[.ref l, .int 0 0] }).get? s.heap.objs.size = some (nSet w) := Heap.get?_push_of_some _ hS
          exact ⟨0, Nat.le_refl 0, setR_new_at hget⟩
        case hR =>
          intro t c2 hm hc2 hS2
          obtain ⟨g, g2, d2, tk2, os2⟩ := t
          have eg : g2 = s.gens := hm.gens
          have ed : d2 = s.drawn := hm.drawn
          have eo : os2 = s.os := hm.os
          subst eg; subst ed; subst eo
          show wpAny _ _ _ _ _ _; refine wpAny_pure ?_; show wpAny _ _ (ret Value.none) _ _ _; rw [hz] at hc2
          refine wpAny_pure ⟨rfl, g, tk2, c2, rfl, hS2, hc2, fun b o e => ?_⟩
          have hb0 : b < s.heap.objs.size := Heap.lt_size e
          have hb2 : b ≠ (s.heap.push (nSet w)).objs.size := by rw [Heap.size_push]; exact Nat.ne_of_lt (Nat.lt_succ_of_lt hb0)
          refine hm.heap b o ?_ (Heap.get?_push_of_some _ (Heap.get?_push_of_some _ e)); simp only [List.mem_cons, List.mem_singleton, List.not_mem_nil, or_false, not_or]; exact ⟨Nat.ne_of_lt hb0, hb2⟩
      · cases r2 with
        | error e => exact hr2
        | ok f2 =>
          cases f2 with
          | ret r =>
            obtain ⟨rfl, g, tk, c2, rfl, hS2, hc2, hk2⟩ := hr2
            repeat (any_goals (first | assumption | wp_step))
            exact q _ _ _ hS2 hc2 hk2
          | _ => exact hr2.elim
    | _ => exact hr.elim
end
section
variable {X : Cx}
def tSrs (K : PySem.W.Frag) (ta : TE) : TE := fun σ H Q => ta σ H fun x H1 => ∃ (l : Addr) (ns : List Int), x = V.ref l ∧ SqL K H1 l (ns.map V.int) ∧ ns.length < 63 ∧
  ∀ (out : List Int) (p : Addr), out.Pairwise (· < ·) → (∀ k, k ∈ out ↔ k ∈ ns) → H1 p = none → Q (.ref p) (upd H1 p (.lst (out.map V.int)))
theorem pe_srs {a : Expr} {ta : TE} {p p2 q pos : Pos} (hc : X.calm = true) (hg : Gl X "sorted") (hm : X.mg "sorted" = none) (hg2 : Gl X "set") (hm2 : X.mg "set" = none) (ha : PE X a ta)
    (na : starEach [a] X.env = (false, eval a X.env) :: starEach [] X.env) : PE X (.Call (.Name "sorted" p) [.Call (.Name "set" p2) [a] [] q] [] pos) (tSrs X.K ta) := by
  refine ⟨fun pins s σ H Q I h => ?_⟩
  refine Call_ (ld_blt I hg hm boot_sorted ?_); refine callWith_builtin1 (args_cons ?_ rfl) rfl rfl
  refine Call_ (ld_blt I hg2 hm2 boot_set ?_)
  refine callWith_type1 (args_cons (thn (ha.run pins s σ H _ I h) fun v s1 ⟨x, H1, I1, r1, q1⟩ => args_nil ?_) na) na rfl
  obtain ⟨l, ns, rfl, hq, h1, q1⟩ := q1
  cases r1
  obtain ⟨its, r, pl, hz⟩ := I1.list hq
  refine call_setL ns (I1.ok.hd hc) pl.isList (by simpa using r.ints) (by unfold scanBound; omega) fun g tk c R hcn hk => ?_
  refine args_nil ?_
  have I2 : Inv X pins σ H1 { s1 with heap := g, toks := tk } := I1.kept fun b o e => hk b o e
  refine sorted_set (s := { s1 with heap := g, toks := tk }) R (I2.ok.hd hc) (by omega) fun t p out c3 ms k ge o hp hgp hi hs hmm hlm => ?_
  have hlen : (ms.map V.int).length ≤ sizeLine := by rw [List.length_map, hlm, sizeLine_eq]; omega
  have hnn : H1 p = none := I2.hok.fresh (Nat.le_trans (Nat.le_refl _) hp)
  have J : Inv X pins σ (upd H1 p (.lst (ms.map V.int))) { ({ s1 with heap := g, toks := tk } : Shared) with heap := t.heap, gens := t.gens, drawn := t.drawn, toks := t.toks } := I2.call (ch := []) (Un.laid k hp hnn) (I2.hok.laid k hp ⟨hlen, out.toList, c3, vals_of_ints hi, hgp⟩) (by rw [ge]; exact I2.bare) (fun _ z => nomatch z)
  have e : t = { ({ s1 with heap := g, toks := tk } : Shared) with heap := t.heap, gens := t.gens, drawn := t.drawn, toks := t.toks } := by
    cases t; cases s1; cases o; rfl
  rw [e]
  exact ⟨.ref p, _, J, rfl, q1 ms p hs (fun k => by rw [hmm k]; exact decide_eq_true_iff) hnn⟩
def tSrsT (K : PySem.W.Frag) (ta : TE) : TE := fun σ H Q => ta σ H fun x H1 => ∃ (l : Addr) (ns : List Int), x = V.ref l ∧ SqT K H1 l (ns.map V.int) ∧ ns.length < 63 ∧
  ∀ (out : List Int) (p : Addr), out.Pairwise (· < ·) → (∀ k, k ∈ out ↔ k ∈ ns) → H1 p = none → Q (.ref p) (upd H1 p (.lst (out.map V.int)))
theorem pe_srsT {a : Expr} {ta : TE} {p p2 q pos : Pos} (hc : X.calm = true) (hg : Gl X "sorted") (hm : X.mg "sorted" = none) (hg2 : Gl X "set") (hm2 : X.mg "set" = none) (ha : PE X a ta)
    (na : starEach [a] X.env = (false, eval a X.env) :: starEach [] X.env) : PE X (.Call (.Name "sorted" p) [.Call (.Name "set" p2) [a] [] q] [] pos) (tSrsT X.K ta) := by
  refine ⟨fun pins s σ H Q I h => ?_⟩
  refine Call_ (ld_blt I hg hm boot_sorted ?_); refine callWith_builtin1 (args_cons ?_ rfl) rfl rfl
  refine Call_ (ld_blt I hg2 hm2 boot_set ?_)
  refine callWith_type1 (args_cons (thn (ha.run pins s σ H _ I h) fun v s1 ⟨x, H1, I1, r1, q1⟩ => args_nil ?_) na) na rfl
  obtain ⟨l, ns, rfl, hq, h1, q1⟩ := q1
  cases r1
  obtain ⟨its, r, pl, hz⟩ := I1.tuple hq
  refine call_setT ns (I1.ok.hd hc) (by obtain ⟨o, a, b, n, d⟩ := pl; exact ⟨o, a, b, n, d⟩) (by simpa using r.ints) (by unfold scanBound; omega) fun g tk c R hcn hk => ?_
  refine args_nil ?_
  have I2 : Inv X pins σ H1 { s1 with heap := g, toks := tk } := I1.kept fun b o e => hk b o e
  refine sorted_set (s := { s1 with heap := g, toks := tk }) R (I2.ok.hd hc) (by omega) fun t p out c3 ms k ge o hp hgp hi hs hmm hlm => ?_
  have hlen : (ms.map V.int).length ≤ sizeLine := by rw [List.length_map, hlm, sizeLine_eq]; omega
  have hnn : H1 p = none := I2.hok.fresh (Nat.le_trans (Nat.le_refl _) hp)
  have J : Inv X pins σ (upd H1 p (.lst (ms.map V.int))) { ({ s1 with heap := g, toks := tk } : Shared) with heap := t.heap, gens := t.gens, drawn := t.drawn, toks := t.toks } := I2.call (ch := []) (Un.laid k hp hnn) (I2.hok.laid k hp ⟨hlen, out.toList, c3, vals_of_ints hi, hgp⟩) (by rw [ge]; exact I2.bare) (fun _ z => nomatch z)
  have e : t = { ({ s1 with heap := g, toks := tk } : Shared) with heap := t.heap, gens := t.gens, drawn := t.drawn, toks := t.toks } := by
    cases t; cases s1; cases o; rfl
  rw [e]
  exact ⟨.ref p, _, J, rfl, q1 ms p hs (fun k => by rw [hmm k]; exact decide_eq_true_iff) hnn⟩
end
end Pv

set_option Elab.async false
set_option linter.all false
set_option maxRecDepth 100000
set_option maxHeartbeats 4000000
/-! PvDt: sorted(set(l)) of a list of tuples of ints. -/
namespace Pv
open PySem PySem.Spec L2 PyProof.Rows PySem.W
section
variable {P : Program} {w : World} {A : Around} {E : Value → Shared → Prop} {s : Shared}
abbrev tuJ (k : List Int) : PyData := .tuple (k.map .int)
theorem each_refs : ∀ L : List (Addr × List Int), EachIs (fun v (q : Addr × List Int) => v = Value.ref q.1) (L.map fun q => Value.ref q.1) L
  | [] => .nil
  | q :: L => .cons rfl (each_refs L)
theorem each_eq : ∀ {us : List Value} {L : List (Addr × List Int)}, EachIs (fun v (q : Addr × List Int) => v = Value.ref q.1) us L → us = L.map fun q => Value.ref q.1
  | _, _, .nil => rfl
  | _, _, .cons h t => by rw [h, each_eq t]; rfl
/-- sorted of a set of tuples -/
theorem sorted_setD {a : Addr} {L : List (Addr × List Int)} {es : Array (Int × Value)} {ep : Nat} {t : SetTable} {Q : Value → Shared → Prop} (R : SetTR P w s.heap a L es ep t) (hh : A.handled = none)
    (hr : ∀ q ∈ L, ∃ as, Reads s.heap (.ref q.1) (tuJ q.2) as) (hal : ∀ L' : List (Addr × List Int), (∀ q ∈ L', q ∈ L) → AllAlike (L'.map fun q => tuJ q.2)) (hk : ∀ L' : List (Addr × List Int), (∀ q ∈ L', q ∈ L) → Sortable2 (L'.map fun q => tuJ q.2)) (hu : ∀ q ∈ L, A.units + 2 + (tuJ q.2).depth < cLine)
    (hQ : ∀ s' p (out : Array Value) (c : Nat) (L' : List (Addr × List Int)), (∀ b o, s.heap.get? b = some o → s'.heap.get? b = some o) → s'.gens = s.gens → s'.os = s.os → s.heap.objs.size ≤ p →
      s'.heap.get? p = some (seqObj "list" out c) → out.toList = L'.map (fun q => Value.ref q.1) → L'.Perm L → L'.Pairwise (fun q r => ¬ r.2 < q.2) → Q (.ref p) s') :
    wpAny (model P w) A (call (.builtin "sorted") [.ref a]) Q E s := by
  obtain ⟨o, ho, hex, hd⟩ := R.ob
  have hsz := R.size
  have hfew := R.few
  refine call_function_entry_kw kind_sorted plain_sorted entry_sorted (args_sorted1 _) ?_
  unfold Builtin.«sorted»
  refine wpAny_bind (m := checkCount "sorted" 1 1 _) (wpAny_pure ?_)
  refine wpAny_bind (collect_set (A := A.in1) hh ⟨o, ho, hex.1, hd⟩ R.fits (by unfold scanBound; omega) R.tab.ris R.led fun s1 vs k1 hz g1 o1 pm => ?_)
  have hes : es.toList.map (·.2) = L.map fun q => Value.ref q.1 := by
    rw [R.rows]
    unfold L2.rowsOf
    rw [List.map_map] <;> rfl
  rw [hes] at pm
  have ord : ∀ vs : List Value, (∀ v ∈ vs, ∃ q ∈ L, v = Value.ref q.1) → ∃ L1 : List (Addr × List Int), vs = L1.map (fun q => Value.ref q.1) ∧ ∀ q ∈ L1, q ∈ L := by
    intro vs
    induction vs with
    | nil => intro _; exact ⟨[], rfl, fun q hq => (by cases hq)⟩
    | cons v vs ih =>
      intro hv
      obtain ⟨q, hq, e⟩ := hv v List.mem_cons_self
      obtain ⟨L1, e1, hs⟩ := ih fun u hu => hv u (List.mem_cons_of_mem _ hu)
      refine ⟨q :: L1, by rw [List.map_cons, e, e1], fun r hr => ?_⟩
      rcases List.mem_cons.mp hr with z | z
      · rw [z]; exact hq
      · exact hs r z
  have one : ∀ q ∈ L, ∀ r ∈ L, q.1 = r.1 → q = r := fun q hq r hr e => by
    have a1 := R.tup q hq
    have a2 := R.tup r hr
    rw [e] at a1
    have e2 : q.2 = r.2 := a1.inj a2
    exact Prod.ext e e2
  have perm_of : ∀ L1 : List (Addr × List Int), (∀ q ∈ L1, q ∈ L) → (L1.map (fun q => Value.ref q.1)).Perm (L.map fun q => Value.ref q.1) → L1.Perm L := by
    intro L1 hs pm1
    have nL : L.Nodup := nodup_of_map R.nd
    have nref : (L.map fun q => Value.ref q.1).Nodup := by
      refine List.pairwise_map.mpr (List.Pairwise.imp_of_mem (fun {q r} hq hr hne e => ?_) nL)
      injection e with e
      exact hne (one q hq r hr e)
    have n1 : L1.Nodup := nodup_of_map (pm1.nodup_iff.mpr nref)
    refine (List.perm_ext_iff_of_nodup n1 nL).mpr fun q => ⟨hs q, fun hq => ?_⟩
    have hm : Value.ref q.1 ∈ L1.map (fun q => Value.ref q.1) := pm1.mem_iff.mpr (List.mem_map.mpr ⟨q, hq, rfl⟩)
    obtain ⟨r, hr, e⟩ := List.mem_map.mp hm
    injection e with e
    rw [← one r (hs r hr) q hq e]
    exact hr
  obtain ⟨L1, rfl, hs1⟩ := ord vs fun v hv => by
    obtain ⟨q, hq, e⟩ := List.mem_map.mp (pm.mem_iff.mp hv)
    exact ⟨q, hq, e.symm⟩
  have pL1 := perm_of L1 hs1 pm
  have hvl : L1.length < 64 := by rw [pL1.length_eq]; exact hfew
  have hzl : (L1.map fun q => Value.ref q.1).length ≤ sizeLine := by rw [List.length_map, sizeLine_eq]; omega
  refine wpAny_bind (wpAny_newList ?_ hzl)
  have hoL : (s1.heap.push (seqObj "list" (L1.map fun q => Value.ref q.1).toArray 0)).get? s1.heap.objs.size = some (seqObj "list" (L1.map fun q => Value.ref q.1).toArray 0) := Heap.get?_push_size _ rfl
  show wpAny _ _ _ _ _ { s1 with heap := s1.heap.push (seqObj "list" (L1.map fun q => Value.ref q.1).toArray 0) }
  refine wpAny_bind (wpAny_holding (wpAny_call_entry_kw slot_list_sort ⟨_, hoL, rfl⟩ entry_list_sort ?body (args_list_sort _)))
  case body =>
    show wpAny _ A.in1.in1 (Builtin.«list.sort» ⟨[.ref s1.heap.objs.size], []⟩) _ _ _
    have er : EachIs (fun v (q : Addr × List Int) => ∃ as, Reads (sortingHeap (s1.heap.push (seqObj "list" (L1.map fun q => Value.ref q.1).toArray 0)) s1.heap.objs.size (L1.map fun q => Value.ref q.1)) v (tuJ q.2) as) (L1.map fun q => Value.ref q.1) L1 := by
      have : ∀ L2 : List (Addr × List Int), (∀ q ∈ L2, q ∈ L) → EachIs (fun v (q : Addr × List Int) => ∃ as, Reads (sortingHeap (s1.heap.push (seqObj "list" (L1.map fun q => Value.ref q.1).toArray 0)) s1.heap.objs.size (L1.map fun q => Value.ref q.1)) v (tuJ q.2) as) (L2.map fun q => Value.ref q.1) L2 := by
        intro L2
        induction L2 with
        | nil => intro _; exact .nil
        | cons q L2 ih =>
          intro h2
          obtain ⟨as, ra⟩ := hr q (h2 q List.mem_cons_self)
          refine .cons ⟨as, PyProof.Rows.Reads.keeps (fun b u e => ?_) ra⟩ (ih fun r hr => h2 r (List.mem_cons_of_mem _ hr))
          have e1 := k1 b u e
          exact sortingHeap_old (Nat.ne_of_lt (Heap.lt_size e1)) (Heap.get?_push_of_some _ e1)
      exact this L1 hs1
    have S := sorts2 (prog := P) (w := w) (A := A.in1.in1) (s := { s1 with heap := sortingHeap (s1.heap.push (seqObj "list" (L1.map fun q => Value.ref q.1).toArray 0)) s1.heap.objs.size (L1.map fun q => Value.ref q.1) }) (each_map (R := fun v d => ∃ as, Reads (sortingHeap (s1.heap.push (seqObj "list" (L1.map fun q => Value.ref q.1).toArray 0)) s1.heap.objs.size (L1.map fun q => Value.ref q.1)) v d as) (fun q : Addr × List Int => tuJ q.2) er) (hal L1 hs1) (hk L1 hs1) (bound_map fun q hq => hu q (hs1 q hq))
    refine wpAny_mono (list_sort_vals (s := { s1 with heap := s1.heap.push (seqObj "list" (L1.map fun q => Value.ref q.1).toArray 0) }) (P := fun f s' => f = .done (.ret .none) ∧ Q (.ref s1.heap.objs.size) s') hoL S hzl ⟨rfl, ?_⟩) (fun f s' hf => by obtain ⟨rfl, hq⟩ := hf; exact ⟨_, rfl, wpAny_pure ⟨_, rfl, hq⟩⟩) fun _ _ e => e
    have eo := each_eq (sortVals_data false (R := fun v (q : Addr × List Int) => v = Value.ref q.1) (each_refs L1) er (hal L1 hs1))
    obtain ⟨c, hc⟩ := sortedHeap_at (vs := (L1.map fun q => Value.ref q.1)) (out := (L1.mergeSort (dataLe false fun q : Addr × List Int => tuJ q.2)).map (fun q => Value.ref q.1) |>.toArray) hoL
    rw [eo]
    refine hQ _ s1.heap.objs.size _ c (L1.mergeSort (dataLe false fun q : Addr × List Int => tuJ q.2)) (fun b u e => ?_) g1 o1 hz hc (by simp) ((List.mergeSort_perm ..).trans pL1) ?_
    · have q := k1 b u e
      have hlt := Heap.lt_size q
      show (sortedHeap (s1.heap.push (seqObj "list" (L1.map fun q => Value.ref q.1).toArray 0)) s1.heap.objs.size (L1.map fun q => Value.ref q.1) _).get? b = some u
      rw [sortedHeap_old (Nat.ne_of_lt hlt) (by rw [size_push']; exact Nat.lt_succ_of_lt hlt)]
      exact Heap.get?_push_of_some _ q
    · have hle : ∀ q r : Addr × List Int, dataLe false (fun q : Addr × List Int => tuJ q.2) q r = decide (¬ r.2 < q.2) := fun q r => by
        show (!dataLt (tuJ r.2) (tuJ q.2)) = _
        rw [dataLt_tuple, show PyProof.Rows.lexLt itemOrd (keyToksAll (r.2.map .int)) (keyToksAll (q.2.map .int)) = rowLt (r.2.map .int) (q.2.map .int) from rfl, dataLt_ints, decide_not]
      have hp := List.pairwise_mergeSort (le := dataLe false (fun q : Addr × List Int => tuJ q.2)) (fun a b c h1 h2 => by
        rw [hle, decide_eq_true_eq] at *
        intro h3
        exact (List.not_lt.mpr (List.le_trans (List.not_lt.mp h1) (List.not_lt.mp h2))) h3) (fun a b => by
        rw [hle, hle, Bool.or_eq_true, decide_eq_true_eq, decide_eq_true_eq]
        rcases Classical.em (b.2 < a.2) with z | z
        · exact .inr (List.not_lt.mpr (List.le_of_lt z))
        · exact .inl z) L1
      exact hp.imp fun {q r} h => by rw [hle, decide_eq_true_eq] at h; exact h
end
section
variable {X : Cx}
theorem alk_ints : ∀ (p q : List Int), alikeAll (p.map PyData.int) (q.map PyData.int) = true
  | [], q => by rw [List.map_nil, alikeAll]
  | x :: r, [] => by rw [List.map_nil, List.map_cons, alikeAll]
  | x :: r, y :: z => by rw [List.map_cons, List.map_cons, alikeAll, alk_ints r z, alike]; rfl
theorem alk_tuJ (p q : List Int) : alike (tuJ p) (tuJ q) = true := by rw [alike]; exact alk_ints p q
theorem all_alike (L : List (List Int)) : AllAlike (L.map tuJ) := by
  refine (alkB_of ?_).1
  unfold AlkB
  rw [List.all_map, List.all_eq_true]
  intro p hp
  show (((L.map tuJ).all (alike (tuJ p))) && true) = true
  rw [Bool.and_true, List.all_map, List.all_eq_true]
  intro q hq
  exact alk_tuJ p q
theorem srt_able (L : List (List Int)) (h : ∀ k ∈ L, k ≠ []) : Sortable2 (L.map tuJ) := by
  refine srtB_of ?_
  unfold SrtB
  rw [Bool.or_eq_true]; left
  rw [List.all_map, List.all_eq_true]
  intro k hk
  cases k with
  | nil => exact absurd rfl (h _ hk)
  | cons a r => rfl
theorem depth_ints : ∀ k : List Int, PyData.depthAll (k.map PyData.int) ≤ 1
  | [] => by rw [List.map_nil, PyData.depthAll]; omega
  | a :: r => by
    have := depth_ints r
    rw [List.map_cons, PyData.depthAll]
    have : (PyData.int a).depth ≤ 1 := by rw [PyData.depth]; omega
    omega
theorem depth_tuJ (k : List Int) : (tuJ k).depth ≤ 2 := by
  have := depth_ints k
  show (PyData.tuple _).depth ≤ 2
  rw [PyData.depth]; omega
def tSrsU (K : PySem.W.Frag) (ta : TE) : TE := fun σ H Q => ta σ H fun x H1 => ∃ (l : Addr) (ks : List (Addr × List Int)), x = V.ref l ∧ SqL K H1 l (ks.map fun p => V.ref p.1) ∧ (∀ p ∈ ks, SqT K H1 p.1 (p.2.map V.int)) ∧ (∀ p ∈ ks, Dp K H1 (V.ref p.1) (tuJ p.2)) ∧ ks.length < 64 ∧ (∀ p ∈ ks, p.2 ≠ []) ∧
  ∀ (L' : List (Addr × List Int)) (p : Addr), (∀ q ∈ L', q ∈ ks) → (∀ q ∈ ks, q.2 ∈ L'.map (·.2)) → (L'.map (·.2)).Pairwise (· < ·) → H1 p = none → Q (.ref p) (upd H1 p (.lst (L'.map fun q => V.ref q.1)))
theorem pe_srsU {a : Expr} {ta : TE} {p p2 q pos : Pos} (hu : X.A.units + 65 < cLine) (hc : X.calm = true) (hg : Gl X "sorted") (hm : X.mg "sorted" = none) (hg2 : Gl X "set") (hm2 : X.mg "set" = none) (ha : PE X a ta)
    (na : starEach [a] X.env = (false, eval a X.env) :: starEach [] X.env) : PE X (.Call (.Name "sorted" p) [.Call (.Name "set" p2) [a] [] q] [] pos) (tSrsU X.K ta) := by
  refine ⟨fun pins s σ H Q I h => ?_⟩
  refine Call_ (ld_blt I hg hm boot_sorted ?_); refine callWith_builtin1 (args_cons ?_ rfl) rfl rfl
  refine Call_ (ld_blt I hg2 hm2 boot_set ?_)
  refine callWith_type1 (args_cons (thn (ha.run pins s σ H _ I h) fun v s1 ⟨x, H1, I1, r1, q1⟩ => args_nil ?_) na) na rfl
  obtain ⟨l, ks, rfl, hq, hk, hdp, hlen, hne, q1⟩ := q1
  cases r1
  obtain ⟨its, r, pl, hz⟩ := I1.list hq
  refine call_set_tups (P := X.prog) (w := X.w) ks (I1.ok.hd hc) pl.isList (by simpa using refs_of_vals r) (fun p hp => I1.isT (hk p hp)) hlen (by omega) fun g tk L es ep t R gt hkp => ?_
  refine args_nil ?_
  have I2 : Inv X pins σ H1 { s1 with heap := g, toks := tk } := I1.kept hkp
  have hL : ∀ q ∈ L, q ∈ ks := fun q hq => List.mem_of_mem_take (gt.sub q hq)
  refine sorted_setD (s := { s1 with heap := g, toks := tk }) R (I2.ok.hd hc) (fun q hq => Dp.reads I2 _ _ _ (hdp q (hL q hq)) rfl) (fun L' h' => ?_) (fun L' h' => ?_) (fun q hq => by have := depth_tuJ q.2; omega) fun t p out c3 L' kk ge o hp hgp hout pm pw => ?_
  · have := all_alike (L'.map (·.2))
    rw [List.map_map] at this
    exact this
  · have := srt_able (L'.map (·.2)) fun k hk => by
      obtain ⟨q, hq, rfl⟩ := List.mem_map.mp hk
      exact hne q (hL q (h' q hq))
    rw [List.map_map] at this
    exact this
  have hlL : L'.length < 64 := by rw [pm.length_eq]; exact R.few
  have hlen2 : (L'.map fun q => V.ref q.1).length ≤ sizeLine := by rw [List.length_map, sizeLine_eq]; omega
  have hnn : H1 p = none := I2.hok.fresh (Nat.le_trans (Nat.le_refl _) hp)
  have hv : Vals (L'.map fun q => V.ref q.1) out.toList := by rw [hout]; exact vals_of_refs L'
  have J : Inv X pins σ (upd H1 p (.lst (L'.map fun q => V.ref q.1))) { ({ s1 with heap := g, toks := tk } : Shared) with heap := t.heap, gens := t.gens, drawn := t.drawn, toks := t.toks } := I2.call (ch := []) (Un.laid kk hp hnn) (I2.hok.laid kk hp ⟨hlen2, out.toList, c3, hv, hgp⟩) (by rw [ge]; exact I2.bare) (fun _ z => nomatch z)
  have e : t = { ({ s1 with heap := g, toks := tk } : Shared) with heap := t.heap, gens := t.gens, drawn := t.drawn, toks := t.toks } := by
    cases t; cases s1; cases o; rfl
  rw [e]
  refine ⟨.ref p, _, J, rfl, q1 L' p (fun q hq => hL q (pm.mem_iff.mp hq)) (fun q hq => ?_) ?_ hnn⟩
  · have := gt.all q (by rw [List.take_length]; exact hq)
    exact (pm.map (·.2)).mem_iff.mpr this
  · have hnd : (L'.map (·.2)).Nodup := (pm.map (·.2)).nodup_iff.mpr R.nd
    have h1 : (L'.map (·.2)).Pairwise (fun a b => ¬ b < a) := List.pairwise_map.mpr pw
    exact (List.Pairwise.and h1 hnd).imp fun {a b} h => by
      rcases Classical.em (a < b) with z | z
      · exact z
      · exact absurd (List.le_antisymm (List.not_lt.mp h.1) (List.not_lt.mp z)) h.2
end
end Pv

set_option Elab.async false
set_option linter.all false
set_option maxRecDepth 100000
set_option maxHeartbeats 4000000
/-! PvDu: sorted(d), dict(pairs), d.update(e) of dicts whose keys are tuples. -/
namespace Pv
open PySem PySem.Spec L2 PyProof.Rows PySem.W
def mergeT (kvs more : List (List Key × V)) : List (List Key × V) := more.foldl (fun acc kv => putK acc kv.1 kv.2) kvs
theorem mergeT_len : ∀ (more kvs : List (List Key × V)), (mergeT kvs more).length ≤ kvs.length + more.length
  | [], kvs => Nat.le_refl _
  | p :: more, kvs => by
    have h1 := mergeT_len more (putK kvs p.1 p.2)
    have h2 : (putK kvs p.1 p.2).length ≤ kvs.length + 1 := by
      unfold putK
      split
      · rw [List.length_map]; omega
      · rw [List.length_append]; simp
    show (mergeT (putK kvs p.1 p.2) more).length ≤ _
    simp only [List.length_cons]
    omega
theorem kt_all {H : Hp} : ∀ {more : List (List Key × V)} {ps : List (List Key × Addr × Value)} {kvs : List (List Key × V)} {xs : List (List Key × Addr × Value)}, KT H more ps → KT H kvs xs → KT H (mergeT kvs more) (storedAllH xs ps)
  | _, _, _, _, .nil, h => h
  | _, _, kvs, xs, .cons (a := p) (b := q) (l₁ := more) (l₂ := ps) e t, h => by
    show KT H (mergeT (putK kvs p.1 p.2) more) (storedAllH (storedH xs q.1 q.2.1 q.2.2) ps)
    rw [← e.1]
    exact kt_all t (KT.put h p.1 e.2.1 e.2.2)
/-- the keys' tuples -/
theorem keyed_of {H : Hp} : ∀ {kvs : List (List Key × V)} {bs : List Addr} {ks : List (List Int)}, IsKeys H kvs bs → kvs.map (·.1) = ks.map (fun k => k.map Sum.inl) →
    ∃ L : List (Addr × List Int), bs = L.map (·.1) ∧ L.map (·.2) = ks ∧ ∀ q ∈ L, H q.1 = some (.tup (q.2.map V.int))
  | _, _, ks, .nil, e => by
    cases ks with
    | nil => exact ⟨[], rfl, rfl, fun q h => by cases h⟩
    | cons _ _ => simp at e
  | _, _, ks, .cons (a := p) (b := b) h t, e => by
    cases ks with
    | nil => simp at e
    | cons k ks =>
      rw [List.map_cons, List.map_cons] at e
      injection e with e1 e2
      obtain ⟨L, rfl, rfl, hL⟩ := keyed_of t e2
      refine ⟨(b, k) :: L, rfl, rfl, fun q hq => ?_⟩
      rcases List.mem_cons.mp hq with rfl | hq
      · show H b = some (.tup (k.map V.int))
        rw [h, e1, List.map_map]
        rfl
      · exact hL q hq
theorem rp_intL {K : PySem.W.Frag} {G : Hp} : ∀ ns : List Int, RpAll K G (ns.map V.int) (ns.map .int)
  | [] => .nil
  | _ :: r => .cons (.int _) (rp_intL r)
theorem okd_ints : ∀ (n : Nat) (k : List Int), okds (k.map PyData.int) n = true
  | n, [] => rfl
  | n, _ :: r => by rw [List.map_cons, okds, okd, okd_ints n r]; rfl
section
variable {X : Cx}
def rSortKT : List V → Hp → VK → Prop := fun vs H Q => ∃ (a : Addr) (kvs : List (List Key × V)) (ks : List (List Int)), vs = [.ref a] ∧ Rd H a (.dT kvs) ∧ kvs.map (·.1) = ks.map (fun k => k.map Sum.inl) ∧ ks.length < 64 ∧
  ∀ (L : List (Addr × List Int)) (p : Addr), (∀ q ∈ L, H q.1 = some (.tup (q.2.map V.int))) → L.map (·.2) = srtL ks → H p = none → Q (.ref p) (upd H p (.lst (L.map fun q => V.ref q.1)))
theorem cr_sortedT (hc : X.calm = true) (hu : X.A.units + 65 < cLine) : CallR X (.builtin "sorted") rSortKT := by
  intro pins s σ H xs us Q I r h
  obtain ⟨d, kvs, ks, rfl, hd, hks, h64, q⟩ := h
  obtain ⟨u, rfl, rx⟩ := r.one
  cases rx
  obtain ⟨z, hs, xs, pr, o, es, ep, ho, hx, hdt, he, hn⟩ := (show ObjOk X.prog X.w H s.heap d (.dT kvs) from hd.ok I.hok)
  have l1 : es.size = xs.length := size_of_entries he
  have l2 : kvs.length = xs.length := Paired.length pr
  refine call_function_entry_kw kind_sorted plain_sorted entry_sorted (args_sorted1 _) ?_
  unfold Builtin.«sorted»
  refine wpAny_bind (m := checkCount "sorted" 1 1 _) (wpAny_pure ?_)
  refine wpAny_bind (PySem.W.kdu_collect (A := X.A.in1) (kdl_raw hs hx hdt) (I.ok.hd hc) ho (by omega) fun h' tk acc' kp it => ?_)
  have ea : acc'.toList = xs.map fun x => Value.ref x.2.1 := by
    have hl : acc'.toList.length = xs.length := by rw [Array.length_toList, it.1]; exact l1
    apply List.ext_getElem?
    intro j
    rw [List.getElem?_map]
    cases hj : acc'.toList[j]? with
    | none =>
      have h1 := List.getElem?_eq_none_iff.mp hj
      rw [List.getElem?_eq_none (by omega)]
      all_goals rfl
    | some v =>
      obtain ⟨en, hen, hv⟩ := it.2 j v (by rw [← Array.getElem?_toList]; exact hj)
      have qe := entry_at he j
      rw [hen] at qe
      cases hb : xs[j]? with
      | none =>
        rw [hb] at qe
        exact nomatch (show some en = none from qe)
      | some b =>
        rw [hb] at qe
        have e2 : en = entryOfKey (tupleKind (mixKind X.prog X.w)) b := Option.some.inj qe
        rw [hv, e2]
        all_goals rfl
  obtain ⟨L1, eb, eks, hL⟩ := keyed_of (isKeys_of pr) hks
  have eL : acc'.toList = L1.map fun q => Value.ref q.1 := by
    rw [ea, show (xs.map fun x => Value.ref x.2.1) = (xs.map fun x => x.2.1).map Value.ref by rw [List.map_map]; rfl, eb, List.map_map]
    rfl
  rw [eL]
  have lL : L1.length = ks.length := by rw [← eks, List.length_map]
  have hzl : (L1.map fun q => Value.ref q.1).length ≤ sizeLine := by rw [List.length_map, sizeLine_eq]; omega
  have I1 : Inv X pins σ H { s with heap := h', toks := tk } := I.kept kp
  refine wpAny_bind (wpAny_newList ?_ hzl)
  have hoL : (h'.push (seqObj "list" (L1.map fun q => Value.ref q.1).toArray 0)).get? h'.objs.size = some (seqObj "list" (L1.map fun q => Value.ref q.1).toArray 0) := Heap.get?_push_size _ rfl
  show wpAny _ _ _ _ _ { s with heap := h'.push (seqObj "list" (L1.map fun q => Value.ref q.1).toArray 0), toks := tk }
  refine wpAny_bind (wpAny_holding (wpAny_call_entry_kw slot_list_sort ⟨_, hoL, rfl⟩ entry_list_sort ?body (args_list_sort _)))
  case body =>
    show wpAny _ X.A.in1.in1 (Builtin.«list.sort» ⟨[.ref h'.objs.size], []⟩) _ _ _
    have er : EachIs (fun v (q : Addr × List Int) => ∃ as, Reads (sortingHeap (h'.push (seqObj "list" (L1.map fun q => Value.ref q.1).toArray 0)) h'.objs.size (L1.map fun q => Value.ref q.1)) v (tuJ q.2) as) (L1.map fun q => Value.ref q.1) L1 := by
      have : ∀ L2 : List (Addr × List Int), (∀ q ∈ L2, q ∈ L1) → EachIs (fun v (q : Addr × List Int) => ∃ as, Reads (sortingHeap (h'.push (seqObj "list" (L1.map fun q => Value.ref q.1).toArray 0)) h'.objs.size (L1.map fun q => Value.ref q.1)) v (tuJ q.2) as) (L2.map fun q => Value.ref q.1) L2 := by
        intro L2
        induction L2 with
        | nil => intro _; exact .nil
        | cons q L2 ih =>
          intro h2
          have rp : Rp X.K H (.ref q.1) (tuJ q.2) := .tup (.inl (hL q (h2 q List.mem_cons_self))) (rp_intL q.2)
          obtain ⟨as, ra⟩ := Dp.reads I1 (tuJ q.2) (.ref q.1) (.ref q.1) (Rp.dp (Same.refl H) (tuJ q.2) 39 _ rp (okd_ints 38 q.2)) rfl
          refine .cons ⟨as, PyProof.Rows.Reads.keeps (fun b u e => ?_) ra⟩ (ih fun r hr => h2 r (List.mem_cons_of_mem _ hr))
          exact sortingHeap_old (Nat.ne_of_lt (Heap.lt_size e)) (Heap.get?_push_of_some _ e)
      exact this L1 fun _ h => h
    have hal : AllAlike (L1.map fun q => tuJ q.2) := by
      have := all_alike (L1.map (·.2))
      rw [List.map_map] at this
      exact this
    have hk : Sortable2 (L1.map fun q => tuJ q.2) := .inr fun d hd => by
      obtain ⟨q, _, rfl⟩ := List.mem_map.mp hd
      exact ⟨_, rfl⟩
    have S := sorts2 (prog := X.prog) (w := X.w) (A := X.A.in1.in1) (s := { s with heap := sortingHeap (h'.push (seqObj "list" (L1.map fun q => Value.ref q.1).toArray 0)) h'.objs.size (L1.map fun q => Value.ref q.1), toks := tk }) (each_map (R := fun v d => ∃ as, Reads (sortingHeap (h'.push (seqObj "list" (L1.map fun q => Value.ref q.1).toArray 0)) h'.objs.size (L1.map fun q => Value.ref q.1)) v d as) (fun q : Addr × List Int => tuJ q.2) er) hal hk (bound_map fun q hq => by have := depth_tuJ q.2; show X.A.units + 2 + (tuJ q.2).depth < cLine; omega)
    refine wpAny_mono (list_sort_vals (s := { s with heap := h'.push (seqObj "list" (L1.map fun q => Value.ref q.1).toArray 0), toks := tk }) (P := fun f s' => f = .done (.ret .none) ∧ EP X pins σ Q (.ref h'.objs.size) s') hoL S hzl ⟨rfl, ?_⟩) (fun f s' hf => by obtain ⟨rfl, hq⟩ := hf; exact ⟨_, rfl, wpAny_pure ⟨_, rfl, hq⟩⟩) fun _ _ e => e
    have eo := each_eq (sortVals_data false (R := fun v (q : Addr × List Int) => v = Value.ref q.1) (each_refs L1) er hal)
    obtain ⟨c, hc2⟩ := sortedHeap_at (vs := (L1.map fun q => Value.ref q.1)) (out := (L1.mergeSort (dataLe false fun q : Addr × List Int => tuJ q.2)).map (fun q => Value.ref q.1) |>.toArray) hoL
    rw [eo]
    have hle : ∀ q r : Addr × List Int, dataLe false (fun q : Addr × List Int => tuJ q.2) q r = decide (¬ r.2 < q.2) := fun q r => by
      show (!dataLt (tuJ r.2) (tuJ q.2)) = _
      rw [dataLt_tuple, show PyProof.Rows.lexLt itemOrd (keyToksAll (r.2.map .int)) (keyToksAll (q.2.map .int)) = rowLt (r.2.map .int) (q.2.map .int) from rfl, dataLt_ints, decide_not]
    have em : (L1.mergeSort (dataLe false fun q : Addr × List Int => tuJ q.2)).map (·.2) = srtL ks := by
      rw [List.map_mergeSort (r := dataLe false fun q : Addr × List Int => tuJ q.2) (s := fun a b : List Int => decide (¬ b < a)) (f := fun q : Addr × List Int => q.2) (l := L1) (fun a _ b _ => hle a b), eks]
      rfl
    have hm : ∀ q ∈ L1.mergeSort (dataLe false fun q : Addr × List Int => tuJ q.2), q ∈ L1 := fun q hq => (List.mergeSort_perm _ _).mem_iff.mp hq
    have hnn : H h'.objs.size = none := I1.hok.fresh (Nat.le_refl _)
    refine ⟨.ref h'.objs.size, upd H h'.objs.size (.lst ((L1.mergeSort (dataLe false fun q : Addr × List Int => tuJ q.2)).map fun q => V.ref q.1)), I1.laid (t' := tk) (fun b u e => ?_) (Nat.le_refl _) ⟨?_, _, c, vals_of_refs _, hc2⟩, rfl, q _ _ (fun q hq => hL q (hm q hq)) em hnn⟩
    · have hlt := Heap.lt_size e
      show (sortedHeap (h'.push (seqObj "list" (L1.map fun q => Value.ref q.1).toArray 0)) h'.objs.size (L1.map fun q => Value.ref q.1) _).get? b = some u
      rw [sortedHeap_old (Nat.ne_of_lt hlt) (by rw [size_push']; exact Nat.lt_succ_of_lt hlt)]
      exact Heap.get?_push_of_some _ e
    · rw [List.length_map, List.length_mergeSort, sizeLine_eq]; omega
/-- dict(xs) of a list of pairs (tuple, value) -/
theorem pairsT_of {pins : List (Addr × Obj)} {σ : L2.St} {H : Hp} {s : Shared} (I : Inv X pins σ H s) : ∀ {ps : List Addr} {kvs : List (List Key × V)}, Paired (fun p (kv : List Key × V) => ∃ b, SqT X.K H p [V.ref b, kv.2] ∧ H b = some (.tup (kv.1.map kV))) ps kvs →
    ∃ prs : List (List Key × Addr × Value), KT H kvs prs ∧ prs.length = ps.length ∧ ∀ (j : Nat) (q : List Key × Addr × Value), prs[j]? = some q → ∃ (b : Addr), ps[j]? = some b ∧ IsTup s.heap b #[.ref q.2.1, q.2.2] ∧ H q.2.1 = some (.tup (q.1.map kV))
  | _, _, .nil => ⟨[], .nil, rfl, fun j q e => by simp at e⟩
  | _, _, .cons (a := p) (b := kv) h t => by
    obtain ⟨prs, r, hl, hp⟩ := pairsT_of I t
    obtain ⟨b, h, hb⟩ := h
    obtain ⟨its, rv, ht, _⟩ := I.tuple h
    obtain ⟨u, y, ei, ru, ry⟩ := vals2 rv
    subst ei
    cases ru
    refine ⟨(kv.1, b, y) :: prs, .cons ⟨rfl, hb, ry⟩ r, by rw [List.length_cons, List.length_cons, hl], fun j q e => ?_⟩
    cases j with
    | zero =>
      have e' : (kv.1, b, y) = q := Option.some.inj e
      subst e'
      exact ⟨p, rfl, ht, hb⟩
    | succ j =>
      obtain ⟨b', e1, e2, e3⟩ := hp j q (by simpa using e)
      exact ⟨b', by simpa using e1, e2, e3⟩
def rDictT (K : PySem.W.Frag) : List V → Hp → VK → Prop := fun xs H Q => ∃ (a : Addr) (ps : List Addr) (kvs : List (List Key × V)), xs = [.ref a] ∧ SqL K H a (ps.map V.ref) ∧ Paired (fun p (kv : List Key × V) => ∃ b, SqT K H p [V.ref b, kv.2] ∧ H b = some (.tup (kv.1.map kV))) ps kvs ∧
    ∀ p, H p = none → Q (.ref p) (upd H p (.dT (mergeT [] kvs)))
theorem cr_dictT (hcalm : X.calm = true) (hu : X.A.units + 65 < cLine) : CallR X (.type "dict") (rDictT X.K) := by
  intro pins s σ H xs us Q I r q
  obtain ⟨a, ps, kvs, ex, hq, hp, q⟩ := q
  subst ex
  obtain ⟨u, eu, rx⟩ := vals1 r
  subst eu
  cases rx
  obtain ⟨its, rv, pl, hz⟩ := I.list hq
  have ei := refs_at rv
  subst ei
  rw [List.length_map] at hz
  obtain ⟨prs, rel, hl, hpr⟩ := pairsT_of I hp
  obtain ⟨o, n, ho, hc, hd, hdat⟩ := pl
  have hmem : ∀ x ∈ prs, H x.2.1 = some (.tup (x.1.map kV)) := fun x hx => by
    obtain ⟨j, hj⟩ := List.mem_iff_getElem?.mp hx
    obtain ⟨_, _, _, e⟩ := hpr j x hj
    exact e
  refine call_dict_pairsH (knd := tupleKind (mixKind X.prog X.w)) (ps := prs) (PairArg.list a _ (fun j => ps.getD j 0) (prs.map fun x => (Value.ref x.2.1, x.2.2))) (I.ok.hd hcalm) (show _ < cLine by have : X.A.in1.in1.units = X.A.units + 2 := rfl; omega) ⟨⟨o, n, ho, hc, hd, hdat⟩, by simp [hl], fun j k v e => ?_⟩ ⟨by simp, fun i key v e => ?_⟩ (fun h' hk x hx => ?_) (by rw [List.length_map, hl]; exact hz) fun h' tk hd' k => ?_
  · rw [List.getElem?_map, Option.map_eq_some_iff] at e
    obtain ⟨x, e, eq⟩ := e
    injection eq with e1 e2
    subst e1; subst e2
    obtain ⟨b, e1, e2, e3⟩ := hpr j x e
    have : ps.getD j 0 = b := by rw [List.getD_eq_getElem?_getD, e1]; rfl
    refine ⟨show (List.map Value.ref ps).toArray[j]? = some (Value.ref (ps.getD j 0)) by rw [this]; simp [e1], .inl (show s.heap.IsTuple (ps.getD j 0) #[Value.ref x.2.1, x.2.2] from ?_)⟩
    rw [this]
    obtain ⟨o, ho, hc, n, hd⟩ := e2
    exact ⟨o, ho, hc, n, hd⟩
  · have e : (prs.map fun x => (Value.ref x.2.1, x.2.2))[i]? = some (key, v) := e
    rw [List.getElem?_map, Option.map_eq_some_iff] at e
    obtain ⟨x, ex, eq⟩ := e
    injection eq with e1 e2
    subst e1; subst e2
    exact ⟨x.1, x.2.1, ex, rfl⟩
  · have I' : Inv X pins σ H { s with heap := h', toks := s.toks } := I.kept fun b ob e => hk b ob (Nat.ne_of_lt (Heap.lt_size e)) (by simp) e
    exact key_of I'.hok (hmem x hx)
  · have hm : (s.heap.objs.size == sysModules) = false := beq_eq_false_iff_ne.mpr (Nat.ne_of_gt I.big)
    have hlen : (mergeT [] kvs).length ≤ sizeLine := by
      refine Nat.le_trans (mergeT_len kvs []) ?_
      rw [List.length_nil, Nat.zero_add, Paired.length rel, hl]
      exact hz
    have hnn : H s.heap.objs.size = none := I.hok.fresh (Nat.le_refl _)
    obtain ⟨o2, es, ep, h1, h2, h3, h4, _, h6⟩ := hd'
    have k2 : ∀ b ob, s.heap.get? b = some ob → h'.get? b = some ob := fun b ob e => k b ob (by simp) e
    exact ⟨.ref s.heap.objs.size, upd H s.heap.objs.size (.dT (mergeT [] kvs)), I.laid (t' := tk) k2 (Nat.le_refl _) (show ObjOk X.prog X.w _ _ _ (.dT (mergeT [] kvs)) from ⟨hlen, hm, storedAllH [] prs, (kt_all rel .nil).keeps (fun b ys e => by rw [upd_ne (ne_of_none e hnn)]; exact e), o2, es, ep, h1, h2, h3, h4, h6⟩), rfl, q _ hnn⟩
theorem kt_fst {H : Hp} : ∀ {ms : List (List Key × V)} {ys : List (List Key × Addr × Value)}, KT H ms ys → ys.map (fun x => x.1) = ms.map (·.1)
  | _, _, .nil => rfl
  | _, _, .cons h t => by rw [List.map_cons, List.map_cons, kt_fst t, h.1]
/-- d.update(e) -/
def rUpdT : V → List V → Hp → VK → Prop := fun x xs H Q => ∃ (a b : Addr) (kvs ms : List (List Key × V)), x = .ref a ∧ xs = [.ref b] ∧ H a = some (.dT kvs) ∧ Rd H b (.dT ms) ∧ a ≠ b ∧ kvs.length + ms.length ≤ sizeLine ∧
  (kvs ≠ [] ∨ ∃ ks : List (List Int), ms.map (·.1) = ks.map (fun k => k.map Sum.inl) ∧ (ks.map hashT).Nodup) ∧ Q .non (upd H a (.dT (mergeT kvs ms)))
theorem mt_updT (hu : X.A.units + 65 < cLine) : MtR X "dict.update" rUpdT := by
  intro pins s σ H x xs v us Q I rx rxs h
  obtain ⟨a, b, kvs, ms, rfl, rfl, ha, hb, hab, hl, hap, q⟩ := h
  cases rx
  obtain ⟨u, rfl, r1⟩ := rxs.one
  cases r1
  obtain ⟨z, hs, xs', rel, dd⟩ := dt_of I.hok ha
  obtain ⟨z2, hs2, ys', rel2, dd2⟩ := dt_rd I.hok hb
  have l1 := Paired.length rel
  have l2 := Paired.length rel2
  have hkey : ∀ {kvs : List (List Key × V)} {xs : List (List Key × Addr × Value)}, KT H kvs xs → ∀ x ∈ xs, H x.2.1 = some (.tup (x.1.map kV)) := by
    intro kvs xs r
    induction r with
    | nil => intro x hx; cases hx
    | cons h t ih =>
      intro x hx
      rcases List.mem_cons.mp hx with rfl | hx
      · rw [← h.1]; exact h.2.1
      · exact ih x hx
  refine call_update_dictH (kvs := xs') (more := ys') (knd := tupleKind (mixKind X.prog X.w)) (show _ < cLine by have : X.A.in1.units = X.A.units + 1 := rfl; omega) hab hs2 dd dd2 ?_ (by omega) fun h' d1 d2 hsb => ?_
  · rcases hap with hap | ⟨ks, e, nd⟩
    · refine .inl fun e => hap ?_
      rw [e] at rel
      cases rel
      rfl
    · refine .inr ⟨fun x hx => ?_, ?_⟩
      · exact IsTupleKey.typeIs (key_of (P := X.prog) (w := X.w) I.hok (hkey rel2 x hx))
      · have e2 := kt_fst rel2
        have e3 : (ys'.map fun x => (tupleKind (mixKind X.prog X.w)).hash x.1) = ks.map hashT := by
          rw [show (ys'.map fun x => (tupleKind (mixKind X.prog X.w)).hash x.1) = (ys'.map fun x => x.1).map (tupleKind (mixKind X.prog X.w)).hash by rw [List.map_map]; rfl, e2, e, List.map_map]
          refine List.map_congr_left fun k _ => ?_
          show reduceHash (Builtin.Tuple.tupleHashOf ((k.map Sum.inl).map (keyH X.w))) = reduceHash (Builtin.Tuple.tupleHashOf (k.map hashInt))
          rw [List.map_map]
          rfl
        rw [e3]; exact nd
  · obtain ⟨o, es, ep, hq, h2, h3, h4, _, h5⟩ := d1
    have I2 : Inv X pins σ (upd H a (.dT (mergeT kvs ms))) { s with heap := h', toks := s.toks } :=
      d_write I (by rw [ha]; exact True.intro) hsb ⟨o, hq⟩ ⟨Nat.le_trans (mergeT_len ms kvs) hl, hs, _, (kt_all rel2 rel).keeps (fun c ys ec => (by rw [upd_ne (ne_of ec ha (fun z => nomatch z))]; exact ec)), o, es, ep, hq, h2, h3, h4, h5⟩
    exact ⟨.non, _, I2, rfl, q⟩
end
end Pv

set_option Elab.async false
set_option linter.all false
set_option maxRecDepth 100000
set_option maxHeartbeats 1000000
/-! PvE: comparisons, subscripts, slices, built-ins, by values and data. -/
namespace Pv
open PySem PySem.Spec L2

def copOf : Cop → CmpOp
  | .eq => .Eq
  | .ne => .NotEq
  | .lt => .Lt
  | .le => .LtE
  | .gt => .Gt
  | .ge => .GtE
  | .isin => .In
  | .notin => .NotIn
  | .is => .Is
  | .isnot => .IsNot
section
variable {K : PySem.W.Frag} {G H : Hp}
theorem RpC.dp (s : Same G H) {v : V} {d : D} (h : RpC K G H v d) (o : okD d = true) : Dp K H v d := Rp.dp (Same.refl H) d 40 v (h.toH s) o
end
def OpC (K : PySem.W.Frag) (r : R2) (f : D → D → Option Bool) : Prop := ∀ (G H : Hp) (v w : V) (x y : D) (z : Bool) (Q : VK), Same G H → RpC K G H v x → RpC K G H w y → f x y = some z → Q (.bl z) H → r v w H Q
section
variable {X : Cx}
def rInT (K : PySem.W.Frag) : R2 := fun x y H Q => ∃ d ds, Dp K H x d ∧ Dp K H y (.tuple ds) ∧ SeqAt.shaped d = true ∧ SeqAt.shaped (.tuple ds) = true ∧ Q (.bl (ds.any fun z => PyData.eqv z d)) H
def rNotInT (K : PySem.W.Frag) : R2 := fun x y H Q => ∃ d ds, Dp K H x d ∧ Dp K H y (.tuple ds) ∧ SeqAt.shaped d = true ∧ SeqAt.shaped (.tuple ds) = true ∧ Q (.bl (!ds.any fun z => PyData.eqv z d)) H
theorem room_t {A : Around} {ds : List D} {d : D} (h : SeqAt.shaped d = true) (hu : A.units + 65 < cLine) : A.units + 1 + min (PyData.depthAll ds) d.depth < cLine := by
  have := SeqAt.depth_of_shaped h
  omega
theorem op_inT (hu : X.A.units + 65 < cLine) : OpR X (compareOp .In) (rInT X.K) := by
  intro pins s σ H x y v u Q I rx ry h
  obtain ⟨d, ds, hd, he, sd, se, q⟩ := h
  obtain ⟨as, r1⟩ := Dp.reads I d x v hd rx
  obtain ⟨bs, r2⟩ := Dp.reads I (.tuple ds) y u he ry
  exact SeqAt.in_tuple_reads r2 r1 (by simpa [PyData.canLay0] using SeqAt.canLay_of_shaped se) (SeqAt.canLay_of_shaped sd) (room_t sd hu) ⟨.bl _, H, I, rfl, q⟩
theorem op_notInT (hu : X.A.units + 65 < cLine) : OpR X (compareOp .NotIn) (rNotInT X.K) := by
  intro pins s σ H x y v u Q I rx ry h
  obtain ⟨d, ds, hd, he, sd, se, q⟩ := h
  obtain ⟨as, r1⟩ := Dp.reads I d x v hd rx
  obtain ⟨bs, r2⟩ := Dp.reads I (.tuple ds) y u he ry
  exact SeqAt.notIn_tuple_reads r2 r1 (by simpa [PyData.canLay0] using SeqAt.canLay_of_shaped se) (SeqAt.canLay_of_shaped sd) (room_t sd hu) ⟨.bl _, H, I, rfl, q⟩
theorem op_inDict (hu : X.A.units + 1 < cLine) : OpR X (compareOp .In) (fun x y H Q => ∃ a o, y = .ref a ∧ DGet H a x o ∧ Q (.bl o.isSome) H) := by
  intro pins s σ H x y v u Q I rx ry h
  obtain ⟨a, o, rfl, g, q⟩ := h
  obtain rfl : u = Value.ref a := ry
  exact d_in hu I g rx fun s' I' => ⟨.bl _, H, I', rfl, q⟩
theorem op_notInDict (hu : X.A.units + 1 < cLine) : OpR X (compareOp .NotIn) (fun x y H Q => ∃ a o, y = .ref a ∧ DGet H a x o ∧ Q (.bl (!o.isSome)) H) := by
  intro pins s σ H x y v u Q I rx ry h
  obtain ⟨a, o, rfl, g, q⟩ := h
  obtain rfl : u = Value.ref a := ry
  exact d_notIn hu I g rx fun s' I' => ⟨.bl _, H, I', rfl, q⟩
theorem dget_of {K : PySem.W.Frag} {G H : Hp} {a : Addr} {ks : List (Key × V)} {kvs : List (D × D)} {w : V} {x : D} (h : Rd H a (.dK ks)) (r : RpKV K G ks kvs) (hk : isKey x = true) (hw : RpC K G H w x) :
    ∃ o, DGet H a w o ∧ ((o = none ∧ dval kvs x = none) ∨ ∃ v d, o = some v ∧ dval kvs x = some d ∧ Rp K G v d) := by
  obtain ⟨k, rfl⟩ := isKey_of hk
  have ew : w = kV k := by
    rcases hw with hw | ⟨_, _, hw⟩
    · exact hw.key
    · cases k <;> exact False.elim hw
  subst ew
  refine ⟨valV ks k, .inl ⟨ks, k, h, rfl, rfl⟩, ?_⟩
  exact r.val k
theorem keys_of : ∀ {ds : List D}, ds.all isKey = true → ∃ k : List Key, ds = k.map keyD
  | [], _ => ⟨[], rfl⟩
  | d :: ds, h => by
    rw [List.all_cons, Bool.and_eq_true] at h
    obtain ⟨k, rfl⟩ := isKey_of h.1
    obtain ⟨ks, rfl⟩ := keys_of h.2
    exact ⟨k :: ks, rfl⟩
theorem RpAll.keys {K : PySem.W.Frag} {G : Hp} : ∀ {k : List Key} {xs : List V}, RpAll K G xs (k.map keyD) → xs = k.map kV
  | [], _, h => by cases h; rfl
  | k :: ks, _, h => by
    cases h with
    | cons h1 h2 => rw [h1.key, RpAll.keys h2]; rfl
theorem keyT_of {K : PySem.W.Frag} {G H : Hp} (s : Same G H) {w : V} {x : D} (hk : isKeyT x = true) (hf : freeK x = true) (hw : RpC K G H w x) : ∃ (k : List Key) (b : Addr), x = keyTD k ∧ w = .ref b ∧ H b = some (.tup (k.map kV)) := by
  cases x <;> simp only [isKeyT] at hk <;> first | cases hk | skip
  rename_i ds
  obtain ⟨k, rfl⟩ := keys_of hk
  simp only [freeK, Bool.not_eq_true'] at hf
  obtain ⟨b, xs, rfl, e, r⟩ := hw.tupN s hf
  rw [r.keys] at e
  exact ⟨k, b, rfl, rfl, e⟩
theorem dlook_ok {K : PySem.W.Frag} {G H : Hp} (s : Same G H) {w u : V} {kvs : List (D × D)} {x : D} {r : Option D} (hy : RpC K G H w (.dict kvs)) (hx : RpC K G H u x) (e : dlook kvs x = some r) :
    ∃ a o, w = .ref a ∧ DGet H a u o ∧ ((o = none ∧ r = none) ∨ ∃ v d, o = some v ∧ r = some d ∧ Rp K G v d) := by
  unfold dlook at e
  split at e
  · rename_i hk
    cases e
    simp only [Bool.and_eq_true] at hk
    obtain ⟨a, ks, rfl, h1, h2⟩ := hy.dict s hk.2
    obtain ⟨o, g, h⟩ := dget_of h1 h2 hk.1 hx
    exact ⟨a, o, rfl, g, h⟩
  · split at e
    · rename_i hk
      cases e
      simp only [Bool.and_eq_true] at hk
      obtain ⟨a, ks, q, rfl, rfl, h1, h2⟩ := hy.dictT s hk.2.2
      obtain ⟨k, b, rfl, rfl, eb⟩ := keyT_of s hk.1 hk.2.1 hx
      exact ⟨a, valV ks k, rfl, .inr ⟨ks, k, b, h1, rfl, eb, rfl⟩, h2.val k⟩
    · cases e
theorem dOk_no {kvs : List (D × D)} (h : dOk kvs = true) (ds : List D) : kvs ≠ [(.none, .list ds)] := fun z => by subst z; simp [dOk] at h
theorem RpC.isNon {K : PySem.W.Frag} {G H : Hp} {v : V} {x : D} (h : RpC K G H v x) : decide (v = .non) = (match x with | .none => true | _ => false) := by
  rcases h with h | ⟨a, rfl, h⟩
  · cases h <;> simp
  · cases x <;> first | exact False.elim h | simp
theorem RpC.dpS {K : PySem.W.Frag} {G H : Hp} {v : V} {x : Str} (h : RpC K G H v (.str x)) : Dp K H v (.str x) := by rw [h.str]; exact .str _
theorem ltStr_data (a b : Str) : PySem.W.dataLt (.str a) (.str b) = ltStr a b := PySem.W.dataLt_str a b
theorem cmpD_of {K : PySem.W.Frag} {G H : Hp} {v w : V} {x y : D} {f : D → D → Bool} {Q : VK} (s : Same G H) (hx : RpC K G H v x) (hy : RpC K G H w y) (hq : (okD x && okD y && PySem.W.alike x y) = true) (hn : x ≠ .none) (q : Q (.bl (f x y)) H) : rCmpD K f v w H Q := by
  simp only [Bool.and_eq_true] at hq
  refine ⟨x, y, hx.dp s hq.1.1, hy.dp s hq.1.2, hq.2, hn, (okd_lay x 40 hq.1.1).2, q⟩
theorem cop_ok (hu : X.A.units + 65 < cLine) (o : Cop) : ∃ r, OpR X (compareOp (copOf o)) r ∧ OpC X.K r (cmpop o) := by
  cases o with
  | eq =>
    refine ⟨_, op_eqD (by omega), fun G H v w x y z Q s hx hy e q => ?_⟩
    simp only [cmpop] at e
    split at e
    · rename_i h
      cases e
      simp only [Bool.and_eq_true] at h
      exact ⟨x, y, hx.dp s h.1, hy.dp s h.2, okD_shaped h.1, okD_shaped h.2, q⟩
    · cases e
  | ne =>
    refine ⟨_, op_neD (by omega), fun G H v w x y z Q s hx hy e q => ?_⟩
    simp only [cmpop] at e
    split at e
    · rename_i h
      cases e
      simp only [Bool.and_eq_true] at h
      exact ⟨x, y, hx.dp s h.1, hy.dp s h.2, okD_shaped h.1, okD_shaped h.2, q⟩
    · cases e
  | lt =>
    refine ⟨_, op_lt.or (op_lt_str.or (op_ltD hu)), fun G H v w x y z Q s hx hy e q => ?_⟩
    simp only [cmpop] at e
    split at e
    · cases e; exact .inl ⟨_, _, hx.int, hy.int, q⟩
    · cases e; exact .inr (.inl ⟨_, _, hx.str, hy.str, q⟩)
    · split at e
      · rename_i hq
        cases e
        exact .inr (.inr (cmpD_of s hx hy hq (fun z => by cases z) q))
      · cases e
    · cases e
  | le =>
    refine ⟨_, op_le.or (op_leD hu), fun G H v w x y z Q s hx hy e q => ?_⟩
    simp only [cmpop] at e
    split at e
    · cases e; exact .inl ⟨_, _, hx.int, hy.int, q⟩
    · cases e
      rw [← ltStr_data] at q
      exact .inr ⟨_, _, hx.dpS, hy.dpS, rfl, (fun z => by cases z), (by simp [PyData.depth]), q⟩
    · split at e
      · rename_i hq
        cases e
        exact .inr (cmpD_of (f := fun d e => !PySem.W.dataLt e d) s hx hy hq (fun z => by cases z) q)
      · cases e
    · cases e
  | gt =>
    refine ⟨_, op_gt.or (op_gtD hu), fun G H v w x y z Q s hx hy e q => ?_⟩
    simp only [cmpop] at e
    split at e
    · cases e; exact .inl ⟨_, _, hx.int, hy.int, q⟩
    · cases e
      rw [← ltStr_data] at q
      exact .inr ⟨_, _, hx.dpS, hy.dpS, rfl, (fun z => by cases z), (by simp [PyData.depth]), q⟩
    · split at e
      · rename_i hq
        cases e
        exact .inr (cmpD_of (f := fun d e => PySem.W.dataLt e d) s hx hy hq (fun z => by cases z) q)
      · cases e
    · cases e
  | ge =>
    refine ⟨_, op_ge.or (op_geD hu), fun G H v w x y z Q s hx hy e q => ?_⟩
    simp only [cmpop] at e
    split at e
    · cases e; exact .inl ⟨_, _, hx.int, hy.int, q⟩
    · cases e
      rw [← ltStr_data] at q
      exact .inr ⟨_, _, hx.dpS, hy.dpS, rfl, (fun z => by cases z), (by simp [PyData.depth]), q⟩
    · split at e
      · rename_i hq
        cases e
        exact .inr (cmpD_of (f := fun d e => !PySem.W.dataLt d e) s hx hy hq (fun z => by cases z) q)
      · cases e
    · cases e
  | isin =>
    refine ⟨_, (op_inD hu).or ((op_inT hu).or (op_inDict (by omega))), fun G H v w x y z Q s hx hy e q => ?_⟩
    simp only [cmpop] at e
    split at e
    · split at e
      · rename_i h
        cases e
        simp only [Bool.and_eq_true] at h
        exact .inl ⟨x, _, hx.dp s h.1, hy.dp s h.2, okD_shaped h.1, okD_shaped h.2, q⟩
      · cases e
    · split at e
      · rename_i h
        cases e
        simp only [Bool.and_eq_true] at h
        exact .inr (.inl ⟨x, _, hx.dp s h.1, hy.dp s h.2, okD_shaped h.1, okD_shaped h.2, q⟩)
      · cases e
    · rename_i kvs
      rw [Option.map_eq_some_iff] at e
      obtain ⟨r, e, rfl⟩ := e
      obtain ⟨a, o, rfl, g, h⟩ := dlook_ok s hy hx e
      refine .inr (.inr ⟨a, o, rfl, g, ?_⟩)
      rcases h with ⟨rfl, rfl⟩ | ⟨v', d', rfl, rfl, _⟩ <;> exact q
    · cases e
  | notin =>
    refine ⟨_, (op_notInD hu).or ((op_notInT hu).or (op_notInDict (by omega))), fun G H v w x y z Q s hx hy e q => ?_⟩
    simp only [cmpop] at e
    split at e
    · split at e
      · rename_i h
        cases e
        simp only [Bool.and_eq_true] at h
        exact .inl ⟨x, _, hx.dp s h.1, hy.dp s h.2, okD_shaped h.1, okD_shaped h.2, q⟩
      · cases e
    · split at e
      · rename_i h
        cases e
        simp only [Bool.and_eq_true] at h
        exact .inr (.inl ⟨x, _, hx.dp s h.1, hy.dp s h.2, okD_shaped h.1, okD_shaped h.2, q⟩)
      · cases e
    · rename_i kvs
      rw [Option.map_eq_some_iff] at e
      obtain ⟨r, e, rfl⟩ := e
      obtain ⟨a, o, rfl, g, h⟩ := dlook_ok s hy hx e
      refine .inr (.inr ⟨a, o, rfl, g, ?_⟩)
      rcases h with ⟨rfl, rfl⟩ | ⟨v', d', rfl, rfl, _⟩ <;> exact q
    · cases e
  | is =>
    refine ⟨_, op_isN.or op_is_bl, fun G H v w x y z Q s hx hy e q => ?_⟩
    simp only [cmpop] at e
    split at e
    · refine .inl ⟨hy.non, ?_⟩
      rw [hx.isNon]
      cases x <;> (cases e; exact q)
    · split at e
      · cases e
        exact .inr ⟨_, _, hx.bl, hy.bl, by rw [← Bool.beq_eq_decide_eq]; exact q⟩
      · cases e
    · cases e
  | isnot =>
    refine ⟨_, op_notN.or op_isnot_bl, fun G H v w x y z Q s hx hy e q => ?_⟩
    simp only [cmpop] at e
    split at e
    · refine .inl ⟨hy.non, ?_⟩
      rw [hx.isNon]
      cases x <;> (cases e; exact q)
    · split at e
      · cases e
        exact .inr ⟨_, _, hx.bl, hy.bl, by rw [← Bool.beq_eq_decide_eq]; exact q⟩
      · cases e
    · cases e

/-! ### subscripts -/
theorem ix_dict (hu : X.A.units + 1 < cLine) : IxR X (fun x y H Q => ∃ a v, x = .ref a ∧ DGet H a y (some v) ∧ Q v H) := by
  intro value slice pins s σ H x y v u Q I rx ry h hs
  obtain ⟨a, z, rfl, g, q⟩ := h
  obtain rfl : v = Value.ref a := rx
  exact PyProof.Rows.tail_any (dict_typeIs I g) PySem.F.slot_dict_getitem.lookup (d_getItem hu I g ry fun w' s' I' r' => ⟨z, H, I', r', q⟩) hs
theorem at_eq {α : Type} (xs : List α) (i : Int) : atI xs i = (at? xs.length i).bind fun j => xs[j]? := rfl
theorem at_rp {K : PySem.W.Frag} {G : Hp} {xs : List V} {ds : List D} {i : Int} {d : D} (r : RpAll K G xs ds) (e : ((at? ds.length i).bind fun j => ds[j]?) = some d) : ∃ v, atI xs i = some v ∧ Rp K G v d := by
  rw [at_eq, r.len]
  cases h : at? ds.length i with
  | none => rw [h] at e; cases e
  | some j =>
    rw [h] at e
    exact r.get e
theorem ix_ok (hu : X.A.units + 65 < cLine) : ∃ r, IxR X r ∧ ∀ (G H : Hp) (v w : V) (x y z : D) (Q : VK), Same G H → RpC X.K G H v x → RpC X.K G H w y → item x y = some z → (∀ u, Rp X.K G u z → Q u H) → r v w H Q := by
  refine ⟨_, ix_list.or (ix_tup.or (ix_str.or (ix_dict (by omega)))), fun G H v w x y z Q s hx hy e q => ?_⟩
  unfold item at e
  split at e
  · obtain ⟨l, xs, rfl, hl, r⟩ := hx.list s
    obtain ⟨u, e1, r1⟩ := at_rp r e
    exact .inl ⟨l, xs, _, u, rfl, hy.int, SqL.of hl, e1, q u r1⟩
  · obtain ⟨l, xs, rfl, hl, r⟩ := hx.tuple s
    obtain ⟨u, e1, r1⟩ := at_rp r e
    exact .inr (.inl ⟨l, xs, _, u, rfl, hy.int, hl, e1, q u r1⟩)
  · obtain ⟨l, xs, rfl, hl, r⟩ := hx.frz s
    obtain ⟨u, e1, r1⟩ := at_rp r e
    exact .inl ⟨l, xs, _, u, rfl, hy.int, hl, e1, q u r1⟩
  · rename_i z' k
    split at e
    · rename_i hz
      cases h : at? z'.cps.toList.length k with
      | none => rw [h] at e; cases e
      | some j =>
        rw [h] at e
        simp only [Option.bind_some, Option.map_eq_some_iff] at e
        obtain ⟨c, e1, rfl⟩ := e
        refine .inr (.inr (.inl ⟨z', k, c, hx.str, hy.int, by rw [sl_eq]; exact hz, ?_, q _ (.str _)⟩))
        rw [at_eq, h]
        exact e1
    · cases e
  · rw [Option.bind_eq_some_iff] at e
    obtain ⟨r, e, e2⟩ := e
    obtain ⟨a, o, rfl, g, h⟩ := dlook_ok s hx hy e
    rcases h with ⟨rfl, rfl⟩ | ⟨v', d', rfl, rfl, rr⟩
    · cases e2
    · cases e2
      exact .inr (.inr (.inr ⟨a, v', rfl, g, q _ rr⟩))
  · cases e

/-! ### slices -/
theorem six_eq (n d : Nat) (o : Option Int) : HT.sIx n d o = sIx n d o := by
  cases o with
  | none => rfl
  | some v => rfl

theorem cut_eq (xs : List V) (lo hi : Option Int) : cutV xs lo hi = cut xs lo hi := rfl
theorem cut_rp {K : PySem.W.Frag} {G : Hp} {xs : List V} {ds : List D} (r : RpAll K G xs ds) (lo hi : Option Int) : RpAll K G (cutV xs lo hi) (cut ds lo hi) := by
  rw [cut_eq]
  unfold cut
  rw [r.len]
  exact (r.drop _).take _
theorem cut_whole {α : Type} (xs : List α) (lo hi : Option Int) (h1 : sIx xs.length 0 lo = 0) (h2 : sIx xs.length xs.length hi = xs.length) : cut xs lo hi = xs := by
  unfold cut
  rw [h1, h2]
  simp
theorem sl_ok : ∃ r, SlR X r ∧ ∀ (G H : Hp) (v : V) (x z : D) (lo hi : Option Int) (Q : VK), Same G H → RpC X.K G H v x → slice x lo hi = some z → (∀ u H', Res X.K G H u H' z → Q u H') → r v lo hi H Q := by
  refine ⟨_, sl_list.or sl_tupA, fun G H v x z lo hi Q s hx e q => ?_⟩
  unfold slice at e
  split at e
  · cases e
    obtain ⟨a, xs, rfl, hl, r⟩ := hx.list s
    exact .inl ⟨a, xs, rfl, SqL.of hl, fun p hp => q _ _ (.lst hp (cut_rp r lo hi))⟩
  · cases e
    obtain ⟨a, xs, rfl, hl, r⟩ := hx.tuple s
    refine .inr ⟨a, xs, rfl, hl, fun ⟨h1, h2⟩ => ?_, fun _ p hp => q _ _ (.tup hp (cut_rp r lo hi))⟩
    rw [six_eq, r.len] at h1 h2
    rw [cut_whole _ _ _ h1 h2] at q
    exact q _ _ (.inr ⟨rfl, rfl, hx.seenT⟩)
  · cases e

/-! ### built-ins by name -/
theorem call_lenK : CallR X (.builtin "len") (fun xs H Q => ∃ a kvs, xs = [V.ref a] ∧ Rd H a (.dK kvs) ∧ Q (.int kvs.length) H) := by
  intro pins s σ H xs us Q I r h
  obtain ⟨a, kvs, rfl, e, q⟩ := h
  obtain rfl := Vals.ref1 r
  exact d_len I e fun t s' I' => ⟨.int kvs.length, H, I', ⟨t, rfl⟩, q⟩
def bltS : Blt → String
  | .abs => "abs"
  | .int => "int"
  | .len => "len"
  | .min2 => "min"
  | .max2 => "max"
  | .mn => "min"
  | .mx => "max"
  | .sum => "sum"
  | .all => "all"
  | .any => "any"
  | .tuple => "tuple"
  | .list => "list"
  | .dict => "dict"
  | .sorted => "sorted"
  | .dictT => "dict"
def bltTy : Blt → Bool
  | .int => true
  | .tuple => true
  | .list => true
  | .dict => true
  | .dictT => true
  | _ => false
def bltV (b : Blt) : Value := if bltTy b then .type (bltS b) else .builtin (bltS b)
abbrev RpCs (K : PySem.W.Frag) (G H : Hp) : List V → List D → Prop := Paired (RpC K G H)
theorem RpCs.one {K : PySem.W.Frag} {G H : Hp} {vs : List V} {d : D} (h : RpCs K G H vs [d]) : ∃ v, vs = [v] ∧ RpC K G H v d := by
  cases h with
  | cons a b => cases b; exact ⟨_, rfl, a⟩
theorem RpCs.two {K : PySem.W.Frag} {G H : Hp} {vs : List V} {d e : D} (h : RpCs K G H vs [d, e]) : ∃ v w, vs = [v, w] ∧ RpC K G H v d ∧ RpC K G H w e := by
  cases h with
  | cons a b => obtain ⟨w, rfl, h⟩ := RpCs.one b; exact ⟨_, _, rfl, a, h⟩
theorem cr_or {X : Cx} {f : Value} {r r' : List V → Hp → VK → Prop} (h : CallR X f r) (h' : CallR X f r') : CallR X f (fun xs H Q => r xs H Q ∨ r' xs H Q) := fun pins s σ H xs us Q I rv q => q.elim (h pins s σ H xs us Q I rv) (h' pins s σ H xs us Q I rv)
theorem keys_rp {K : PySem.W.Frag} {G : Hp} : ∀ {ks : List (Key × V)} {kvs : List (D × D)}, RpKV K G ks kvs → RpAll K G (ks.map fun kv => kV kv.1) (kvs.map Prod.fst)
  | _, _, .nil => .nil
  | _, _, .cons (k := k) h r => .cons (by cases k <;> first | exact .int _ | exact .str _) (keys_rp r)
theorem keys_int {K : PySem.W.Frag} {G : Hp} : ∀ {ks : List (Key × V)} {kvs : List (D × D)} {ns : List Int}, RpKV K G ks kvs → intsOf (kvs.map Prod.fst) = some ns → ks.map (·.1) = ns.map Sum.inl
  | _, _, _, .nil, e => by cases e; rfl
  | _, _, _, .cons (k := k) (kvs := kvs) h r, e => by
    cases k with
    | inl i =>
      have e : (intsOf (kvs.map Prod.fst)).map (i :: ·) = _ := e
      rw [Option.map_eq_some_iff] at e
      obtain ⟨ms, e1, rfl⟩ := e
      rw [List.map_cons, keys_int r e1]; rfl
    | inr z =>
      have e : (none : Option (List Int)) = _ := e
      cases e
theorem rpI {K : PySem.W.Frag} {G : Hp} : ∀ ns : List Int, RpAll K G (ns.map V.int) (ns.map .int)
  | [] => .nil
  | _ :: r => .cons (.int _) (rpI r)
theorem srt_eq {ys ks : List Int} (hp : ys.Perm ks) (hs : ys.Pairwise (· ≤ ·)) : ys = srtI ks := by
  refine List.Perm.eq_of_pairwise (le := fun a b : Int => a ≤ b) (fun a b _ _ x y => by omega) hs ?_ (hp.trans (List.mergeSort_perm _ _).symm)
  have := List.pairwise_mergeSort (le := fun a b : Int => decide (a ≤ b)) (fun a b c x y => decide_eq_true (by have x := of_decide_eq_true x; have y := of_decide_eq_true y; omega)) (fun a b => by
    rw [Bool.or_eq_true]
    by_cases z : a ≤ b
    · exact .inl (decide_eq_true z)
    · exact .inr (decide_eq_true (by omega))) ks
  exact this.imp fun h => of_decide_eq_true h
theorem keys_str {K : PySem.W.Frag} {G : Hp} : ∀ {ks : List (Key × V)} {kvs : List (D × D)} {ns : List Str}, RpKV K G ks kvs → strsOf (kvs.map Prod.fst) = some ns → ks.map (·.1) = ns.map Sum.inr
  | _, _, _, .nil, e => by cases e; rfl
  | _, _, _, .cons (k := k) (kvs := kvs) h r, e => by
    cases k with
    | inr i =>
      have e : (strsOf (kvs.map Prod.fst)).map (i :: ·) = _ := e
      rw [Option.map_eq_some_iff] at e
      obtain ⟨ms, e1, rfl⟩ := e
      rw [List.map_cons, keys_str r e1]; rfl
    | inl z =>
      have e : (none : Option (List Str)) = _ := e
      cases e
theorem rpS {K : PySem.W.Frag} {G : Hp} : ∀ ns : List Str, RpAll K G (ns.map V.str) (ns.map .str)
  | [] => .nil
  | _ :: r => .cons (.str _) (rpS r)
theorem rising_pw : ∀ (l : List Str) (p : Str), PyProof.Rows.risingS p l = true → (p :: l).Pairwise fun a b => ¬ b.cps.toList < a.cps.toList
  | [], p, _ => by simp
  | x :: r, p, h => by
    unfold PyProof.Rows.risingS at h
    rw [PyProof.Rows.ltCps_eq, Bool.and_eq_true, Bool.not_eq_true', decide_eq_false_iff_not] at h
    have ih := rising_pw r x h.2
    refine List.pairwise_cons.mpr ⟨fun y hy => ?_, ih⟩
    rcases List.mem_cons.mp hy with rfl | hy
    · exact h.1
    · exact List.not_lt.mpr (List.le_trans (List.not_lt.mp h.1) (List.not_lt.mp ((List.pairwise_cons.mp ih).1 y hy)))
theorem srtS_eq {ys ks : List Str} (hp : ys.Perm ks) (hs : PyProof.Rows.sortedS ys = true) : ys = srtS ks := by
  have h1 : ys.Pairwise fun a b => ¬ b.cps.toList < a.cps.toList := by
    cases ys with
    | nil => exact .nil
    | cons x r => exact rising_pw r x hs
  refine List.Perm.eq_of_pairwise (le := fun a b : Str => ¬ b.cps.toList < a.cps.toList) (fun a b _ _ x y => ?_) h1 ?_ (hp.trans (List.mergeSort_perm _ _).symm)
  · have e := List.le_antisymm (List.not_lt.mp x) (List.not_lt.mp y)
    cases a
    cases b
    congr 1
    exact Array.toList_inj.mp e
  · have := List.pairwise_mergeSort (le := fun a b : Str => decide (¬ b.cps.toList < a.cps.toList)) (fun a b c x y => by
      rw [decide_eq_true_eq] at *
      exact List.not_lt.mpr (List.le_trans (List.not_lt.mp x) (List.not_lt.mp y))) (fun a b => by
      rw [Bool.or_eq_true, decide_eq_true_eq, decide_eq_true_eq]
      rcases Classical.em (b.cps.toList < a.cps.toList) with z | z
      · exact .inr (List.not_lt.mpr (List.le_of_lt z))
      · exact .inl z) ks
    exact this.imp fun h => of_decide_eq_true h
theorem prs_rp {K : PySem.W.Frag} {G : Hp} : ∀ {xs : List V} {ds : List D} {ps : List (D × D)}, RpAll K G xs ds → prsK ds = some ps →
    ∃ (as : List Addr) (kvs : List (Key × V)), xs = as.map V.ref ∧ Paired (fun p kv => SqT K G p [kV kv.1, kv.2]) as kvs ∧ RpKV K G kvs ps
  | _, _, _, .nil, e => by cases e; exact ⟨[], [], rfl, .nil, .nil⟩
  | _, _, _, .cons (d := d) h r, e => by
    unfold prsK at e
    split at e
    · rename_i z; cases z
    · rename_i k v t z
      cases z
      split at e
      · rename_i hk
        simp only [Option.map_eq_some_iff] at e
        obtain ⟨ps', e1, rfl⟩ := e
        obtain ⟨as, kvs, rfl, h1, h2⟩ := prs_rp r e1
        obtain ⟨k, rfl⟩ := isKey_of hk
        cases h with
        | tup t1 t2 =>
          cases t2 with
          | cons a b =>
            cases b with
            | cons b c =>
              cases c
              have ea := a.key
              subst ea
              exact ⟨_ :: as, (k, _) :: kvs, rfl, .cons t1.sq h1, .cons b h2⟩
      · cases e
    · cases e
theorem paired_up {K : PySem.W.Frag} {G H : Hp} (s : Same G H) : ∀ {as : List Addr} {kvs : List (Key × V)}, Paired (fun p kv => SqT K G p [kV kv.1, kv.2]) as kvs → Paired (fun p kv => SqT K H p [kV kv.1, kv.2]) as kvs
  | _, _, .nil => .nil
  | _, _, .cons a b => .cons (Same.sqT s a) (paired_up s b)
theorem merge_rp {K : PySem.W.Frag} {G : Hp} : ∀ {kvs : List (Key × V)} {ps : List (D × D)} {acc : List (Key × V)} {bcc : List (D × D)}, RpKV K G kvs ps → RpKV K G acc bcc → RpKV K G (mergeK acc kvs) (ps.foldl (fun a p => dput a p.1 p.2) bcc)
  | _, _, _, _, .nil, h => h
  | _, _, acc, bcc, .cons (k := k) (v := v) (ks := ks) (d := d) (kvs := kvs) a r, h => show RpKV K G (mergeK (putK acc k v) ks) (kvs.foldl (fun a p => dput a p.1 p.2) (dput bcc (keyD k) d)) from merge_rp r (h.put k a)
/-- a new list of tuples that stand -/
def Grow (K : PySem.W.Frag) (H : Hp) (u : V) (H' : Hp) (z : D) : Prop := ∃ (p : Addr) (L : List (Addr × List Int)), H p = none ∧ H' = upd H p (.lst (L.map fun q => V.ref q.1)) ∧ u = .ref p ∧ z = .list (L.map fun q => .tuple (q.2.map .int)) ∧ ∀ q ∈ L, H q.1 = some (.tup (q.2.map V.int))
theorem Frm.growS {K : PySem.W.Frag} {B : Bs} {H : Hp} {E : Env} {σ : St} : ∀ (L : List (Addr × List Int)) {G : Hp}, Frm K B G H E σ → (∀ q ∈ L, H q.1 = some (.tup (q.2.map V.int))) → ∃ G', Frm K B G' H E σ ∧ Ext σ E E G H G' H ∧ RpAll K G' (L.map fun q => V.ref q.1) (L.map fun q => .tuple (q.2.map .int))
  | [], G, F, _ => ⟨G, F, Ext.refl, .nil⟩
  | q :: L, G, F, h => by
    obtain ⟨G1, F1, X1, r1⟩ := Frm.growS L F fun r hr => h r (List.mem_cons_of_mem _ hr)
    obtain ⟨G2, F2, X2, e⟩ := F1.growT (h q List.mem_cons_self)
    exact ⟨G2, F2, X1.trans X2, .cons (.tup (.inl e) (rp_intL q.2)) (r1.up X2.g)⟩
theorem Grow.new {K : PySem.W.Frag} {B : Bs} {G H H' : Hp} {E : Env} {σ : St} (F : Frm K B G H E σ) {u : V} {z : D} (g : Grow K H u H' z) : ∃ G', Frm K B G' H E σ ∧ Ext σ E E G H G' H ∧ Res K G' H u H' z := by
  obtain ⟨p, L, hp, rfl, rfl, rfl, h⟩ := g
  obtain ⟨G', F', x, r⟩ := F.growS L h
  exact ⟨G', F', x, .lst hp r⟩
theorem intsOf_eq : ∀ {ds : List D} {k : List Int}, intsOf ds = some k → ds = k.map .int
  | [], k, e => by cases e; rfl
  | d :: r, k, e => by
    cases d <;> first | (rename_i i; have e : (intsOf r).map (i :: ·) = some k := e; rw [Option.map_eq_some_iff] at e; obtain ⟨m, e1, rfl⟩ := e; rw [List.map_cons, intsOf_eq e1]) | (exact absurd (show (none : Option (List Int)) = some k from e) (by simp))
theorem keyD_int : ∀ {k : List Key} {n : List Int}, k.map keyD = n.map PyData.int → k = n.map Sum.inl
  | [], [], _ => rfl
  | [], _ :: _, e => by simp at e
  | _ :: _, [], e => by simp at e
  | a :: k, b :: n, e => by
    rw [List.map_cons, List.map_cons] at e
    injection e with e1 e2
    rw [List.map_cons, keyD_int e2]
    cases a with
    | inl i => cases e1; rfl
    | inr z => cases e1
theorem keysT_int {K : PySem.W.Frag} {G : Hp} : ∀ {ks : List (List Key × V)} {kvs : List (D × D)} {ns : List (List Int)}, RpKT K G ks kvs → tupsI0 (kvs.map Prod.fst) = some ns → ks.map (·.1) = ns.map (fun k => k.map Sum.inl)
  | _, _, _, .nil, e => by cases e; rfl
  | _, _, ns, .cons (k := k) (kvs := kvs) h r, e => by
    have e : (tupI0 (keyTD k)).bind (fun a => (tupsI0 (kvs.map Prod.fst)).map (a :: ·)) = some ns := e
    rw [Option.bind_eq_some_iff] at e
    obtain ⟨n, e1, e2⟩ := e
    rw [Option.map_eq_some_iff] at e2
    obtain ⟨ms, e2, rfl⟩ := e2
    have e3 : k.map keyD = n.map PyData.int := intsOf_eq e1
    rw [List.map_cons, List.map_cons, keysT_int r e2, keyD_int e3]
theorem isKeyT_of {d : D} (h : isKeyT d = true) : ∃ k : List Key, d = keyTD k := by
  cases d <;> first | cases h | skip
  rename_i ds
  have h : ds.all isKey = true := h
  rw [List.all_eq_true] at h
  have : ∀ ds : List D, (∀ d ∈ ds, isKey d = true) → ∃ k : List Key, ds = k.map keyD := by
    intro ds
    induction ds with
    | nil => intro _; exact ⟨[], rfl⟩
    | cons d r ih =>
      intro h
      obtain ⟨k, e⟩ := ih fun x hx => h x (List.mem_cons_of_mem _ hx)
      obtain ⟨a, ea⟩ := isKey_of (h d List.mem_cons_self)
      exact ⟨a :: k, by rw [e, ea]; rfl⟩
  obtain ⟨k, rfl⟩ := this ds h
  exact ⟨k, rfl⟩
theorem rp_keyT {K : PySem.W.Frag} {G : Hp} : ∀ {k : List Key} {vs : List V}, RpAll K G vs (k.map keyD) → vs = k.map kV
  | [], _, h => by cases h; rfl
  | a :: k, _, h => by
    rw [List.map_cons] at h
    cases h with
    | cons h1 h2 =>
      rw [List.map_cons, ← rp_keyT h2]
      have := h1.key
      rw [this]
/-- a key's tuple, seen -/
theorem freeT {K : PySem.W.Frag} {G : Hp} {v : V} {k : List Key} (h : Rp K G v (keyTD k)) (f : freeK (keyTD k) = true) : ∃ b, v = .ref b ∧ G b = some (.tup (k.map kV)) := by
  cases h with
  | @tup a xs ds h1 h2 =>
    have ex := rp_keyT h2
    subst ex
    rcases h1 with h1 | h1
    · exact ⟨_, rfl, h1⟩
    · have f : (!ctB (k.map keyD)) = true := f
      rw [h1.2] at f
      cases f
theorem prsT_rp {K : PySem.W.Frag} {G : Hp} : ∀ {xs : List V} {ds : List D} {ps : List (D × D)}, RpAll K G xs ds → prsT ds = some ps →
    ∃ (as : List Addr) (kvs : List (List Key × V)), xs = as.map V.ref ∧ Paired (fun p (kv : List Key × V) => ∃ b, SqT K G p [V.ref b, kv.2] ∧ G b = some (.tup (kv.1.map kV))) as kvs ∧ RpKT K G kvs ps
  | _, _, _, .nil, e => by cases e; exact ⟨[], [], rfl, .nil, .nil⟩
  | _, _, _, .cons (d := d) h r, e => by
    unfold prsT at e
    split at e
    · rename_i z; cases z
    · rename_i k v t z
      cases z
      split at e
      · rename_i hk
        simp only [Bool.and_eq_true] at hk
        simp only [Option.map_eq_some_iff] at e
        obtain ⟨ps', e1, rfl⟩ := e
        obtain ⟨as, kvs, rfl, h1, h2⟩ := prsT_rp r e1
        obtain ⟨k, rfl⟩ := isKeyT_of hk.1
        cases h with
        | tup t1 t2 =>
          cases t2 with
          | cons a b =>
            cases b with
            | cons b c =>
              cases c
              obtain ⟨b', rfl, hb⟩ := freeT a hk.2
              exact ⟨_ :: as, (k, _) :: kvs, rfl, .cons ⟨b', t1.sq, hb⟩ h1, .cons b h2⟩
      · cases e
    · cases e
theorem pairedT_up {K : PySem.W.Frag} {G H : Hp} (s : Same G H) : ∀ {as : List Addr} {kvs : List (List Key × V)}, Paired (fun p (kv : List Key × V) => ∃ b, SqT K G p [V.ref b, kv.2] ∧ G b = some (.tup (kv.1.map kV))) as kvs → Paired (fun p (kv : List Key × V) => ∃ b, SqT K H p [V.ref b, kv.2] ∧ H b = some (.tup (kv.1.map kV))) as kvs
  | _, _, .nil => .nil
  | _, _, .cons a b => .cons (let ⟨c, h1, h2⟩ := a; ⟨c, Same.sqT s h1, s _ _ h2⟩) (pairedT_up s b)
theorem mergeT_rp {K : PySem.W.Frag} {G : Hp} : ∀ {kvs : List (List Key × V)} {ps : List (D × D)} {acc : List (List Key × V)} {bcc : List (D × D)}, RpKT K G kvs ps → RpKT K G acc bcc → RpKT K G (mergeT acc kvs) (ps.foldl (fun a p => dput a p.1 p.2) bcc)
  | _, _, _, _, .nil, h => h
  | _, _, acc, bcc, .cons (k := k) (v := v) (ks := ks) (d := d) (kvs := kvs) a r, h => show RpKT K G (mergeT (putK acc k v) ks) (kvs.foldl (fun a p => dput a p.1 p.2) (dput bcc (keyTD k) d)) from mergeT_rp r (h.put k a)
theorem RpCs.three {K : PySem.W.Frag} {G H : Hp} {vs : List V} {c d e : D} (h : RpCs K G H vs [c, d, e]) : ∃ u v w, vs = [u, v, w] ∧ RpC K G H u c ∧ RpC K G H v d ∧ RpC K G H w e := by
  cases h with
  | cons a b => obtain ⟨v, w, rfl, h⟩ := RpCs.two b; exact ⟨_, _, _, rfl, a, h⟩
def BltOk (K : PySem.W.Frag) (r : List V → Hp → VK → Prop) (b : Blt) : Prop := ∀ (G H : Hp) (vs : List V) (ds : List D) (z : D) (Q : VK), Same G H → RpCs K G H vs ds → bltop b ds = some z → (∀ u H', (Res K G H u H' z ∨ Grow K H u H' z) → Q u H') → r vs H Q
theorem min_is {ns : List Int} {x m : Int} (h : mnL ns = some x) (hm : m ∈ ns) (hl : ∀ y, y ∈ ns → m ≤ y) : m = x := by
  cases ns with
  | nil => cases h
  | cons a r =>
    have e : List.foldl min a r = x := Option.some.inj h
    have gen : ∀ (r : List Int) (a : Int), (List.foldl min a r ∈ a :: r) ∧ ∀ y ∈ a :: r, List.foldl min a r ≤ y := by
      intro r
      induction r with
      | nil => intro a; simp
      | cons b r ih =>
        intro a
        have q := ih (min a b)
        rw [List.foldl_cons]
        constructor
        · rcases List.mem_cons.mp q.1 with z | z
          · rw [z]
            by_cases c : a ≤ b
            · rw [Int.min_eq_left c]; simp
            · rw [Int.min_eq_right (by omega)]; simp
          · simp [z]
        · intro y hy
          have q0 := q.2 (min a b) List.mem_cons_self
          rcases List.mem_cons.mp hy with rfl | hy
          · omega
          · rcases List.mem_cons.mp hy with rfl | hy
            · omega
            · exact q.2 y (List.mem_cons_of_mem _ hy)
    have g := gen r a
    rw [e] at g
    have h1 := hl x g.1
    have h2 := g.2 m hm
    omega
theorem max_is {ns : List Int} {x m : Int} (h : mxL ns = some x) (hm : m ∈ ns) (hl : ∀ y, y ∈ ns → y ≤ m) : m = x := by
  cases ns with
  | nil => cases h
  | cons a r =>
    have e : List.foldl max a r = x := Option.some.inj h
    have gen : ∀ (r : List Int) (a : Int), (List.foldl max a r ∈ a :: r) ∧ ∀ y ∈ a :: r, y ≤ List.foldl max a r := by
      intro r
      induction r with
      | nil => intro a; simp
      | cons b r ih =>
        intro a
        have q := ih (max a b)
        rw [List.foldl_cons]
        constructor
        · rcases List.mem_cons.mp q.1 with z | z
          · rw [z]
            by_cases c : a ≤ b
            · rw [Int.max_eq_right c]; simp
            · rw [Int.max_eq_left (by omega)]; simp
          · simp [z]
        · intro y hy
          have q0 := q.2 (max a b) List.mem_cons_self
          rcases List.mem_cons.mp hy with rfl | hy
          · omega
          · rcases List.mem_cons.mp hy with rfl | hy
            · omega
            · exact q.2 y (List.mem_cons_of_mem _ hy)
    have g := gen r a
    rw [e] at g
    have h1 := hl x g.1
    have h2 := g.2 m hm
    omega
theorem mnL_pos {ns : List Int} {x : Int} (h : mnL ns = some x) : 0 < ns.length := by cases ns <;> simp [mnL] at h ⊢
theorem mxL_pos {ns : List Int} {x : Int} (h : mxL ns = some x) : 0 < ns.length := by cases ns <;> simp [mxL] at h ⊢
theorem RpC.seen {K : PySem.W.Frag} {G H : Hp} {v : V} {d : D} (h : RpC K G H v d) (f : flatD d = true) : Rp K G v d := by
  rcases h with h | ⟨a, rfl, h⟩
  · exact h
  · cases d <;> first | exact False.elim h | cases f
theorem flat_C {d : D} (f : flatD d = true) : isC d = false := by cases d <;> first | rfl | cases f
theorem ordB_of {xs : List D} (h : ordB xs = true) : okds xs 39 = true ∧ AlkB xs = true ∧ xs.all flatD = true := by
  unfold ordB at h
  simp only [Bool.and_eq_true] at h
  exact ⟨h.1.1, h.1.2, h.2⟩
theorem RpAll.dpA {K : PySem.W.Frag} {G H : Hp} (s : Same G H) {vs : List V} {ds : List D} (h : RpAll K G vs ds) (o : okds ds 39 = true) : DpAll K H vs ds := RpAll.dp s ds 39 vs h o
theorem ordB_ints : ∀ ns : List Int, ordB (ns.map .int) = true := fun ns => by
  have h1 : ∀ ns : List Int, okds (ns.map .int) 39 = true := fun ns => by
    induction ns with
    | nil => rfl
    | cons n r ih => rw [List.map_cons, okds, ih]; rfl
  unfold ordB AlkB
  rw [h1]
  simp only [Bool.true_and, Bool.and_eq_true, List.all_eq_true, List.mem_map, forall_exists_index, and_imp, forall_apply_eq_imp_iff₂]
  exact ⟨fun a _ => ⟨fun b _ => rfl, rfl⟩, fun a _ => rfl⟩
theorem intsOf_map : ∀ {xs : List D} {ns : List Int}, intsOf xs = some ns → xs = ns.map .int
  | [], ns, h => by simp [intsOf] at h; subst h; rfl
  | x :: r, ns, h => by
    cases x <;> simp only [intsOf] at h <;> first | (cases h; done) | skip
    rw [Option.map_eq_some_iff] at h
    obtain ⟨ms, h1, rfl⟩ := h
    rw [intsOf_map h1]; rfl
theorem mnD_of {xs : List D} {z : D} (h : mnD xs = some z) : ∃ x r, xs = x :: r ∧ ordB xs = true ∧ z = PySem.W.minD x r := by
  unfold mnD at h
  split at h
  · rename_i ns hn
    have e := intsOf_map hn
    cases ns with
    | nil => cases h
    | cons n r =>
      cases h
      exact ⟨.int n, r.map .int, e, by rw [e]; exact ordB_ints _, (PySem.W.minD_ints n r).symm⟩
  · split at h
    · split at h
      · cases h; exact ⟨_, _, rfl, by assumption, rfl⟩
      · cases h
    · cases h
theorem mxD_of {xs : List D} {z : D} (h : mxD xs = some z) : ∃ x r, xs = x :: r ∧ ordB xs = true ∧ z = PySem.W.maxD x r := by
  unfold mxD at h
  split at h
  · rename_i ns hn
    have e := intsOf_map hn
    cases ns with
    | nil => cases h
    | cons n r =>
      cases h
      exact ⟨.int n, r.map .int, e, by rw [e]; exact ordB_ints _, (PySem.W.maxD_ints n r).symm⟩
  · split at h
    · split at h
      · cases h; exact ⟨_, _, rfl, by assumption, rfl⟩
      · cases h
    · cases h
/-- the item that was picked -/
theorem pick_end {K : PySem.W.Frag} {G H : Hp} (s : Same G H) {a : Addr} {xs : List V} {ds : List D} {f : D → List D → D} {z : D} {Q : VK} (hs : SqL K H a xs ∨ SqT K H a xs) (r : RpAll K G xs ds) (h : ∃ x t, ds = x :: t ∧ ordB ds = true ∧ z = f x t) (hm : ∀ x t, f x t ∈ x :: t)
    (q : ∀ u H', Res K G H u H' z → Q u H') : rPick K f [.ref a] H Q := by
  obtain ⟨x, t, rfl, o, rfl⟩ := h
  obtain ⟨o1, o2, o3⟩ := ordB_of o
  refine ⟨a, xs, x, t, rfl, hs, r.dpA s o1, o2, by have := (okds_lay _ 39 o1).2; omega, fun i v hi hd => q v H (.inr ⟨flat_C ?_, rfl, ?_⟩)⟩
  · rw [List.all_eq_true] at o3
    exact o3 _ (hm x t)
  · obtain ⟨v', h1, h2⟩ := r.get hd
    rw [hi] at h1; cases h1
    exact h2
theorem two_end {K : PySem.W.Frag} {G H : Hp} (s : Same G H) {v w : V} {x y z : D} {f : D → D → Bool} {Q : VK} (hv : RpC K G H v x) (hw : RpC K G H w y) (h : (if ordB [x, y] then some (if f x y = true then y else x) else none) = some z) (q : ∀ u H', Res K G H u H' z → Q u H') : rTwo K f [v, w] H Q := by
  split at h
  · rename_i o
    cases h
    obtain ⟨o1, o2, o3⟩ := ordB_of o
    simp only [okds, Bool.and_eq_true] at o1
    simp only [List.all_cons, List.all_nil, Bool.and_true, Bool.and_eq_true] at o3
    have od : okds [x, y] 39 = true := by simp [okds, o1.1, o1.2.1]
    refine ⟨v, w, x, y, rfl, Rp.dp (Same.refl H) x 39 v (hv.toH s) o1.1, Rp.dp (Same.refl H) y 39 w (hw.toH s) o1.2.1, o2, by have := (okds_lay _ 39 od).2; omega, ?_⟩
    split
    · exact q _ _ (.inr ⟨by split <;> first | exact flat_C o3.2 | contradiction, rfl, by split <;> first | exact hw.seen o3.2 | contradiction⟩)
    · exact q _ _ (.inr ⟨by split <;> first | exact flat_C o3.1 | contradiction, rfl, by split <;> first | exact hv.seen o3.1 | contradiction⟩)
  · cases h
theorem nuMin3_int (i j k : Int) : nuMin3 (.int i) (.int j) (.int k) = some (.int (if k < (if j < i then j else i) then k else if j < i then j else i)) := by
  have h : ∀ a b : Int, nuMin2 (.int a) (.int b) = some (.int (if b < a then b else a)) := fun a b => by
    show (some (decide (b < a))).map (fun c => if c = true then V.int b else V.int a) = _
    rw [Option.map_some]
    by_cases c : b < a
    · rw [if_pos (decide_eq_true c), if_pos c]
    · rw [if_neg (by simpa using c), if_neg c]
  show (nuMin2 (.int i) (.int j)).bind (fun m => nuMin2 m (.int k)) = _
  rw [h i j]
  exact h _ k
theorem blt_ok (hc : X.calm = true) (hu : X.A.units + 65 < cLine) (b : Blt) : ∃ r, CallR X (bltV b) r ∧ BltOk X.K r b := by
  cases b with
  | abs =>
    refine ⟨_, call_abs, fun G H vs ds z Q s h e qg => ?_⟩
    have q : ∀ u H', Res X.K G H u H' z → Q u H' := fun u H' r => qg u H' (.inl r)
    unfold bltop at e
    split at e <;> first | contradiction | skip
    cases e
    obtain ⟨v, rfl, hv⟩ := h.one
    exact ⟨_, by rw [hv.int], q _ _ .int⟩
  | int =>
    refine ⟨_, call_int1, fun G H vs ds z Q s h e qg => ?_⟩
    have q : ∀ u H', Res X.K G H u H' z → Q u H' := fun u H' r => qg u H' (.inl r)
    unfold bltop at e
    split at e <;> first | contradiction | skip
    · cases e
      obtain ⟨v, rfl, hv⟩ := h.one
      exact .inl ⟨_, by rw [hv.int], q _ _ .int⟩
    · cases e
      obtain ⟨v, rfl, hv⟩ := h.one
      exact .inr ⟨_, by rw [hv.bl], q _ _ .int⟩
  | len =>
    refine ⟨_, call_len.or call_lenK, fun G H vs ds z Q s h e qg => ?_⟩
    have q : ∀ u H', Res X.K G H u H' z → Q u H' := fun u H' r => qg u H' (.inl r)
    unfold bltop at e
    split at e <;> first | contradiction | skip
    · cases e
      obtain ⟨v, rfl, hv⟩ := h.one
      obtain ⟨l, xs, rfl, hl, r⟩ := hv.list s
      exact .inl ⟨_, xs.length, rfl, .inl ⟨xs, SqL.of hl, rfl⟩, by rw [r.len]; exact q _ _ .int⟩
    · cases e
      obtain ⟨v, rfl, hv⟩ := h.one
      obtain ⟨l, xs, rfl, hl, r⟩ := hv.tuple s
      exact .inl ⟨_, xs.length, rfl, .inr ⟨xs, hl, rfl⟩, by rw [r.len]; exact q _ _ .int⟩
    · cases e
      obtain ⟨v, rfl, hv⟩ := h.one
      obtain ⟨l, xs, rfl, hl, r⟩ := hv.frz s
      exact .inl ⟨_, xs.length, rfl, .inl ⟨xs, hl, rfl⟩, by rw [r.len]; exact q _ _ .int⟩
    · split at e
      · rename_i kvs hk
        cases e
        obtain ⟨v, rfl, hv⟩ := h.one
        obtain ⟨a, ks, rfl, h1, h2⟩ := hv.dict s hk
        exact .inr ⟨a, ks, rfl, h1, by rw [h2.len]; exact q _ _ .int⟩
      · cases e
    · split at e
      · rename_i hz
        cases e
        obtain ⟨v, rfl, hv⟩ := h.one
        rw [hv.str]
        exact .inl ⟨_, _, rfl, ⟨by rw [sl_eq]; exact hz, rfl⟩, q _ _ .int⟩
      · cases e
  | min2 =>
    refine ⟨_, cr_or ((call_min2 hc).or (cr_min2D hc hu)) (call_min3Nu hc), fun G H vs ds z Q s h e qg => ?_⟩
    have q : ∀ u H', Res X.K G H u H' z → Q u H' := fun u H' r => qg u H' (.inl r)
    unfold bltop at e
    split at e <;> first | contradiction | skip
    · cases e
      obtain ⟨v, w, rfl, h1, h2⟩ := h.two
      exact .inl (.inl ⟨_, _, by rw [h1.int, h2.int], q _ _ .int⟩)
    · obtain ⟨v, w, rfl, h1, h2⟩ := h.two
      exact .inl (.inr (two_end (f := fun x y => PySem.W.dataLt y x) s h1 h2 e q))
    · rename_i i j k
      cases e
      obtain ⟨u, v, w, rfl, h1, h2, h3⟩ := h.three
      exact .inr ⟨_, _, _, _, rfl, by rw [h1.int, h2.int, h3.int, nuMin3_int], q _ _ .int⟩
  | max2 =>
    refine ⟨_, (call_max2 hc).or (cr_max2D hc hu), fun G H vs ds z Q s h e qg => ?_⟩
    have q : ∀ u H', Res X.K G H u H' z → Q u H' := fun u H' r => qg u H' (.inl r)
    unfold bltop at e
    split at e <;> first | contradiction | skip
    · cases e
      obtain ⟨v, w, rfl, h1, h2⟩ := h.two
      exact .inl ⟨_, _, by rw [h1.int, h2.int], q _ _ .int⟩
    · obtain ⟨v, w, rfl, h1, h2⟩ := h.two
      exact .inr (two_end (f := fun x y => PySem.W.dataLt x y) s h1 h2 e q)
  | mn =>
    refine ⟨_, cr_mnD hc hu, fun G H vs ds z Q s h e qg => ?_⟩
    have q : ∀ u H', Res X.K G H u H' z → Q u H' := fun u H' r => qg u H' (.inl r)
    unfold bltop at e
    split at e <;> first | contradiction | skip
    · obtain ⟨v, rfl, hv⟩ := h.one
      obtain ⟨l, xs, rfl, hl, r⟩ := hv.list s
      exact pick_end s (.inl (SqL.of hl)) r (mnD_of e) minD_mem q
    · obtain ⟨v, rfl, hv⟩ := h.one
      obtain ⟨l, xs, rfl, hl, r⟩ := hv.tuple s
      exact pick_end s (.inr hl) r (mnD_of e) minD_mem q
  | mx =>
    refine ⟨_, cr_mxD hc hu, fun G H vs ds z Q s h e qg => ?_⟩
    have q : ∀ u H', Res X.K G H u H' z → Q u H' := fun u H' r => qg u H' (.inl r)
    unfold bltop at e
    split at e <;> first | contradiction | skip
    · obtain ⟨v, rfl, hv⟩ := h.one
      obtain ⟨l, xs, rfl, hl, r⟩ := hv.list s
      exact pick_end s (.inl (SqL.of hl)) r (mxD_of e) maxD_mem q
    · obtain ⟨v, rfl, hv⟩ := h.one
      obtain ⟨l, xs, rfl, hl, r⟩ := hv.tuple s
      exact pick_end s (.inr hl) r (mxD_of e) maxD_mem q
  | sum =>
    refine ⟨_, (cr_sum hc).or (cr_sumT hc), fun G H vs ds z Q s h e qg => ?_⟩
    have q : ∀ u H', Res X.K G H u H' z → Q u H' := fun u H' r => qg u H' (.inl r)
    unfold bltop at e
    split at e <;> first | contradiction | skip
    · obtain ⟨v, rfl, hv⟩ := h.one
      obtain ⟨l, xs, rfl, hl, r⟩ := hv.list s
      simp only [Option.map_eq_some_iff] at e
      obtain ⟨ns, e1, rfl⟩ := e
      rw [r.ints e1] at hl
      exact .inl ⟨l, ns, rfl, SqL.of hl, q _ _ .int⟩
    · obtain ⟨v, rfl, hv⟩ := h.one
      obtain ⟨l, xs, rfl, hl, r⟩ := hv.tuple s
      simp only [Option.map_eq_some_iff] at e
      obtain ⟨ns, e1, rfl⟩ := e
      rw [r.ints e1] at hl
      exact .inr ⟨l, ns, rfl, hl, q _ _ .int⟩
  | sorted =>
    refine ⟨_, cr_or (cr_sortedD hu) (cr_or (call_sortedDI hc) (cr_or (call_sortedD hc) (cr_sortedT hc hu))), fun G H vs ds z Q s h e qg => ?_⟩
    have q : ∀ u H', Res X.K G H u H' z → Q u H' := fun u H' r => qg u H' (.inl r)
    unfold bltop at e
    split at e <;> first | contradiction | skip
    · split at e
      · rename_i o
        cases e
        simp only [Bool.and_eq_true] at o
        obtain ⟨v, rfl, hv⟩ := h.one
        obtain ⟨l, xs, rfl, hl, r⟩ := hv.list s
        refine .inl ⟨l, xs, _, rfl, (.inl (SqL.of hl)), r.dpA s o.1.1, o.1.2, o.2, by have := (okds_lay _ 39 o.1.1).2; omega, fun ps p hp e2 hn => ?_⟩
        rw [← e2] at q
        refine q _ _ (.lst hn ?_)
        have key : ∀ {vs : List V} {ds : List D}, RpAll X.K G vs ds → ∀ p ∈ vs.zip ds, Rp X.K G p.1 p.2 := by
          intro vs ds h
          induction vs generalizing ds with
          | nil => intro p hp; simp at hp
          | cons v t ih =>
            cases h with
            | cons h1 h2 =>
              intro p hp
              rw [List.zip_cons_cons] at hp
              rcases List.mem_cons.mp hp with rfl | hp
              · exact h1
              · exact ih h2 p hp
        have all : ∀ ps : List (V × D), (∀ p ∈ ps, Rp X.K G p.1 p.2) → RpAll X.K G (ps.map (·.1)) (ps.map (·.2)) := by
          intro ps
          induction ps with
          | nil => intro _; exact .nil
          | cons p t ih => intro h; exact .cons (h p (by simp)) (ih fun q hq => h q (List.mem_cons_of_mem _ hq))
        exact all ps fun p hp' => key r p (hp.mem_iff.mp hp')
      · cases e
    · split at e
      · rename_i o
        cases e
        simp only [Bool.and_eq_true] at o
        obtain ⟨v, rfl, hv⟩ := h.one
        obtain ⟨l, xs, rfl, hl, r⟩ := hv.tuple s
        refine .inl ⟨l, xs, _, rfl, (.inr hl), r.dpA s o.1.1, o.1.2, o.2, by have := (okds_lay _ 39 o.1.1).2; omega, fun ps p hp e2 hn => ?_⟩
        rw [← e2] at q
        refine q _ _ (.lst hn ?_)
        have key : ∀ {vs : List V} {ds : List D}, RpAll X.K G vs ds → ∀ p ∈ vs.zip ds, Rp X.K G p.1 p.2 := by
          intro vs ds h
          induction vs generalizing ds with
          | nil => intro p hp; simp at hp
          | cons v t ih =>
            cases h with
            | cons h1 h2 =>
              intro p hp
              rw [List.zip_cons_cons] at hp
              rcases List.mem_cons.mp hp with rfl | hp
              · exact h1
              · exact ih h2 p hp
        have all : ∀ ps : List (V × D), (∀ p ∈ ps, Rp X.K G p.1 p.2) → RpAll X.K G (ps.map (·.1)) (ps.map (·.2)) := by
          intro ps
          induction ps with
          | nil => intro _; exact .nil
          | cons p t ih => intro h; exact .cons (h p (by simp)) (ih fun q hq => h q (List.mem_cons_of_mem _ hq))
        exact all ps fun p hp' => key r p (hp.mem_iff.mp hp')
      · cases e
    · split at e
      · rename_i kvs hk
        obtain ⟨v, rfl, hv⟩ := h.one
        obtain ⟨a, kv, rfl, h1, h2⟩ := hv.dict s hk
        split at e
        · rename_i ks e1
          split at e
          · rename_i h64
            cases e
            refine .inr (.inl ⟨a, kv, ks, rfl, h1, keys_int h2 e1, h64, fun ys p hp hs hn => ?_⟩)
            rw [srt_eq hp hs]
            exact q _ _ (.lst hn (rpI _))
          · cases e
        · simp only [Option.bind_eq_some_iff] at e
          obtain ⟨ks, e1, e⟩ := e
          split at e
          · rename_i h64
            cases e
            refine .inr (.inr (.inl ⟨a, kv, ks, rfl, h1, keys_str h2 e1, h64, fun ys p hp hs hn => ?_⟩))
            rw [srtS_eq hp hs]
            exact q _ _ (.lst hn (rpS _))
          · cases e
      · split at e
        · rename_i hk
          simp only [Option.bind_eq_some_iff] at e
          obtain ⟨ks, e1, e⟩ := e
          split at e
          · rename_i h64
            cases e
            obtain ⟨v, rfl, hv⟩ := h.one
            obtain ⟨a, kt, r, rfl, rfl, h1, h2⟩ := hv.dictT s hk
            refine .inr (.inr (.inr ⟨a, kt, ks, rfl, h1, keysT_int h2 e1, h64, fun L p hL hs hn => ?_⟩))
            refine qg _ _ (.inr ⟨p, L, hn, rfl, rfl, ?_, hL⟩)
            rw [← hs, List.map_map]
            rfl
          · cases e
        · cases e
  | all =>
    refine ⟨_, cr_all hc, fun G H vs ds z Q s h e qg => ?_⟩
    have q : ∀ u H', Res X.K G H u H' z → Q u H' := fun u H' r => qg u H' (.inl r)
    unfold bltop at e
    split at e <;> first | contradiction | skip
    obtain ⟨v, rfl, hv⟩ := h.one
    obtain ⟨l, xs, rfl, hl, r⟩ := hv.list s
    simp only [Option.map_eq_some_iff] at e
    obtain ⟨ns, e1, rfl⟩ := e
    rw [r.bools e1] at hl
    exact ⟨l, ns, rfl, SqL.of hl, q _ _ .bl⟩
  | any =>
    refine ⟨_, cr_any hc, fun G H vs ds z Q s h e qg => ?_⟩
    have q : ∀ u H', Res X.K G H u H' z → Q u H' := fun u H' r => qg u H' (.inl r)
    unfold bltop at e
    split at e <;> first | contradiction | skip
    obtain ⟨v, rfl, hv⟩ := h.one
    obtain ⟨l, xs, rfl, hl, r⟩ := hv.list s
    simp only [Option.map_eq_some_iff] at e
    obtain ⟨ns, e1, rfl⟩ := e
    rw [r.bools e1] at hl
    exact ⟨l, ns, rfl, SqL.of hl, q _ _ .bl⟩
  | tuple =>
    refine ⟨_, call_tuple_of, fun G H vs ds z Q s h e qg => ?_⟩
    have q : ∀ u H', Res X.K G H u H' z → Q u H' := fun u H' r => qg u H' (.inl r)
    unfold bltop at e
    split at e <;> first | contradiction | skip
    · cases e
      obtain ⟨v, rfl, hv⟩ := h.one
      obtain ⟨l, xs, rfl, hl, r⟩ := hv.list s
      exact ⟨l, xs, rfl, .inl ⟨SqL.of hl, fun p hp => q _ _ (.tup hp r)⟩⟩
    · cases e
      obtain ⟨v, rfl, hv⟩ := h.one
      have hs := hv.seenT
      obtain ⟨l, xs, rfl, hl, r⟩ := hv.tuple s
      exact ⟨l, xs, rfl, .inr ⟨hl, q _ _ (.inr ⟨rfl, rfl, hs⟩)⟩⟩
  | list =>
    refine ⟨_, cr_or call_list_of (call_listD hc), fun G H vs ds z Q s h e qg => ?_⟩
    have q : ∀ u H', Res X.K G H u H' z → Q u H' := fun u H' r => qg u H' (.inl r)
    unfold bltop at e
    split at e <;> first | contradiction | skip
    · cases e
      obtain ⟨v, rfl, hv⟩ := h.one
      obtain ⟨l, xs, rfl, hl, r⟩ := hv.list s
      exact .inl ⟨l, xs, rfl, .inl (SqL.of hl), fun p hp => q _ _ (.lst hp r)⟩
    · cases e
      obtain ⟨v, rfl, hv⟩ := h.one
      obtain ⟨l, xs, rfl, hl, r⟩ := hv.tuple s
      exact .inl ⟨l, xs, rfl, .inr hl, fun p hp => q _ _ (.lst hp r)⟩
    · split at e
      · rename_i kvs hk
        cases e
        obtain ⟨v, rfl, hv⟩ := h.one
        obtain ⟨a, ks, rfl, h1, h2⟩ := hv.dict s hk
        exact .inr ⟨a, ks, rfl, h1, fun p hp => q _ _ (.lst hp (keys_rp h2))⟩
      · cases e
  | dict =>
    refine ⟨_, cr_or call_dictD (call_dictP hc), fun G H vs ds z Q s h e qg => ?_⟩
    have q : ∀ u H', Res X.K G H u H' z → Q u H' := fun u H' r => qg u H' (.inl r)
    unfold bltop at e
    split at e <;> first | contradiction | skip
    · split at e
      · rename_i kvs hk
        cases e
        obtain ⟨v, rfl, hv⟩ := h.one
        obtain ⟨a, ks, rfl, h1, h2⟩ := hv.dict s hk
        exact .inl ⟨a, ks, rfl, h1, fun p hp => q _ _ (.dK hp h2)⟩
      · cases e
    · simp only [Option.map_eq_some_iff] at e
      obtain ⟨ps, e1, rfl⟩ := e
      obtain ⟨v, rfl, hv⟩ := h.one
      obtain ⟨l, xs, rfl, hl, r⟩ := hv.list s
      obtain ⟨as, kvs, rfl, h1, h2⟩ := prs_rp r e1
      refine .inr ⟨l, as, kvs, rfl, SqL.of hl, paired_up s h1, fun p hp => q _ _ (.dK hp ?_)⟩
      exact merge_rp h2 .nil
  | dictT =>
    refine ⟨_, cr_dictT hc hu, fun G H vs ds z Q s h e qg => ?_⟩
    have q : ∀ u H', Res X.K G H u H' z → Q u H' := fun u H' r => qg u H' (.inl r)
    unfold bltop at e
    split at e <;> first | contradiction | skip
    simp only [Option.map_eq_some_iff] at e
    obtain ⟨ps, e1, rfl⟩ := e
    obtain ⟨v, rfl, hv⟩ := h.one
    obtain ⟨l, xs, rfl, hl, r⟩ := hv.list s
    obtain ⟨as, kvs, rfl, h1, h2⟩ := prsT_rp r e1
    exact ⟨l, as, kvs, rfl, SqL.of hl, pairedT_up s h1, fun p hp => q _ _ (.dO hp (.inr ⟨_, _, rfl, rfl, mergeT_rp h2 .nil⟩))⟩
end
end Pv

set_option Elab.async false
set_option linter.all false
set_option maxRecDepth 100000
set_option maxHeartbeats 4000000
/-! PvEr: xs[::-1] of a list or a tuple. -/
namespace Pv
open PySem PySem.Spec PyProof.Rows L2 HT
section
variable {prog : Program} {w : World} {A : Around} {E : Value → Shared → Prop} {s : Shared}
theorem adjust_rev (n : Nat) : Builtin.Slice.sliceAdjust none none (-1) (n : Int) = ((n : Int) - 1, -1) := by
  unfold Builtin.Slice.sliceAdjust
  simp
theorem places_rev (n : Nat) : Builtin.Slice.slicePlaces ((n : Int) - 1) (-1) (-1) = n := by
  unfold Builtin.Slice.slicePlaces
  rw [if_neg (by omega)]
  split
  · rw [show -(-1 : Int) = 1 by omega, Int.ediv_one]; omega
  · omega
theorem fm_some {α β : Type} {f : α → Option β} {g : α → β} : ∀ {l : List α}, (∀ m ∈ l, f m = some (g m)) → l.filterMap f = l.map g
  | [], _ => rfl
  | x :: r, h => by rw [List.filterMap_cons, h x List.mem_cons_self, List.map_cons, fm_some fun m hm => h m (List.mem_cons_of_mem _ hm)]
theorem pick_rev (xs : Array Value) : ((List.range xs.size).filterMap fun (m : Nat) => xs[(((xs.size : Nat) : Int) - 1 + (m : Int) * -1).toNat]?).toArray = xs.toList.reverse.toArray := by
  congr 1
  apply List.ext_getElem?
  intro i
  have e : ∀ m ∈ List.range xs.size, xs[(((xs.size : Nat) : Int) - 1 + (m : Int) * -1).toNat]? = some (xs.toList.reverse.getD m Value.none) := by
    intro m hm
    have hm : m < xs.size := by simpa using hm
    have e1 : (((xs.size : Nat) : Int) - 1 + (m : Int) * -1).toNat = xs.size - 1 - m := by omega
    rw [e1, List.getD_eq_getElem?_getD, List.getElem?_reverse (by simpa using hm)]
    have e2 : xs.size - 1 - m < xs.size := by omega
    rw [Array.getElem?_eq_getElem e2, Array.length_toList, List.getElem?_eq_getElem (by simpa using e2)]
    rfl
  have e3 : (List.range xs.size).filterMap (fun (m : Nat) => xs[(((xs.size : Nat) : Int) - 1 + (m : Int) * -1).toNat]?) = (List.range xs.size).map fun m => xs.toList.reverse.getD m Value.none := by
    exact fm_some e
  rw [e3, List.getElem?_map]
  by_cases hi : i < xs.size
  · rw [List.getElem?_range hi]
    have : i < xs.toList.reverse.length := by simpa using hi
    rw [List.getElem?_eq_getElem this, Option.map_some, List.getD_eq_getElem?_getD, List.getElem?_eq_getElem this]
    rfl
  · rw [List.getElem?_eq_none (by simpa using hi), List.getElem?_eq_none (by simpa using hi)]
    rfl
theorem getItem_tuple_rev {t sl : Addr} {items : Array Value} {vl vu vs : Value} {Q : Value → Shared → Prop} (ht : IsTup s.heap t items) (hs : s.heap.IsSliceOf sl vl vu vs) (pl : IsPart vl none) (pu : IsPart vu none) (ps : IsPart vs (some (-1)))
    (h : Q (.ref s.heap.objs.size) { s with heap := s.heap.push { cls := .type "tuple", data := .seq items.toList.reverse.toArray } })
    (hsz : items.size ≤ sizeLine) : wpAny (model prog w) A (getItem (.ref t) (.ref sl)) Q E s := by
  have htake : sizeOk (.seq items.toList.reverse.toArray) := by
    show items.toList.reverse.toArray.size ≤ sizeLine
    rw [List.size_toArray, List.length_reverse, Array.length_toList]
    exact hsz
  obtain ⟨os, hos, hcs, hds⟩ := id hs
  have hTs : s.TypeIs (.ref sl) "slice" := ⟨os, hos, hcs⟩
  unfold getItem
  try with_reducible refine wpAny_holding ?_
  first | refine wpAny_bind (wpAny_pure ?_) | skip
  refine wpAny_bind (wpAny_sequenceKey ht.typeIs (by decide) ?_)
  refine wpAny_bind (wpAny_callSpecial?_slot (name := Str.ofString "__getitem__") ht.typeIs PyProof.Rows.slot_tuple_getitem
    (wpAny_call_entry PyProof.Rows.slot_tuple_getitem ht.typeIs entry_tuple_getitem ?_ (args_tuple_getitem _ _)))
  show wpAny _ _ (Builtin.Tuple.tupleItemsOf (.ref t) >>= _) _ _ s
  refine wpAny_bind (tupleItemsOf_ ht ?_)
  refine wpAny_bind (wpAny_typeOf hTs ?_)
  rw [if_pos (by decide)]
  refine wpAny_bind ?_
  · unfold Builtin.Slice.sliceApplied Builtin.Slice.sliceFields
    refine wpAny_bind (wpAny_bind (wpAny_field hos hds (x := vl) rfl (wpAny_bind (wpAny_field hos hds (x := vu) rfl (wpAny_bind (wpAny_field hos hds (x := vs) rfl (wpAny_pure ?_)))))))
    refine wpAny_bind (slicePart_ ps ?_)
    show wpAny _ _ (if ((-1 : Int) == 0) = true then _ else _) _ _ s
    rw [if_neg (by decide)]
    refine wpAny_bind (slicePart_ pl (wpAny_bind (slicePart_ pu (wpAny_bind (wpAny_pure ?_)))))
    show wpAny _ _ (match Builtin.Slice.sliceAdjust none none (-1) (items.size : Int) with | (lo, hi) => pure (lo, (-1 : Int), Builtin.Slice.slicePlaces lo hi (-1))) _ _ s
    rw [adjust_rev]
    show wpAny _ _ (pure ((items.size : Int) - 1, (-1 : Int), Builtin.Slice.slicePlaces ((items.size : Int) - 1) (-1) (-1))) _ _ s
    rw [places_rev]
    refine wpAny_pure ?_
    have hno : ¬ ((((items.size : Int) - 1) == 0 && (-1 : Int) == 1 && items.size == items.size) = true) := by simp
    show wpAny _ _ (if (((items.size : Int) - 1) == 0 && (-1 : Int) == 1 && items.size == items.size) = true then _ else _) _ _ s
    rw [if_neg hno, pick_rev]
    first
      | exact wpAny_bind (m := Builtin.Tuple.tupleExact _) (wpAny_newObj_type (wpAny_pure ⟨_, rfl, wpAny_pure h⟩) htake)
      | exact wpAny_bind (m := Builtin.Tuple.tupleExact _) (wpAny_newObj_type (wpAny_bind (wpAny_pure (wpAny_pure ⟨_, rfl, wpAny_pure h⟩))) htake)
      | exact wpAny_bind (wpAny_bind (m := Builtin.Tuple.tupleExact _) (wpAny_newObj_type (wpAny_pure (wpAny_pure ⟨_, rfl, wpAny_pure h⟩)) htake))
      | exact wpAny_bind (wpAny_bind (m := Builtin.Tuple.tupleExact _) (wpAny_newObj_type (wpAny_pure ⟨_, rfl, wpAny_pure h⟩) htake))
end
section
variable {X : Cx}
def tRevT (K : PySem.W.Frag) (te : TE) : TE := fun σ H Q => te σ H fun x H1 => ∃ a xs, x = .ref a ∧ ((SqL K H1 a xs ∧ ∀ p, H1 p = none → Q (.ref p) (upd H1 p (.lst xs.reverse))) ∨ (SqT K H1 a xs ∧ ∀ p, H1 p = none → Q (.ref p) (upd H1 p (.tup xs.reverse))))
theorem pe_rev {e : Expr} {te : TE} {k : Nat} {p1 p2 p3 pos : Pos} (he : PE X e te) : PE X (.Subscript e (.Slice none none (some (.UnaryOp .USub (.Constant (.int 1) k p1) p2)) p3) pos) (tRevT X.K te) := by
  refine ⟨fun pins s σ H Q I h => ?_⟩
  refine Subscript_ (thn (he.run pins s σ H _ I h) fun v s1 ⟨x, H1, I1, r1, q1⟩ => ?_)
  obtain ⟨a, xs, ex, q⟩ := q1
  subst ex
  cases r1
  have hst : PO X (some (.UnaryOp .USub (.Constant (.int 1) k p1) p2)) (tPart (tUn (rU fun i => .int (-i)) (tC (.int 1)))) := po_some (pe_un un_neg pe_int)
  refine wpAny_Slice (thn (po_none.run pins s1 σ H1 (fun o H2 => o = none ∧ H2 = H1) I1 ⟨rfl, rfl⟩) fun vl s2 ⟨l, H2, I2, pl, el, e2⟩ => ?_)
  subst el e2
  refine thn (po_none.run pins s2 σ H2 (fun o H3 => o = none ∧ H3 = H2) I2 ⟨rfl, rfl⟩) fun vu s3 ⟨u, H3, I3, pu, eu, e3⟩ => ?_
  subst eu e3
  refine thn (hst.run pins s3 σ H3 (fun o H4 => o = some (-1) ∧ H4 = H3) I3 ⟨1, rfl, -1, rfl, rfl, rfl⟩) fun vs s4 ⟨o, H4, I4, ps, eo, e4⟩ => ?_
  subst eo e4
  have I5 : Inv X pins σ H4 { s4 with heap := s4.heap.push { cls := .type "slice", data := .fields #[vl, vu, vs] } } := I4.kept (t' := s4.toks) fun b ob q => Heap.get?_push_of_some _ q
  show wpAny (model X.prog X.w) X.A (subscriptTail e (.Slice none none (some (.UnaryOp .USub (.Constant (.int 1) k p1) p2)) p3) (.ref a) (.ref s4.heap.objs.size)) (EP X pins σ Q) X.xe { s4 with heap := s4.heap.push { cls := .type "slice", data := .fields #[vl, vu, vs] } }
  rcases q with ⟨hx, q⟩ | ⟨hx, q⟩
  · obtain ⟨its, r, ht, hz⟩ := I5.list hx
    have hlen := r.length
    refine tail_any (ops := [.ref a, .ref s4.heap.objs.size]) ht.isList.typeIs (PySem.slot_list_getitem.lookup) ?_ (by with_unfolding_all rfl)
    refine wpAny_getItem_list_slice ht.isList (Heap.IsSliceOf.new _ vl vu vs) pl pu ps (by decide) ?_ (by rw [List.size_toArray]; omega)
    rw [PySem.W.krv_pick]
    refine ⟨.ref _, _, I5.laid (t' := s4.toks) (o := .lst xs.reverse) (fun b ob q => Heap.get?_push_of_some _ q) (Nat.le_refl _) ?_, rfl, q _ (I5.hok.fresh (Nat.le_refl _))⟩
    exact ⟨by rw [List.length_reverse]; exact hz, _, 0, r.reverse, Heap.get?_push_size _ rfl⟩
  · obtain ⟨its, r, ht, hz⟩ := I5.tuple hx
    have hlen := r.length
    refine tail_any (ops := [.ref a, .ref s4.heap.objs.size]) ht.typeIs (PyProof.Rows.slot_tuple_getitem.lookup) ?_ (by with_unfolding_all rfl)
    refine getItem_tuple_rev ht (Heap.IsSliceOf.new _ vl vu vs) pl pu ps ?_ (by rw [List.size_toArray]; omega)
    refine ⟨.ref _, _, I5.laid (t' := s4.toks) (o := .tup xs.reverse) (fun b ob q => Heap.get?_push_of_some _ q) (Nat.le_refl _) ?_, rfl, q _ (I5.hok.fresh (Nat.le_refl _))⟩
    exact ⟨by rw [List.length_reverse]; exact hz, _, r.reverse, IsTup.new _ _⟩
end
end Pv

set_option Elab.async false
set_option linter.all false
set_option maxRecDepth 100000
set_option maxHeartbeats 1000000
/-! PvF: readings of expressions by the interpreter; one rule a construct. -/
namespace Pv
open PySem PySem.Spec L2

def TokR (K : PySem.W.Frag) (G : Hp) (σ : St) (v : V) : Tok → Prop
  | .val d => Rp K G v d
  | .bor i => σ[i]? = some (some v)
def tE (K : PySem.W.Frag) (B : Bs) (C : Ctx) (ir : IR) : TE := fun σ H Q => ∃ G E d E', Frm K B G H E σ ∧ ev C ir E = some (d, E') ∧ ∀ v G' H', Frm K B G' H' E' σ → Ext σ E E' G H G' H' → Rp K G' v d → Q v H'
def tO (K : PySem.W.Frag) (B : Bs) (C : Ctx) (ir : IR) : TE := fun σ H Q => ∃ G E t E', Frm K B G H E σ ∧ opd ir (ev C ir) E = some (t, E') ∧ ∀ v G' H', Frm K B G' H' E' σ → Ext σ E E' G H G' H' → TokR K G' σ v t → Q v H'
def AsgR (K : PySem.W.Frag) (B : Bs) (ir : IR) (Hs G H : Hp) (E : Env) (σ : St) (v : V) (d : D) : Prop := if isFr ir d = true then FreshR K B Hs G H E σ v d else Rp K G v d
def tA (K : PySem.W.Frag) (B : Bs) (C : Ctx) (ir : IR) : TE := fun σ H Q => ∃ G E d E', Frm K B G H E σ ∧ ev C ir E = some (d, E') ∧ ∀ v G' H', Frm K B G' H' E' σ → Ext σ E E' G H G' H' → AsgR K B ir H G' H' E' σ v d → Q v H'
def tT (K : PySem.W.Frag) (B : Bs) (C : Ctx) (ir : IR) : TT := fun σ H Q => ∃ G E b E', Frm K B G H E σ ∧ ev C ir E = some (.bool b, E') ∧ ∀ G' H', Frm K B G' H' E' σ → Ext σ E E' G H G' H' → Q b H'
def tEs (K : PySem.W.Frag) (B : Bs) (C : Ctx) (irs : List IR) : TA := fun σ H Q => ∃ G E ds E', Frm K B G H E σ ∧ evs C irs E = some (ds, E') ∧ ∀ vs G' H', Frm K B G' H' E' σ → Ext σ E E' G H G' H' → RpAll K G' vs ds → Q vs H'
def tOs (K : PySem.W.Frag) (B : Bs) (C : Ctx) (irs : List IR) : TA := fun σ H Q => ∃ G E ts E', Frm K B G H E σ ∧ evo C irs E = some (ts, E') ∧ ∀ vs G' H', Frm K B G' H' E' σ → Ext σ E E' G H G' H' → Paired (TokR K G' σ) vs ts → Q vs H'

theorem PE.imp {X : Cx} {e : Expr} {t t' : TE} (h : PE X e t) (m : ∀ σ H Q, t' σ H Q → t σ H Q) : PE X e t' := ⟨fun pins s σ H Q I h' => h.run pins s σ H Q I (m σ H Q h')⟩
theorem PT.imp {X : Cx} {e : Expr} {t t' : TT} (h : PT X e t) (m : ∀ σ H Q, t' σ H Q → t σ H Q) : PT X e t' := ⟨fun pins s σ H Q I h' => h.run pins s σ H Q I (m σ H Q h')⟩
theorem PA.imp {X : Cx} {es : List Expr} {t t' : TA} (h : PA X es t) (m : ∀ σ H Q, t' σ H Q → t σ H Q) : PA X es t' := ⟨fun pos pins s σ H Q I h' => h.run pos pins s σ H Q I (m σ H Q h')⟩
theorem PE.or {X : Cx} {e : Expr} {t t' : TE} (h : PE X e t) (h' : PE X e t') : PE X e (fun σ H Q => t σ H Q ∨ t' σ H Q) := ⟨fun pins s σ H Q I q => q.elim (h.run pins s σ H Q I) (h'.run pins s σ H Q I)⟩

structure Good (X : Cx) (B : Bs) (C : Ctx) (e : Expr) (ir : IR) : Prop where
  E : PE X e (tE X.K B C ir)
  O : PE X e (tO X.K B C ir)
  A : PE X e (tA X.K B C ir)

section
variable {K : PySem.W.Frag} {B : Bs} {G G' H H' Gs Hs : Hp} {E E' : Env} {σ : St} {C : Ctx}
theorem gets_set {i j : Nat} {s : Slot} (hi : i < E.length) : gets (E.set i s) j = if j = i then s else gets E j := by
  unfold gets
  rw [List.getD_eq_getElem?_getD, List.getD_eq_getElem?_getD, List.getElem?_set]
  by_cases h : i = j
  · subst h; simp [hi]
  · simp [h, Ne.symm h]
theorem gets_lt {i : Nat} (h : gets E i ≠ .un) : i < E.length := by
  unfold gets at h
  rw [List.getD_eq_getElem?_getD] at h
  by_cases q : i < E.length
  · exact q
  · rw [List.getElem?_eq_none (by omega)] at h
    exact absurd rfl h
theorem Frm.freeze (F : Frm K B G H E σ) {i : Nat} {d : D} {a : Addr} {y : HO} (w : gets E i = .ow d) (e : σ[i]? = some (some (.ref a))) (g : G a = none) (h0 : B.H0 a = none) (o : Own K G H a d) (x : H a = some y) :
    Frm K B (upd G a y) H (E.set i (.sh d)) σ ∧ Ext σ E (E.set i (.sh d)) G H (upd G a y) H ∧ Rp K (upd G a y) (.ref a) d := by
  have hi : i < E.length := gets_lt (by rw [w]; simp)
  have rp : Rp K (upd G a y) (.ref a) d := o.rp (same_see g) (upd_same.trans x.symm)
  have gs : ∀ j, gets (E.set i (.sh d)) j = if j = i then .sh d else gets E j := fun j => gets_set hi
  have wr : ∀ j, Wr (E.set i (.sh d)) j → Wr E j ∧ j ≠ i := fun j hj => by
    unfold Wr at hj
    rw [gs] at hj
    by_cases q : j = i
    · simp [q] at hj
    · rw [if_neg q] at hj; exact ⟨hj, q⟩
  have ne : ∀ j b, Wr E j → j ≠ i → σ[j]? = some (some (.ref b)) → b ≠ a := fun j b hj hji ej z => by
    subst z
    exact hji (F.dj j i b hj (.inl ⟨d, w⟩) ej e)
  refine ⟨⟨fun b z q => ?_, by rw [List.length_set]; exact F.len, fun j d' hj => ?_, fun j d' hj => ?_, fun j d' hj => ?_, fun j k b hj hk => F.dj j k b (wr j hj).1 (wr k hk).1, F.keep, F.iok, fun b z nt q => ?_⟩, ⟨same_see g, fun _ _ q _ => q, fun b z nt q m gb => ?_, fun j hj => (wr j hj).1, fun b z q => ⟨z, q⟩⟩, rp⟩
  · by_cases c : b = a
    · subst c; rw [upd_same] at q; rw [x]; exact q
    · rw [upd_ne c] at q; exact F.sub b z q
  · rw [gs] at hj
    by_cases q : j = i
    · subst q; simp at hj; subst hj
      exact ⟨_, e, rp⟩
    · rw [if_neg q] at hj
      obtain ⟨v, e1, r⟩ := F.sh j d' hj
      exact ⟨v, e1, r.up (same_see g)⟩
  · rw [gs] at hj
    by_cases q : j = i
    · simp [q] at hj
    · rw [if_neg q] at hj
      obtain ⟨b, e1, g1, h1, o1⟩ := F.ow j d' hj
      exact ⟨b, e1, by rw [upd_ne (ne j b (.inl ⟨_, hj⟩) q e1)]; exact g1, h1, o1.up (same_see g) rfl⟩
  · rw [gs] at hj
    by_cases q : j = i
    · simp [q] at hj
    · rw [if_neg q] at hj
      obtain ⟨b, e0, e1, g1, o1⟩ := F.io j d' hj
      exact ⟨b, e0, e1, by rw [upd_ne (ne j b (.inr ⟨_, hj⟩) q e1)]; exact g1, o1.up (same_see g) rfl⟩
  · by_cases c : b = a
    · subst c; exact .inr h0
    · rw [upd_ne c] at q; exact F.new b z nt q
  · have : b ≠ a := fun c => m ⟨i, .inl ⟨d, w⟩, by rw [c]; exact e⟩
    rw [upd_ne this]; exact gb
theorem TokR.up {v : V} {t : Tok} (s : Same G G') (h : TokR K G σ v t) : TokR K G' σ v t := by
  cases t with
  | val d => exact Rp.up s h
  | bor i => exact h
theorem TokR.cont {v : V} {t : Tok} {d : D} (h : TokR K G σ v t) (F : Frm K B G H E σ) (e : t.get E = some d) : RpC K G H v d := by
  cases t with
  | val d' => cases e; exact .inl h
  | bor i =>
    have h : σ[i]? = some (some v) := h
    simp only [Tok.get] at e
    cases w : gets E i with
    | un => rw [w] at e; cases e
    | sh d' =>
      rw [w] at e; cases e
      obtain ⟨v', e', r⟩ := F.sh i _ w
      rw [h] at e'; cases e'
      exact .inl r
    | ow d' =>
      rw [w] at e; cases e
      obtain ⟨a, e', _, _, o⟩ := F.ow i _ w
      rw [h] at e'; cases e'
      exact .inr ⟨a, rfl, o⟩
    | io d' =>
      rw [w] at e; cases e
      obtain ⟨a, _, e', _, o⟩ := F.io i _ w
      rw [h] at e'; cases e'
      exact .inr ⟨a, rfl, o⟩
theorem AsgR.toE {ir : IR} (F : Frm K B G H E' σ) (x : Ext σ E E' Gs Hs G H) {v : V} {d : D} (a : AsgR K B ir Hs G H E' σ v d) : ∃ G', Frm K B G' H E' σ ∧ Ext σ E E' Gs Hs G' H ∧ Rp K G' v d := by
  unfold AsgR at a
  split at a
  · exact a.see F x
  · exact ⟨G, F, x, a⟩
/-- an operation's end -/
theorem Res.toA {ir : IR} {u : V} {z : D} (F : Frm K B G H E' σ) (x : Ext σ E E' Gs Hs G H) (n : Res K G H u H' z) : ∃ G', Frm K B G' H' E' σ ∧ Ext σ E E' Gs Hs G' H' ∧ AsgR K B ir Hs G' H' E' σ u z := by
  by_cases c : isFr ir z = true
  · have c1 : isC z = true := by simp only [isFr, Bool.and_eq_true] at c; exact c.2
    rcases n with n | ⟨h, _, _⟩
    · obtain ⟨F', x', f⟩ := n.toA F c1
      refine ⟨G, F', x.trans x', ?_⟩
      unfold AsgR
      rw [if_pos c]
      exact f.up fun a q => x.gone q
    · rw [h] at c1; cases c1
  · obtain ⟨G', F', x', r⟩ := n.toE F
    refine ⟨G', F', x.trans x', ?_⟩
    unfold AsgR
    rw [if_neg c]
    exact r
end
section
variable {X : Cx} {B : Bs} {C : Ctx} {e a b c : Expr} {ir ia ib ic : IR} {pos : Pos}
theorem Good.ofA (h : PE X e (tA X.K B C ir)) (nv : ∀ i, ir ≠ .var i) : Good X B C e ir := by
  have hE : PE X e (tE X.K B C ir) := PE.imp h fun σ H Q ⟨G, E, d, E', F, ee, k⟩ => ⟨G, E, d, E', F, ee, fun v G' H' F' x a => by
    obtain ⟨G2, F2, x2, r⟩ := a.toE F' x
    exact k v G2 H' F2 x2 r⟩
  refine ⟨hE, PE.imp hE fun σ H Q ⟨G, E, t, E', F, ee, k⟩ => ?_, h⟩
  have q : (ev C ir E).map (fun p => (Tok.val p.1, p.2)) = some (t, E') := by
    cases ir <;> first | exact ee | exact absurd rfl (nv _)
  simp only [Option.map_eq_some_iff] at q
  obtain ⟨⟨d, E1⟩, e1, e2⟩ := q
  cases e2
  exact ⟨G, E, d, _, F, e1, fun v G' H' F' x r => k v G' H' F' x r⟩
theorem Good.ofE (h : PE X e (tE X.K B C ir)) (nv : ∀ i, ir ≠ .var i) (nf : isNw ir = false) : Good X B C e ir := by
  refine Good.ofA (PE.imp h fun σ H Q ⟨G, E, d, E', F, ee, k⟩ => ⟨G, E, d, E', F, ee, fun v G' H' F' x a => k v G' H' F' x ?_⟩) nv
  unfold AsgR
  rw [if_neg (by simp [isFr, nf])]
  exact a
theorem g_const {d : D} {v : V} (h : PE X e (tC v)) (hv : ∀ G, Rp X.K G v d) : Good X B C e (.k d) := by
  refine Good.ofE (PE.imp h fun σ H Q ⟨G, E, d', E', F, ee, k⟩ => ?_) (fun _ z => by cases z) rfl
  simp only [ev] at ee
  cases ee
  exact k v G H F Ext.refl (hv G)
theorem g_var {i : Nat} (h : PE X e (tVar i)) : Good X B C e (.var i) := by
  have hE : PE X e (tE X.K B C (.var i)) := PE.imp h fun σ H Q ⟨G, E, d, E', F, ee, k⟩ => by
    simp only [ev] at ee
    split at ee
    · rename_i d' w
      cases ee
      obtain ⟨v, e1, r⟩ := F.sh i _ w
      exact ⟨v, e1, k v G H F Ext.refl r⟩
    · rename_i d' w
      cases ee
      obtain ⟨a, e1, g, h0, o⟩ := F.ow i _ w
      obtain ⟨y, ey⟩ := o.there
      obtain ⟨F', x', r⟩ := F.freeze w e1 g h0 o ey
      exact ⟨_, e1, k _ _ H F' x' r⟩
    · cases ee
  refine ⟨hE, PE.imp h fun σ H Q ⟨G, E, t, E', F, ee, k⟩ => ?_, PE.imp hE fun σ H Q ⟨G, E, d, E', F, ee, k⟩ => ⟨G, E, d, E', F, ee, fun v G' H' F' x a => k v G' H' F' x ?_⟩⟩
  · simp only [opd] at ee
    have key : ∃ v, σ[i]? = some (some v) := by
      cases w : gets E i with
      | un => rw [w] at ee; cases ee
      | sh d => obtain ⟨v, e1, _⟩ := F.sh i d w; exact ⟨v, e1⟩
      | ow d => obtain ⟨a, e1, _⟩ := F.ow i d w; exact ⟨_, e1⟩
      | io d => obtain ⟨a, _, e1, _⟩ := F.io i d w; exact ⟨_, e1⟩
    obtain ⟨v, e1⟩ := key
    split at ee
    · cases ee
    · cases ee
      exact ⟨v, e1, k v G H F Ext.refl e1⟩
  · unfold AsgR
    rw [if_neg (by simp [isFr, isNw])]
    exact a
theorem g_bin (o : Bop) (ha : Good X B C a ia) (hb : Good X B C b ib) : Good X B C (.BinOp a (opOf o) b pos) (.bin o ia ib) := by
  obtain ⟨r, h1, h2⟩ := bop_ok (X := X) o
  refine Good.ofA (PE.imp (pe_op h1 ha.O hb.O) fun σ H Q ⟨G, E, d, E', F, ee, k⟩ => ?_) (fun _ z => by cases z)
  simp only [ev, Option.bind_eq_some_iff, Option.map_eq_some_iff] at ee
  obtain ⟨⟨t, E1⟩, e1, ⟨u, E2⟩, e2, x, ex, y, ey, z, ez, eq⟩ := ee
  cases eq
  refine ⟨G, E, t, E1, F, e1, fun v G1 H1 F1 X1 r1 => ⟨G1, E1, u, _, F1, e2, fun w G2 H2 F2 X2 r2 => h2 G2 H2 v w x y d Q F2.sub ((r1.up X2.g).cont F2 ex) (r2.cont F2 ey) ez fun u' H' res => ?_⟩⟩
  obtain ⟨G', F', x', a⟩ := res.toA (ir := .bin o ia ib) F2 (X1.trans X2)
  exact k u' G' H' F' x' a
theorem g_cmp (hu : X.A.units + 65 < cLine) (o : Cop) (ha : Good X B C a ia) (hb : Good X B C b ib) (hm : behindInMarks (copOf o) b = false) : Good X B C (.Compare a [copOf o] [b] pos) (.cmp o ia ib) := by
  obtain ⟨r, h1, h2⟩ := cop_ok hu o
  refine Good.ofE (PE.imp (pe_cmpR h1 ha.O hb.O hm) fun σ H Q ⟨G, E, d, E', F, ee, k⟩ => ?_) (fun _ z => by cases z) rfl
  simp only [ev, Option.bind_eq_some_iff, Option.map_eq_some_iff] at ee
  obtain ⟨⟨t, E1⟩, e1, ⟨u, E2⟩, e2, x, ex, y, ey, z, ez, eq⟩ := ee
  cases eq
  exact ⟨G, E, t, E1, F, e1, fun v G1 H1 F1 X1 r1 => ⟨G1, E1, u, _, F1, e2, fun w G2 H2 F2 X2 r2 => h2 G2 H2 v w x y z Q F2.sub ((r1.up X2.g).cont F2 ex) (r2.cont F2 ey) ez (k _ G2 H2 F2 (X1.trans X2) (.bl z))⟩⟩
theorem t_cmp (hu : X.A.units + 65 < cLine) (o : Cop) (ha : Good X B C a ia) (hb : Good X B C b ib) (hm : behindInMarks (copOf o) b = false) : PT X (.Compare a [copOf o] [b] pos) (tT X.K B C (.cmp o ia ib)) := by
  obtain ⟨r, h1, h2⟩ := cop_ok hu o
  refine PT.imp (pt_cmpR h1 ha.O hb.O hm) fun σ H Q ⟨G, E, d, E', F, ee, k⟩ => ?_
  simp only [ev, Option.bind_eq_some_iff, Option.map_eq_some_iff] at ee
  obtain ⟨⟨t, E1⟩, e1, ⟨u, E2⟩, e2, x, ex, y, ey, z, ez, eq⟩ := ee
  cases eq
  exact ⟨G, E, t, E1, F, e1, fun v G1 H1 F1 X1 r1 => ⟨G1, E1, u, _, F1, e2, fun w G2 H2 F2 X2 r2 => h2 G2 H2 v w x y d _ F2.sub ((r1.up X2.g).cont F2 ex) (r2.cont F2 ey) ez ⟨d, rfl, k G2 H2 F2 (X1.trans X2)⟩⟩⟩
end
end Pv

set_option Elab.async false
set_option linter.all false
set_option maxRecDepth 100000
set_option maxHeartbeats 1000000
/-! PvG: more rules: signs, chains, and, or, if, displays, subscripts, slices, built-ins. -/
namespace Pv
open PySem PySem.Spec L2
section
variable {X : Cx} {B : Bs} {C : Ctx} {e a b c : Expr} {es : List Expr} {ir ia ib ic : IR} {irs : List IR} {pos : Pos}
/-! ### arguments -/
def notStar : Expr → Bool
  | .Starred _ _ => false
  | _ => true
theorem star_cons {e : Expr} {es : List Expr} {env : PySem.Env} (h : notStar e = true) : starEach (e :: es) env = (false, eval e env) :: starEach es env := by
  cases e <;> first | rfl | simp [notStar] at h
theorem star_all : ∀ {es : List Expr} {env : PySem.Env}, es.all notStar = true → ∀ p ∈ starEach es env, p.1 = false
  | [], _, _, p, hp => by simp [starEach] at hp
  | e :: es, env, h, p, hp => by
    simp only [List.all_cons, Bool.and_eq_true] at h
    rw [star_cons h.1] at hp
    rcases List.mem_cons.mp hp with rfl | hp
    · rfl
    · exact star_all h.2 p hp
theorem star_plain {es : List Expr} {env : PySem.Env} (h : es.all notStar = true) : (backTo pos (starEach es env)).any (·.1) = false := by
  rw [List.any_eq_false]
  intro p hp
  unfold backTo at hp
  obtain ⟨q, hq, rfl⟩ := List.mem_map.mp hp
  simp [star_all h q hq]
theorem g_nil : PA X [] (tEs X.K B C []) := PA.imp pa_nil fun σ H Q ⟨G, E, ds, E', F, ee, k⟩ => by
  simp only [evs] at ee
  cases ee
  exact k [] G H F Ext.refl .nil
theorem g_cons (ha : Good X B C e ir) (hs : PA X es (tEs X.K B C irs)) (ns : notStar e = true) : PA X (e :: es) (tEs X.K B C (ir :: irs)) := PA.imp (pa_cons ha.E hs (star_cons ns)) fun σ H Q ⟨G, E, ds, E', F, ee, k⟩ => by
  simp only [evs, Option.bind_eq_some_iff, Option.map_eq_some_iff] at ee
  obtain ⟨⟨d, E1⟩, e1, ⟨ds', E2⟩, e2, eq⟩ := ee
  cases eq
  exact ⟨G, E, d, E1, F, e1, fun v G1 H1 F1 X1 r1 => ⟨G1, E1, ds', _, F1, e2, fun vs G2 H2 F2 X2 r2 => k (v :: vs) G2 H2 F2 (X1.trans X2) (.cons (r1.up X2.g) r2)⟩⟩
theorem go_nil : PA X [] (tOs X.K B C []) := PA.imp pa_nil fun σ H Q ⟨G, E, ds, E', F, ee, k⟩ => by
  simp only [evo] at ee
  cases ee
  exact k [] G H F Ext.refl .nil
theorem Paired.up {α β : Type} {P Q : α → β → Prop} (m : ∀ a b, P a b → Q a b) : ∀ {xs : List α} {ys : List β}, Paired P xs ys → Paired Q xs ys
  | _, _, .nil => .nil
  | _, _, .cons h t => .cons (m _ _ h) (Paired.up m t)
theorem go_cons (ha : Good X B C e ir) (hs : PA X es (tOs X.K B C irs)) (ns : notStar e = true) : PA X (e :: es) (tOs X.K B C (ir :: irs)) := PA.imp (pa_cons ha.O hs (star_cons ns)) fun σ H Q ⟨G, E, ds, E', F, ee, k⟩ => by
  simp only [evo, Option.bind_eq_some_iff, Option.map_eq_some_iff] at ee
  obtain ⟨⟨d, E1⟩, e1, ⟨ds', E2⟩, e2, eq⟩ := ee
  cases eq
  exact ⟨G, E, d, E1, F, e1, fun v G1 H1 F1 X1 r1 => ⟨G1, E1, ds', _, F1, e2, fun vs G2 H2 F2 X2 r2 => k (v :: vs) G2 H2 F2 (X1.trans X2) (.cons (r1.up X2.g) r2)⟩⟩
theorem toks_rp {K : PySem.W.Frag} {G H : Hp} {E : Env} {σ : St} (F : Frm K B G H E σ) : ∀ {vs : List V} {ts : List Tok} {ds : List D}, Paired (TokR K G σ) vs ts → toks E ts = some ds → RpCs K G H vs ds
  | _, _, _, .nil, e => by simp [toks] at e; subst e; exact .nil
  | _, _, _, .cons h t, e => by
    simp only [toks, Option.bind_eq_some_iff, Option.map_eq_some_iff] at e
    obtain ⟨d, e1, ds, e2, rfl⟩ := e
    exact .cons (h.cont F e1) (toks_rp F t e2)

/-! ### signs, not, and, or, if -/
theorem g_neg (ha : Good X B C a ia) : Good X B C (.UnaryOp .USub a pos) (.neg ia) := by
  refine Good.ofE (PE.imp (pe_un un_neg ha.E) fun σ H Q ⟨G, E, d, E', F, ee, k⟩ => ?_) (fun _ z => by cases z) rfl
  simp only [ev, Option.bind_eq_some_iff] at ee
  obtain ⟨⟨x, E1⟩, e1, e2⟩ := ee
  simp only at e2
  split at e2
  · cases e2
    exact ⟨G, E, _, _, F, e1, fun v G1 H1 F1 X1 r1 => by cases r1; exact ⟨_, rfl, k _ G1 H1 F1 X1 (.int _)⟩⟩
  · cases e2
theorem g_not (ha : Good X B C a ia) : Good X B C (.UnaryOp .Not a pos) (.not ia) := by
  refine Good.ofE (PE.imp (pe_not ha.E) fun σ H Q ⟨G, E, d, E', F, ee, k⟩ => ?_) (fun _ z => by cases z) rfl
  simp only [ev, Option.bind_eq_some_iff] at ee
  obtain ⟨⟨x, E1⟩, e1, e2⟩ := ee
  simp only at e2
  split at e2
  · cases e2
    exact ⟨G, E, _, _, F, e1, fun v G1 H1 F1 X1 r1 => by cases r1; exact ⟨_, rfl, k _ G1 H1 F1 X1 (.bl _)⟩⟩
  · cases e2
theorem t_not (ha : PT X a (tT X.K B C ia)) : PT X (.UnaryOp .Not a pos) (tT X.K B C (.not ia)) := PT.imp (pt_not ha) fun σ H Q ⟨G, E, d, E', F, ee, k⟩ => by
  simp only [ev, Option.bind_eq_some_iff] at ee
  obtain ⟨⟨x, E1⟩, e1, e2⟩ := ee
  simp only at e2
  split at e2
  · cases e2
    exact ⟨G, E, _, _, F, e1, fun G1 H1 F1 X1 => k G1 H1 F1 X1⟩
  · cases e2
variable {rest : List Expr}
theorem g_one {op : BoolOp} (ha : Good X B C a ia) : Good X B C (.BoolOp op [a] pos) ia := ⟨pe_one ha.E, pe_one ha.O, pe_one ha.A⟩
theorem g_and (ha : Good X B C a ia) (hb : Good X B C (.BoolOp .And (b :: rest) pos) ib) : Good X B C (.BoolOp .And (a :: b :: rest) pos) (.and ia ib) := by
  refine Good.ofE (PE.imp (pe_and ha.E hb.E) fun σ H Q ⟨G, E, d, E', F, ee, k⟩ => ?_) (fun _ z => by cases z) rfl
  simp only [ev, Option.bind_eq_some_iff] at ee
  obtain ⟨⟨x, E1⟩, e1, e2⟩ := ee
  simp only at e2
  refine ⟨G, E, x, E1, F, e1, fun v G1 H1 F1 X1 r1 => ?_⟩
  split at e2
  · cases r1
    exact ⟨true, rfl, iteT ⟨G1, E1, d, E', F1, e2, fun v G2 H2 F2 X2 r2 => k v G2 H2 F2 (X1.trans X2) r2⟩⟩
  · cases r1
    cases e2
    exact ⟨false, rfl, iteF (k _ G1 H1 F1 X1 (.bl _))⟩
  · cases e2
theorem g_or (ha : Good X B C a ia) (hb : Good X B C (.BoolOp .Or (b :: rest) pos) ib) : Good X B C (.BoolOp .Or (a :: b :: rest) pos) (.or ia ib) := by
  refine Good.ofE (PE.imp (pe_or ha.E hb.E) fun σ H Q ⟨G, E, d, E', F, ee, k⟩ => ?_) (fun _ z => by cases z) rfl
  simp only [ev, Option.bind_eq_some_iff] at ee
  obtain ⟨⟨x, E1⟩, e1, e2⟩ := ee
  simp only at e2
  refine ⟨G, E, x, E1, F, e1, fun v G1 H1 F1 X1 r1 => ?_⟩
  split at e2
  · cases r1
    cases e2
    exact ⟨true, rfl, iteT (k _ G1 H1 F1 X1 (.bl _))⟩
  · cases r1
    exact ⟨false, rfl, iteF ⟨G1, E1, d, E', F1, e2, fun v G2 H2 F2 X2 r2 => k v G2 H2 F2 (X1.trans X2) r2⟩⟩
  · cases e2
theorem PW.imp {e : Expr} {t t' : TT} (h : PW X e t) (m : ∀ σ H Q, t' σ H Q → t σ H Q) : PW X e t' := ⟨fun wh pins s σ H Q I h' => h.run wh pins s σ H Q I (m σ H Q h')⟩
theorem w_and (ha : PT X a (tT X.K B C ia)) (hb : PW X (.BoolOp .And (b :: rest) pos) (tT X.K B C ib)) : PW X (.BoolOp .And (a :: b :: rest) pos) (tT X.K B C (.and ia ib)) := by
  refine PW.imp (pw_and ha hb) fun σ H Q ⟨G, E, d, E', F, ee, k⟩ => ?_
  simp only [ev, Option.bind_eq_some_iff] at ee
  obtain ⟨⟨x, E1⟩, e1, e2⟩ := ee
  simp only at e2
  split at e2
  · exact ⟨G, E, true, E1, F, e1, fun G1 H1 F1 X1 => iteT ⟨G1, E1, d, E', F1, e2, fun G2 H2 F2 X2 => k G2 H2 F2 (X1.trans X2)⟩⟩
  · cases e2
    exact ⟨G, E, false, _, F, e1, fun G1 H1 F1 X1 => iteF (k G1 H1 F1 X1)⟩
  · cases e2
theorem w_or (ha : PT X a (tT X.K B C ia)) (hb : PW X (.BoolOp .Or (b :: rest) pos) (tT X.K B C ib)) : PW X (.BoolOp .Or (a :: b :: rest) pos) (tT X.K B C (.or ia ib)) := by
  refine PW.imp (pw_or ha hb) fun σ H Q ⟨G, E, d, E', F, ee, k⟩ => ?_
  simp only [ev, Option.bind_eq_some_iff] at ee
  obtain ⟨⟨x, E1⟩, e1, e2⟩ := ee
  simp only at e2
  split at e2
  · cases e2
    exact ⟨G, E, true, _, F, e1, fun G1 H1 F1 X1 => iteT (k G1 H1 F1 X1)⟩
  · exact ⟨G, E, false, E1, F, e1, fun G1 H1 F1 X1 => iteF ⟨G1, E1, d, E', F1, e2, fun G2 H2 F2 X2 => k G2 H2 F2 (X1.trans X2)⟩⟩
  · cases e2
theorem lst_nw {a : IR} (h : isLst a = true) : isNw a = true := by cases a <;> first | rfl | cases h
theorem AsgR.ofB {K : PySem.W.Frag} {B : Bs} {Hs Gs G G1 H H1 : Hp} {E E1 E' : Env} {σ : St} {v : V} {d : D} {ir ir2 : IR} (hn : isNw ir = true) (hn2 : isNw ir2 = true) (x : Ext σ E E1 Gs Hs G1 H1) (a : AsgR K B ir H1 G H E' σ v d) : AsgR K B ir2 Hs G H E' σ v d := by
  unfold AsgR isFr at *
  rw [hn, Bool.true_and] at a
  rw [hn2, Bool.true_and]
  split at a
  · rename_i c; rw [if_pos c]; exact a.up fun b q => x.gone q
  · rename_i c; rw [if_neg c]; exact a
theorem g_ite (hc : PT X c (tT X.K B C ic)) (ha : Good X B C a ia) (hb : Good X B C b ib) : Good X B C (.IfExp c a b pos) (.ite ic ia ib) := by
  cases nf : isNw (.ite ic ia ib) with
  | true =>
    have nf2 : (isLst ia && isLst ib) = true := nf
    rw [Bool.and_eq_true] at nf2
    refine Good.ofA (PE.imp (pe_ifExp hc ha.A hb.A) fun σ H Q ⟨G, E, d, E', F, ee, k⟩ => ?_) (fun _ z => by cases z)
    simp only [ev, Option.bind_eq_some_iff] at ee
    obtain ⟨⟨x, E1⟩, e1, e2⟩ := ee
    simp only at e2
    split at e2
    · exact ⟨G, E, true, E1, F, e1, fun G1 H1 F1 X1 => iteT ⟨G1, E1, d, E', F1, e2, fun v G2 H2 F2 X2 r2 => k v G2 H2 F2 (X1.trans X2) (r2.ofB (lst_nw nf2.1) nf X1)⟩⟩
    · exact ⟨G, E, false, E1, F, e1, fun G1 H1 F1 X1 => iteF ⟨G1, E1, d, E', F1, e2, fun v G2 H2 F2 X2 r2 => k v G2 H2 F2 (X1.trans X2) (r2.ofB (lst_nw nf2.2) nf X1)⟩⟩
    · cases e2
  | false =>
    refine Good.ofE (PE.imp (pe_ifExp hc ha.E hb.E) fun σ H Q ⟨G, E, d, E', F, ee, k⟩ => ?_) (fun _ z => by cases z) nf
    simp only [ev, Option.bind_eq_some_iff] at ee
    obtain ⟨⟨x, E1⟩, e1, e2⟩ := ee
    simp only at e2
    split at e2
    · exact ⟨G, E, true, E1, F, e1, fun G1 H1 F1 X1 => iteT ⟨G1, E1, d, E', F1, e2, fun v G2 H2 F2 X2 r2 => k v G2 H2 F2 (X1.trans X2) r2⟩⟩
    · exact ⟨G, E, false, E1, F, e1, fun G1 H1 F1 X1 => iteF ⟨G1, E1, d, E', F1, e2, fun v G2 H2 F2 X2 r2 => k v G2 H2 F2 (X1.trans X2) r2⟩⟩
    · cases e2
/-- an expression that is no and, or, not, if, comparison, as a test -/
theorem t_val (ha : Good X B C a ia) (he : ∀ whole, isTrue a X.env whole = (do let v ← whole; standAt a.pos; holding [v] (truthy v))) : PT X a (tT X.K B C ia) :=
  PT.imp (pt_val ha.E he) fun σ H Q ⟨G, E, d, E', F, ee, k⟩ => ⟨G, E, _, E', F, ee, fun v G1 H1 F1 X1 r1 => by cases r1; exact ⟨d, rfl, k G1 H1 F1 X1⟩⟩

/-! ### chains -/
theorem g_chain (hu : X.A.units + 65 < cLine) (o o' : Cop) (ha : Good X B C a ia) (hb : Good X B C b ib) (hc : Good X B C c ic) (hm : lastMarks [copOf o, copOf o'] [b, c] = false) :
    Good X B C (.Compare a [copOf o, copOf o'] [b, c] pos) (.chain o o' ia ib ic) := by
  obtain ⟨r, h1, h2⟩ := cop_ok hu o
  obtain ⟨r', h1', h2'⟩ := cop_ok hu o'
  refine Good.ofE (PE.imp (pe_chain h1 h1' ha.O hb.O hc.O hm) fun σ H Q ⟨G, E, d, E', F, ee, k⟩ => ?_) (fun _ z => by cases z) rfl
  simp only [ev, Option.bind_eq_some_iff] at ee
  obtain ⟨⟨t, E1⟩, e1, ⟨u, E2⟩, e2, x, ex, y, ey, z, ez, e3⟩ := ee
  refine ⟨G, E, t, E1, F, e1, fun v G1 H1 F1 X1 r1 => ⟨G1, E1, u, E2, F1, e2, fun w G2 H2 F2 X2 r2 => h2 G2 H2 v w x y z _ F2.sub ((r1.up X2.g).cont F2 ex) (r2.cont F2 ey) ez ⟨z, rfl, ?_⟩⟩⟩
  cases z with
  | false =>
    cases e3
    exact iteF (k _ G2 H2 F2 (X1.trans X2) (.bl _))
  | true =>
    simp only [Option.bind_eq_some_iff, Option.map_eq_some_iff] at e3
    obtain ⟨⟨t3, E3⟩, e3, y', ey', w', ew', z', ez', eq⟩ := e3
    cases eq
    exact iteT ⟨G2, E2, t3, _, F2, e3, fun v3 G3 H3 F3 X3 r3 => h2' G3 H3 w v3 y' w' z' Q F3.sub ((r2.up X3.g).cont F3 ey') (r3.cont F3 ew') ez' (k _ G3 H3 F3 ((X1.trans X2).trans X3) (.bl _))⟩
theorem t_chain (hu : X.A.units + 65 < cLine) (o o' : Cop) (ha : Good X B C a ia) (hb : Good X B C b ib) (hc : Good X B C c ic) (hm : lastMarks [copOf o, copOf o'] [b, c] = false) :
    PT X (.Compare a [copOf o, copOf o'] [b, c] pos) (tT X.K B C (.chain o o' ia ib ic)) := by
  obtain ⟨r, h1, h2⟩ := cop_ok hu o
  obtain ⟨r', h1', h2'⟩ := cop_ok hu o'
  refine PT.imp (pt_chain h1 h1' ha.O hb.O hc.O hm) fun σ H Q ⟨G, E, d, E', F, ee, k⟩ => ?_
  simp only [ev, Option.bind_eq_some_iff] at ee
  obtain ⟨⟨t, E1⟩, e1, ⟨u, E2⟩, e2, x, ex, y, ey, z, ez, e3⟩ := ee
  refine ⟨G, E, t, E1, F, e1, fun v G1 H1 F1 X1 r1 => ⟨G1, E1, u, E2, F1, e2, fun w G2 H2 F2 X2 r2 => h2 G2 H2 v w x y z _ F2.sub ((r1.up X2.g).cont F2 ex) (r2.cont F2 ey) ez ⟨z, rfl, ?_⟩⟩⟩
  cases z with
  | false =>
    cases e3
    exact iteF ⟨false, rfl, k G2 H2 F2 (X1.trans X2)⟩
  | true =>
    simp only [Option.bind_eq_some_iff, Option.map_eq_some_iff] at e3
    obtain ⟨⟨t3, E3⟩, e3, y', ey', w', ew', z', ez', eq⟩ := e3
    cases eq
    exact iteT ⟨G2, E2, t3, _, F2, e3, fun v3 G3 H3 F3 X3 r3 => h2' G3 H3 w v3 y' w' _ _ F3.sub ((r2.up X3.g).cont F3 ey') (r3.cont F3 ew') ez' ⟨_, rfl, k G3 H3 F3 ((X1.trans X2).trans X3)⟩⟩

def tChain3 (r r' r'' : R2) (ta tb tc td : TE) : TE := fun σ H Q => ta σ H fun x H1 => tb σ H1 fun y H2 => r x y H2 fun z H3 => ∃ k, z = .bl k ∧
  (if k = true then tc σ H3 fun w' H4 => r' y w' H4 fun z' H5 => ∃ k', z' = .bl k' ∧ (if k' = true then td σ H5 fun w4 H6 => r'' w' w4 H6 Q else Q (.bl false) H5) else Q (.bl false) H3)
theorem pe_chain3 {d : Expr} {ta tb tc td : TE} {op op' op'' : CmpOp} {r r' r'' : R2} (ho : OpR X (compareOp op) r) (ho' : OpR X (compareOp op') r') (ho'' : OpR X (compareOp op'') r'') (ha : PE X a ta) (hb : PE X b tb) (hc : PE X c tc) (hd : PE X d td)
    (hm : lastMarks [op, op', op''] [b, c, d] = false) : PE X (.Compare a [op, op', op''] [b, c, d] pos) (tChain3 r r' r'' ta tb tc td) := by
  refine ⟨fun pins s σ H Q I h => ?_⟩
  refine PyProof.Rows.Compare_chain (thn (ha.run pins s σ H _ I h) fun v s1 ⟨x, H1, I1, r1, q1⟩ => PyProof.Rows.chain_link (thn (hb.run pins s1 σ H1 _ I1 q1) fun u s2 ⟨y, H2, I2, r2, q2⟩ =>
    thn (ho pins s2 σ H2 x y v u _ I2 r1 r2 q2) fun d s3 ⟨z, H3, I3, r3, k, e, q3⟩ => ?_)) hm
  subst e
  cases r3
  refine wpAny_truthy_bool ?_
  cases k with
  | false => exact PyProof.Rows.ite_ff ⟨.bl false, H3, I3, rfl, q3⟩
  | true =>
    refine PyProof.Rows.ite_tt (PyProof.Rows.chain_link (thn (hc.run pins s3 σ H3 _ I3 q3) fun w' s4 ⟨z', H4, I4, r4, q4⟩ => thn (ho' pins s4 σ H4 y z' u w' _ I4 r2 r4 q4) fun d' s5 ⟨z2, H5, I5, r5, k2, e2, q5⟩ => ?_))
    subst e2
    cases r5
    refine wpAny_truthy_bool ?_
    cases k2 with
    | false => exact PyProof.Rows.ite_ff ⟨.bl false, H5, I5, rfl, q5⟩
    | true => exact PyProof.Rows.ite_tt (PyProof.Rows.chain_last (thn (hd.run pins s5 σ H5 _ I5 q5) fun w4 s6 ⟨z4, H6, I6, r6, q6⟩ => ho'' pins s6 σ H6 z' z4 w' w4 Q I6 r4 r6 q6))
theorem pt_chain3 {d : Expr} {ta tb tc td : TE} {op op' op'' : CmpOp} {r r' r'' : R2} (ho : OpR X (compareOp op) r) (ho' : OpR X (compareOp op') r') (ho'' : OpR X (compareOp op'') r'') (ha : PE X a ta) (hb : PE X b tb) (hc : PE X c tc) (hd : PE X d td)
    (hm : lastMarks [op, op', op''] [b, c, d] = false) : PT X (.Compare a [op, op', op''] [b, c, d] pos) (tTest (tChain3 r r' r'' ta tb tc td)) := by
  refine ⟨fun pins s σ H Q I h => ?_⟩
  refine PyProof.Rows.isTrue_chain (thn (ha.run pins s σ H _ I h) fun v s1 ⟨x, H1, I1, r1, q1⟩ => PyProof.Rows.test_link (thn (hb.run pins s1 σ H1 _ I1 q1) fun u s2 ⟨y, H2, I2, r2, q2⟩ =>
    thn (ho pins s2 σ H2 x y v u _ I2 r1 r2 q2) fun d s3 ⟨z, H3, I3, r3, k, e, q3⟩ => ?_)) hm
  subst e
  cases r3
  refine wpAny_truthy_bool ?_
  cases k with
  | false =>
    obtain ⟨k', e', q'⟩ := q3
    cases e'
    exact PyProof.Rows.ite_ff ⟨H3, I3, q'⟩
  | true =>
    refine PyProof.Rows.ite_tt (PyProof.Rows.test_link (thn (hc.run pins s3 σ H3 _ I3 q3) fun w' s4 ⟨z', H4, I4, r4, q4⟩ => thn (ho' pins s4 σ H4 y z' u w' _ I4 r2 r4 q4) fun d' s5 ⟨z2, H5, I5, r5, k2, e2, q5⟩ => ?_))
    subst e2
    cases r5
    refine wpAny_truthy_bool ?_
    cases k2 with
    | false =>
      obtain ⟨k', e', q'⟩ := q5
      cases e'
      exact PyProof.Rows.ite_ff ⟨H5, I5, q'⟩
    | true =>
      refine PyProof.Rows.ite_tt (PyProof.Rows.test_last (thn (hd.run pins s5 σ H5 _ I5 q5) fun w4 s6 ⟨z4, H6, I6, r6, q6⟩ => thn (ho'' pins s6 σ H6 z' z4 w' w4 _ I6 r4 r6 q6) fun d' s7 ⟨z3, H7, I7, r7, k3, e3, q7⟩ => ?_))
      subst e3
      cases r7
      refine wpAny_truthy_bool ?_
      exact ⟨H7, I7, q7⟩
theorem g_chn3 {d : Expr} {id : IR} (hu : X.A.units + 65 < cLine) (o o' o'' : Cop) (ha : Good X B C a ia) (hb : Good X B C b ib) (hc : Good X B C c ic) (hd : Good X B C d id) (hm : lastMarks [copOf o, copOf o', copOf o''] [b, c, d] = false) :
    Good X B C (.Compare a [copOf o, copOf o', copOf o''] [b, c, d] pos) (.chn3 o o' o'' ia ib ic id) := by
  obtain ⟨r, h1, h2⟩ := cop_ok hu o
  obtain ⟨r', h1', h2'⟩ := cop_ok hu o'
  obtain ⟨r'', h1'', h2''⟩ := cop_ok hu o''
  refine Good.ofE (PE.imp (pe_chain3 h1 h1' h1'' ha.O hb.O hc.O hd.O hm) fun σ H Q ⟨G, E, d, E', F, ee, k⟩ => ?_) (fun _ z => by cases z) rfl
  simp only [ev, Option.bind_eq_some_iff] at ee
  obtain ⟨⟨t, E1⟩, e1, ⟨u, E2⟩, e2, x, ex, y, ey, z, ez, e3⟩ := ee
  refine ⟨G, E, t, E1, F, e1, fun v G1 H1 F1 X1 r1 => ⟨G1, E1, u, E2, F1, e2, fun w G2 H2 F2 X2 r2 => h2 G2 H2 v w x y z _ F2.sub ((r1.up X2.g).cont F2 ex) (r2.cont F2 ey) ez ⟨z, rfl, ?_⟩⟩⟩
  cases z with
  | false =>
    cases e3
    exact iteF (k _ G2 H2 F2 (X1.trans X2) (.bl _))
  | true =>
    simp only [Option.bind_eq_some_iff] at e3
    obtain ⟨⟨t3, E3⟩, e3, y', ey', w', ew', z', ez', e4⟩ := e3
    refine iteT ⟨G2, E2, t3, _, F2, e3, fun v3 G3 H3 F3 X3 r3 => h2' G3 H3 w v3 y' w' z' _ F3.sub ((r2.up X3.g).cont F3 ey') (r3.cont F3 ew') ez' ⟨z', rfl, ?_⟩⟩
    cases z' with
    | false =>
      cases e4
      exact iteF (k _ G3 H3 F3 ((X1.trans X2).trans X3) (.bl _))
    | true =>
      simp only [Option.bind_eq_some_iff, Option.map_eq_some_iff] at e4
      obtain ⟨⟨t4, E4⟩, e4, y4, ey4, w4, ew4, z4, ez4, eq⟩ := e4
      cases eq
      exact iteT ⟨G3, E3, t4, _, F3, e4, fun v4 G4 H4 F4 X4 r4 => h2'' G4 H4 v3 v4 y4 w4 z4 Q F4.sub ((r3.up X4.g).cont F4 ey4) (r4.cont F4 ew4) ez4 (k _ G4 H4 F4 (((X1.trans X2).trans X3).trans X4) (.bl _))⟩
theorem t_chn3 {d : Expr} {id : IR} (hu : X.A.units + 65 < cLine) (o o' o'' : Cop) (ha : Good X B C a ia) (hb : Good X B C b ib) (hc : Good X B C c ic) (hd : Good X B C d id) (hm : lastMarks [copOf o, copOf o', copOf o''] [b, c, d] = false) :
    PT X (.Compare a [copOf o, copOf o', copOf o''] [b, c, d] pos) (tT X.K B C (.chn3 o o' o'' ia ib ic id)) := by
  obtain ⟨r, h1, h2⟩ := cop_ok hu o
  obtain ⟨r', h1', h2'⟩ := cop_ok hu o'
  obtain ⟨r'', h1'', h2''⟩ := cop_ok hu o''
  refine PT.imp (pt_chain3 h1 h1' h1'' ha.O hb.O hc.O hd.O hm) fun σ H Q ⟨G, E, d, E', F, ee, k⟩ => ?_
  simp only [ev, Option.bind_eq_some_iff] at ee
  obtain ⟨⟨t, E1⟩, e1, ⟨u, E2⟩, e2, x, ex, y, ey, z, ez, e3⟩ := ee
  refine ⟨G, E, t, E1, F, e1, fun v G1 H1 F1 X1 r1 => ⟨G1, E1, u, E2, F1, e2, fun w G2 H2 F2 X2 r2 => h2 G2 H2 v w x y z _ F2.sub ((r1.up X2.g).cont F2 ex) (r2.cont F2 ey) ez ⟨z, rfl, ?_⟩⟩⟩
  cases z with
  | false =>
    cases e3
    exact iteF ⟨false, rfl, k G2 H2 F2 (X1.trans X2)⟩
  | true =>
    simp only [Option.bind_eq_some_iff] at e3
    obtain ⟨⟨t3, E3⟩, e3, y', ey', w', ew', z', ez', e4⟩ := e3
    refine iteT ⟨G2, E2, t3, _, F2, e3, fun v3 G3 H3 F3 X3 r3 => h2' G3 H3 w v3 y' w' z' _ F3.sub ((r2.up X3.g).cont F3 ey') (r3.cont F3 ew') ez' ⟨z', rfl, ?_⟩⟩
    cases z' with
    | false =>
      cases e4
      exact iteF ⟨false, rfl, k G3 H3 F3 ((X1.trans X2).trans X3)⟩
    | true =>
      simp only [Option.bind_eq_some_iff, Option.map_eq_some_iff] at e4
      obtain ⟨⟨t4, E4⟩, e4, y4, ey4, w4, ew4, z4, ez4, eq⟩ := e4
      cases eq
      exact iteT ⟨G3, E3, t4, _, F3, e4, fun v4 G4 H4 F4 X4 r4 => h2'' G4 H4 v3 v4 y4 w4 _ _ F4.sub ((r3.up X4.g).cont F4 ey4) (r4.cont F4 ew4) ez4 ⟨_, rfl, k G4 H4 F4 (((X1.trans X2).trans X3).trans X4)⟩⟩

/-! ### displays -/
theorem g_tup {x1} (h : PA X es (tEs X.K B C irs)) : Good X B C (.Tuple es x1 pos) (.tup irs) := by
  refine Good.ofA (PE.imp (pe_tup h) fun σ H Q ⟨G, E, d, E', F, ee, k⟩ => ?_) (fun _ z => by cases z)
  simp only [ev, Option.bind_eq_some_iff] at ee
  obtain ⟨⟨ds, E1⟩, e1, e2⟩ := ee
  simp only at e2
  split at e2
  · rename_i hl
    cases e2
    refine ⟨G, E, ds, _, F, e1, fun vs G1 H1 F1 X1 r1 => ⟨by rw [sl_eq, r1.len]; exact hl, fun p hp => ?_⟩⟩
    obtain ⟨G', F', x', a⟩ := (Res.tup hp r1).toA (ir := .tup irs) F1 X1
    exact k _ G' _ F' x' a
  · cases e2
theorem g_lst (h : PA X es (tEs X.K B C irs)) : Good X B C (.List es pos) (.lst irs) := by
  refine Good.ofA (PE.imp (pe_lst h) fun σ H Q ⟨G, E, d, E', F, ee, k⟩ => ?_) (fun _ z => by cases z)
  simp only [ev, Option.bind_eq_some_iff] at ee
  obtain ⟨⟨ds, E1⟩, e1, e2⟩ := ee
  simp only at e2
  split at e2
  · rename_i hl
    cases e2
    refine ⟨G, E, ds, _, F, e1, fun vs G1 H1 F1 X1 r1 => ⟨by rw [sl_eq, r1.len]; exact hl, fun p hp => ?_⟩⟩
    obtain ⟨G', F', x', a⟩ := (Res.lst hp r1).toA (ir := .lst irs) F1 X1
    exact k _ G' _ F' x' a
  · cases e2

/-! ### subscripts, slices -/
theorem g_idx (hu : X.A.units + 65 < cLine) (ha : Good X B C a ia) (hb : Good X B C b ib) (hs : PlainIx b) : Good X B C (.Subscript a b pos) (.idx ia ib) := by
  obtain ⟨r, h1, h2⟩ := ix_ok hu
  refine Good.ofE (PE.imp (pe_ix h1 ha.O hb.E hs) fun σ H Q ⟨G, E, d, E', F, ee, k⟩ => ?_) (fun _ z => by cases z) rfl
  simp only [ev, Option.bind_eq_some_iff, Option.map_eq_some_iff] at ee
  obtain ⟨⟨t, E1⟩, e1, ⟨u, E2⟩, e2, x, ex, z, ez, eq⟩ := ee
  cases eq
  exact ⟨G, E, t, E1, F, e1, fun v G1 H1 F1 X1 r1 => ⟨G1, E1, u, _, F1, e2, fun w G2 H2 F2 X2 r2 => h2 G2 H2 v w x u d Q F2.sub ((r1.up X2.g).cont F2 ex) (.inl r2) ez fun u' r => k u' G2 H2 F2 (X1.trans X2) r⟩⟩
def tP (K : PySem.W.Frag) (B : Bs) (C : Ctx) (ir : IR) : TO := fun σ H Q => ∃ G E d E' o, Frm K B G H E σ ∧ ev C ir E = some (d, E') ∧ optX ir d = some o ∧ ∀ G' H', Frm K B G' H' E' σ → Ext σ E E' G H G' H' → Q o H'
theorem PO.imp {e : Option Expr} {t t' : TO} (h : PO X e t) (m : ∀ σ H Q, t' σ H Q → t σ H Q) : PO X e t' := ⟨fun pins s σ H Q I h' => h.run pins s σ H Q I (m σ H Q h')⟩
theorem p_none : PO X none (tP X.K B C (.k .none)) := PO.imp po_none fun σ H Q ⟨G, E, d, E', o, F, ee, eo, k⟩ => by
  simp only [ev] at ee
  cases ee
  cases eo
  exact k G H F Ext.refl
theorem p_some (h : Good X B C e ir) (hn : ir ≠ .k .none) : PO X (some e) (tP X.K B C ir) := PO.imp (po_some h.E) fun σ H Q ⟨G, E, d, E', o, F, ee, eo, k⟩ => by
  refine ⟨G, E, d, E', F, ee, fun v G1 H1 F1 X1 r1 => ?_⟩
  unfold optX at eo
  split at eo
  · exact absurd rfl hn
  · split at eo
    · cases eo
      cases r1
      exact ⟨_, rfl, k G1 H1 F1 X1⟩
    · cases eo
variable {lo hi : Option Expr} {il ih : IR} {p2 : Pos}
theorem g_slc (ha : Good X B C a ia) (hl : PO X lo (tP X.K B C il)) (hh : PO X hi (tP X.K B C ih)) : Good X B C (.Subscript a (.Slice lo hi none p2) pos) (.slc ia il ih) := by
  obtain ⟨r, h1, h2⟩ := sl_ok (X := X)
  refine Good.ofA (PE.imp (pe_slice h1 ha.O hl hh) fun σ H Q ⟨G, E, d, E', F, ee, k⟩ => ?_) (fun _ z => by cases z)
  simp only [ev, Option.bind_eq_some_iff, Option.map_eq_some_iff] at ee
  obtain ⟨⟨t, E1⟩, e1, ⟨u, E2⟩, e2, ⟨w, E3⟩, e3, x, ex, l, el, h, eh, z, ez, eq⟩ := ee
  cases eq
  refine ⟨G, E, t, E1, F, e1, fun v G1 H1 F1 X1 r1 => ⟨G1, E1, u, E2, l, F1, e2, el, fun G2 H2 F2 X2 => ⟨G2, E2, w, _, h, F2, e3, eh, fun G3 H3 F3 X3 => h2 G3 H3 v x d l h Q F3.sub ((r1.up (X2.trans X3).g).cont F3 ex) ez fun u' H' res => ?_⟩⟩⟩
  obtain ⟨G', F', x', a⟩ := res.toA (ir := .slc ia il ih) F3 ((X1.trans X2).trans X3)
  exact k u' G' H' F' x' a

theorem RpAll.reverse {K : PySem.W.Frag} {G : Hp} : ∀ {vs : List V} {ds : List D}, RpAll K G vs ds → RpAll K G vs.reverse ds.reverse
  | _, _, .nil => .nil
  | _, _, .cons a b => by rw [List.reverse_cons, List.reverse_cons]; exact b.reverse.append (.cons a .nil)
theorem g_rev {k : Nat} {p1 p2 p3 : Pos} (ha : Good X B C a ia) : Good X B C (.Subscript a (.Slice none none (some (.UnaryOp .USub (.Constant (.int 1) k p1) p2)) p3) pos) (.rev ia) := by
  refine Good.ofA (PE.imp (pe_rev ha.O) fun σ H Q ⟨G, E, d, E', F, ee, k⟩ => ?_) (fun _ z => by cases z)
  simp only [ev, Option.bind_eq_some_iff, Option.map_eq_some_iff] at ee
  obtain ⟨⟨t, E1⟩, e1, x, ex, z, ez, eq⟩ := ee
  cases eq
  refine ⟨G, E, t, _, F, e1, fun v G1 H1 F1 X1 r1 => ?_⟩
  have rc := r1.cont F1 ex
  have fin : ∀ u' H', Res X.K G1 H1 u' H' d → Q u' H' := fun u' H' res => by
    obtain ⟨G', F', x', a⟩ := res.toA (ir := .rev ia) F1 X1
    exact k u' G' H' F' x' a
  unfold revD at ez
  split at ez
  · cases ez
    obtain ⟨a, xs, rfl, hl, r⟩ := rc.list F1.sub
    exact ⟨a, xs, rfl, .inl ⟨SqL.of hl, fun p hp => fin _ _ (.lst hp r.reverse)⟩⟩
  · cases ez
    obtain ⟨a, xs, rfl, hl, r⟩ := rc.tuple F1.sub
    exact ⟨a, xs, rfl, .inr ⟨hl, fun p hp => fin _ _ (.tup hp r.reverse)⟩⟩
  · cases ez

/-! ### built-ins -/
theorem boot_blt (b : Blt) : bootBuiltins (Str.ofString (bltS b)) = some (bltV b) := by cases b <;> decide +kernel
theorem blt_name (b : Blt) : (Str.ofString (bltS b)) ≠ "__name__" ∧ ((Str.ofString (bltS b)) == ("__debug__" : Str)) = false := by cases b <;> decide +kernel
variable {p : Pos}
theorem g_blt (hc : X.calm = true) (hu : X.A.units + 65 < cLine) (bl : Blt) (hg : Gl X (Str.ofString (bltS bl))) (hm : X.mg (Str.ofString (bltS bl)) = none) (ha : PA X (e :: es) (tOs X.K B C irs)) (n1 : notStar e = true) (n2 : es.all notStar = true) :
    Good X B C (.Call (.Name (Str.ofString (bltS bl)) p) (e :: es) [] pos) (.blt bl irs) := by
  obtain ⟨r, h1, h2⟩ := blt_ok hc hu bl
  have pe : PE X (.Call (.Name (Str.ofString (bltS bl)) p) (e :: es) [] pos) (tCB r (tOs X.K B C irs)) := by
    have hb := boot_blt bl
    unfold bltV at h1 hb
    by_cases c : bltTy bl = true
    · rw [if_pos c] at h1 hb
      exact pe_callTy h1 hg hm hb ha (blt_name bl).1 (blt_name bl).2 (star_cons n1) (star_plain n2)
    · rw [if_neg c] at h1 hb
      exact pe_callB h1 hg hm hb ha (blt_name bl).1 (blt_name bl).2 (star_cons n1) (star_plain n2)
  refine Good.ofA (PE.imp pe fun σ H Q ⟨G, E, d, E', F, ee, k⟩ => ?_) (fun _ z => by cases z)
  simp only [ev, Option.bind_eq_some_iff, Option.map_eq_some_iff] at ee
  obtain ⟨⟨ts, E1⟩, e1, ds, e2, z, ez, eq⟩ := ee
  cases eq
  refine ⟨G, E, ts, _, F, e1, fun vs G1 H1 F1 X1 r1 => h2 G1 H1 vs ds d Q F1.sub (toks_rp F1 r1 e2) ez fun u' H' res => ?_⟩
  obtain ⟨G2, F2, X2, res⟩ : ∃ G2, Frm X.K B G2 H1 _ σ ∧ Ext σ _ _ G1 H1 G2 H1 ∧ Res X.K G2 H1 u' H' d := by
    rcases res with res | g
    · exact ⟨G1, F1, Ext.refl, res⟩
    · exact g.new F1
  obtain ⟨G', F', x', a⟩ := res.toA (ir := .blt bl irs) F2 (X1.trans X2)
  exact k u' G' H' F' x' a
end
end Pv

set_option Elab.async false
set_option linter.all false
set_option maxRecDepth 100000
set_option maxHeartbeats 1000000
/-! PvGb: ranges as values, in range(..), isinstance. -/
namespace Pv
open PySem PySem.Spec L2
section
variable {X : Cx} {B : Bs} {C : Ctx} {e a b c : Expr} {es : List Expr} {ir ia ib ic : IR} {irs : List IR} {pos : Pos}
theorem rgV_ints {K : PySem.W.Frag} {G : Hp} (a b : Int) : RpAll K G (rgV a b) (rngI a (b - a).toNat) := by
  unfold rgV rngI
  generalize List.range (b - a).toNat = l
  induction l with
  | nil => exact .nil
  | cons x r ih => exact .cons (.int _) ih
theorem rng_of {ds : List D} {z : D} (h : rng ds = some z) : ∃ i j, (ds = [.int j] ∧ i = 0 ∨ ds = [.int i, .int j]) ∧ z = .list (rngI i (j - i).toNat) ∧ RgOk i j := by
  unfold rng at h
  split at h
  · rename_i j
    split at h
    · rename_i c
      cases h
      refine ⟨0, j, .inl ⟨rfl, rfl⟩, by rw [Int.sub_zero], ?_⟩
      obtain ⟨c1, c2, c3⟩ := c
      have c3 : j.toNat ≤ 16777216 := c3
      refine ⟨by omega, by omega, by omega, by omega, by omega⟩
    · cases h
  · rename_i i j
    split at h
    · rename_i c
      cases h
      refine ⟨i, j, .inr rfl, rfl, ?_⟩
      obtain ⟨c1, c2, c3, c4, c5⟩ := c
      have c5 : (j - i).toNat ≤ 16777216 := c5
      refine ⟨by omega, by omega, by omega, by omega, by omega⟩
    · cases h
  · cases h
/-- range(..), as list() and tuple() take it -/
def tRg (K : PySem.W.Frag) (B : Bs) (C : Ctx) (irs : List IR) : St → Hp → (Int → Int → Hp → Prop) → Prop := fun σ H Q => ∃ G E ds E' z, Frm K B G H E σ ∧ evs C irs E = some (ds, E') ∧ rng ds = some z ∧
  ∀ i j G' H', Frm K B G' H' E' σ → Ext σ E E' G H G' H' → z = .list (rngI i (j - i).toNat) → RgOk i j → Q i j H'
theorem prg_a1 {p' pos' : Pos} (hg : Gl X "range") (hm : X.mg "range" = none) (ha : Good X B C a ia) (ns : notStar a = true) : PRg X (.Call (.Name "range" p') [a] [] pos') (tRg X.K B C [ia]) := by
  intro pins s σ H Q I ⟨G, E, ds, E', z, F, ee, er, k⟩
  refine prg_1 hg hm ha.E (star_cons ns) pins s σ H Q I ?_
  simp only [evs, Option.bind_eq_some_iff, Option.map_eq_some_iff] at ee
  obtain ⟨⟨x, E1⟩, e1, ⟨ds1, E2⟩, eq1, eq2⟩ := ee
  cases eq1
  cases eq2
  obtain ⟨i, j, h1 | h1, rfl, ok⟩ := rng_of er
  · obtain ⟨h1, rfl⟩ := h1
    cases h1
    refine ⟨G, E, _, _, F, e1, fun v G1 H1 F1 X1 r1 => ?_⟩
    cases r1
    exact ⟨j, rfl, k 0 j G1 H1 F1 X1 rfl ok⟩
  · simp at h1
theorem prg_a2 {p' pos' : Pos} (hg : Gl X "range") (hm : X.mg "range" = none) (ha : Good X B C a ia) (hb : Good X B C b ib) (ns : notStar a = true) (ns' : notStar b = true) : PRg X (.Call (.Name "range" p') [a, b] [] pos') (tRg X.K B C [ia, ib]) := by
  intro pins s σ H Q I ⟨G, E, ds, E', z, F, ee, er, k⟩
  refine prg_2 hg hm ha.E hb.E (star_cons ns) (star_cons ns') (star_plain (by simp [ns'])) pins s σ H Q I ?_
  simp only [evs, Option.bind_eq_some_iff, Option.map_eq_some_iff] at ee
  obtain ⟨⟨x, E1⟩, e1, ⟨ds1, E2⟩, ⟨⟨y, E3⟩, e3, ⟨ds2, E4⟩, eq3, eq4⟩, eq2⟩ := ee
  cases eq3
  cases eq4
  cases eq2
  obtain ⟨i, j, h1 | h1, rfl, ok⟩ := rng_of er
  · simp at h1
  · cases h1
    refine ⟨G, E, _, _, F, e1, fun v G1 H1 F1 X1 r1 => ⟨G1, E1, _, _, F1, e3, fun w G2 H2 F2 X2 r2 => ?_⟩⟩
    cases r1
    cases r2
    exact ⟨i, j, rfl, rfl, k i j G2 H2 F2 (X1.trans X2) rfl ok⟩
theorem g_lrg {er : Expr} {p : Pos} (hc : X.calm = true) (hg : Gl X "list") (hm : X.mg "list" = none) (he : PRg X er (tRg X.K B C irs)) (ns : notStar er = true) : Good X B C (.Call (.Name "list" p) [er] [] pos) (.lrg irs) := by
  refine Good.ofA (PE.imp (pe_listRg hc hg hm he (star_cons ns)) fun σ H Q ⟨G, E, d, E', F, ee, k⟩ => ?_) (fun _ z => by cases z)
  simp only [ev, Option.bind_eq_some_iff, Option.map_eq_some_iff] at ee
  obtain ⟨⟨ds, E1⟩, e1, z, e2, eq⟩ := ee
  cases eq
  refine ⟨G, E, ds, _, _, F, e1, e2, fun i j G1 H1 F1 X1 ez ok => ⟨ok, fun q hq => ?_⟩⟩
  subst ez
  obtain ⟨G', F', x', a⟩ := (Res.lst hq (rgV_ints i j)).toA (ir := .lrg irs) F1 X1
  exact k _ G' _ F' x' a
theorem g_trg {er : Expr} {p : Pos} (hc : X.calm = true) (hg : Gl X "tuple") (hm : X.mg "tuple" = none) (he : PRg X er (tRg X.K B C irs)) (ns : notStar er = true) : Good X B C (.Call (.Name "tuple" p) [er] [] pos) (.trg irs) := by
  refine Good.ofA (PE.imp (pe_tupRg hc hg hm he (star_cons ns)) fun σ H Q ⟨G, E, d, E', F, ee, k⟩ => ?_) (fun _ z => by cases z)
  simp only [ev, Option.bind_eq_some_iff, Option.map_eq_some_iff] at ee
  obtain ⟨⟨ds, E1⟩, e1, z, e2, xs, e3, eq⟩ := ee
  cases eq
  refine ⟨G, E, ds, _, _, F, e1, e2, fun i j G1 H1 F1 X1 ez ok => ⟨ok, fun q hq => ?_⟩⟩
  subst ez
  cases e3
  obtain ⟨G', F', x', a⟩ := (Res.tup hq (rgV_ints i j)).toA (ir := .trg irs) F1 X1
  exact k _ G' _ F' x' a
/-! ### in range -/
theorem cr_rangeA : CallR X (.type "range") (fun vs H Q => ∃ i j, (vs = [V.int j] ∧ i = 0 ∨ vs = [V.int i, V.int j]) ∧ ∀ p, H p = none → Q (.ref p) (upd H p (.rng i j))) := by
  intro pins s σ H vs us Q I r h
  obtain ⟨i, j, h1 | rfl, q⟩ := h
  · obtain ⟨rfl, rfl⟩ := h1
    obtain ⟨u1, rfl, ri⟩ := vals1 r
    obtain ⟨t, rfl⟩ := ri
    refine call_range_1 ⟨.ref s.heap.objs.size, upd H s.heap.objs.size (.rng 0 j), I.laid (t' := s.toks + 2) (fun b o e => Heap.get?_push_of_some _ e) (Nat.le_refl _) ⟨_, t, _, Heap.get?_push_size _ rfl⟩, rfl, q _ (I.hok.fresh (Nat.le_refl _))⟩
  · exact cr_range2 pins s σ H _ us Q I r ⟨i, j, rfl, q⟩
def rgAt : List D → Option (Int × Int)
  | [.int j] => some (0, j)
  | [.int i, .int j] => some (i, j)
  | _ => none
theorem inRng_at {x : D} {ds : List D} {z : Bool} (h : inRng x ds = some z) : ∃ k p, x = .int k ∧ rgAt ds = some p ∧ z = decide (p.1 ≤ k ∧ k < p.2) := by
  unfold inRng at h
  split at h
  · cases h; exact ⟨_, _, rfl, rfl, rfl⟩
  · cases h; exact ⟨_, _, rfl, rfl, rfl⟩
  · cases h
def tRo (K : PySem.W.Frag) (B : Bs) (C : Ctx) (irs : List IR) : TE := fun σ H Q => ∃ G E ds E' p, Frm K B G H E σ ∧ evs C irs E = some (ds, E') ∧ rgAt ds = some p ∧ ∀ q G' H', Frm K B G' H' E' σ → Ext σ E E' G H G' H' → H' q = none → Q (.ref q) (upd H' q (.rng p.1 p.2))
theorem pe_ro {p' pos' : Pos} (hg : Gl X "range") (hm : X.mg "range" = none) (ha : PA X (e :: es) (tEs X.K B C irs)) (n1 : notStar e = true) (n2 : es.all notStar = true) : PE X (.Call (.Name "range" p') (e :: es) [] pos') (tRo X.K B C irs) := by
  refine PE.imp (pe_callTy cr_rangeA hg hm PyProof.Rows.boot_range ha (by decide) (by decide) (star_cons n1) (star_plain n2)) fun σ H Q ⟨G, E, ds, E', p, F, ee, er, k⟩ => ⟨G, E, ds, E', F, ee, fun vs G1 H1 F1 X1 r1 => ⟨p.1, p.2, ?_, fun q hq => k q G1 H1 F1 X1 hq⟩⟩
  unfold rgAt at er
  split at er
  · cases er
    cases r1 with
    | cons rv rn => cases rv; cases rn; exact .inl ⟨rfl, rfl⟩
  · cases er
    cases r1 with
    | cons rv rn =>
      cases rv
      cases rn with
      | cons rv rn => cases rv; cases rn; exact .inr rfl
  · cases er
theorem op_notin_rng : OpR X (compareOp .NotIn) (fun x y H Q => ∃ i a lo hi, x = V.int i ∧ y = V.ref a ∧ H a = some (.rng lo hi) ∧ Q (.bl (!decide (lo ≤ i ∧ i < hi))) H) := by
  intro pins s σ H x y v u Q I rx ry h
  obtain ⟨i, a, lo, hi, rfl, rfl, ha, q⟩ := h
  obtain ⟨k, rfl⟩ := rx
  obtain rfl : u = Value.ref a := ry
  obtain ⟨t1, t2, t3, ho⟩ := I.hok a _ ha
  show wpAny _ _ (do return Value.bool (!(← contains (Value.ref a) (Value.int i k)))) _ _ s
  refine wpAny_bind (wpAny_contains_slot (T := "range") ⟨_, ho, rfl⟩ F.slot_range_contains (call_meets F.slot_range_contains ⟨_, ho, rfl⟩ F.entry_range_contains (F.args_range_contains_2 _ _) (q_contains a lo hi i t1 t2 t3 k)
    ⟨ho, wpAny_truthy_bool (wpAny_pure ⟨.bl _, H, I, rfl, ?_⟩)⟩))
  rw [place1]
  exact q
theorem op_inR (n : Bool) : OpR X (compareOp (if n then .NotIn else .In)) (fun x y H Q => ∃ i a lo hi, x = V.int i ∧ y = V.ref a ∧ H a = some (.rng lo hi) ∧ Q (.bl (if n then !decide (lo ≤ i ∧ i < hi) else decide (lo ≤ i ∧ i < hi))) H) := by
  cases n
  · exact op_in_rng
  · exact op_notin_rng
theorem g_inr (n : Bool) {er : Expr} (ha : Good X B C a ia) (hr : PE X er (tRo X.K B C irs)) (hm : behindInMarks (if n then .NotIn else .In) er = false) : Good X B C (.Compare a [if n then .NotIn else .In] [er] pos) (.inr n ia irs) := by
  refine Good.ofE (PE.imp (pe_cmpR (op_inR n) ha.E hr hm) fun σ H Q ⟨G, E, d, E', F, ee, k⟩ => ?_) (fun _ z => by cases z) rfl
  simp only [ev, Option.bind_eq_some_iff, Option.map_eq_some_iff] at ee
  obtain ⟨⟨x, E1⟩, e1, ⟨ds, E2⟩, e2, z, ez, eq⟩ := ee
  cases eq
  obtain ⟨i, p, rfl, ep, rfl⟩ := inRng_at ez
  refine ⟨G, E, _, E1, F, e1, fun v G1 H1 F1 X1 r1 => ⟨G1, E1, ds, _, p, F1, e2, ep, fun q G2 H2 F2 X2 hq => ?_⟩⟩
  cases r1
  refine ⟨i, q, p.1, p.2, rfl, rfl, upd_same, ?_⟩
  exact k _ G2 _ (F2.alloc _ hq) ((X1.trans X2).trans (Ext.alloc hq)) (.bl _)
theorem t_inr (n : Bool) {er : Expr} (ha : Good X B C a ia) (hr : PE X er (tRo X.K B C irs)) (hm : behindInMarks (if n then .NotIn else .In) er = false) : PT X (.Compare a [if n then .NotIn else .In] [er] pos) (tT X.K B C (.inr n ia irs)) := by
  refine PT.imp (pt_cmpR (op_inR n) ha.E hr hm) fun σ H Q ⟨G, E, d, E', F, ee, k⟩ => ?_
  simp only [ev, Option.bind_eq_some_iff, Option.map_eq_some_iff] at ee
  obtain ⟨⟨x, E1⟩, e1, ⟨ds, E2⟩, e2, z, ez, eq⟩ := ee
  cases eq
  obtain ⟨i, p, rfl, ep, rfl⟩ := inRng_at ez
  refine ⟨G, E, _, E1, F, e1, fun v G1 H1 F1 X1 r1 => ⟨G1, E1, ds, _, p, F1, e2, ep, fun q G2 H2 F2 X2 hq => ?_⟩⟩
  cases r1
  refine ⟨i, q, p.1, p.2, rfl, rfl, upd_same, _, rfl, ?_⟩
  exact k G2 _ (F2.alloc _ hq) ((X1.trans X2).trans (Ext.alloc hq))
/-! ### isinstance -/
def tyN : Ty → String
  | .int => "int"
  | .bool => "bool"
  | .str => "str"
  | .tuple => "tuple"
  | .list => "list"
  | .dict => "dict"
theorem boot_ty (t : Ty) : bootBuiltins (Str.ofString (tyN t)) = some (.type (tyN t)) := by cases t <;> decide +kernel
theorem ty_name (t : Ty) : (Str.ofString (tyN t)) ≠ "__name__" ∧ ((Str.ofString (tyN t)) == ("__debug__" : Str)) = false := by cases t <;> decide +kernel
theorem pe_tyName (t : Ty) {p : Pos} (hg : Gl X (Str.ofString (tyN t))) (hm : X.mg (Str.ofString (tyN t)) = none) : PE X (.Name (Str.ofString (tyN t)) p) (tC (.ty (tyN t))) :=
  pe_bltn hg hm (boot_ty t) rfl (ty_name t).1 (ty_name t).2
def dTy : D → String
  | .none => "NoneType"
  | .bool _ => "bool"
  | .int _ => "int"
  | .str _ => "str"
  | .list _ => "list"
  | .tuple _ => "tuple"
  | .dict _ => "dict"
theorem kit_of_ty (K : PySem.W.Frag) (d : D) (t : Ty) {b : Bool} (h : isTy d t = some b) : PySem.W.kitOne K (.type (dTy d)) (.type (tyN t)) = some b := by
  refine kit_ty ?_
  cases d <;> cases t <;> simp only [isTy] at h <;> simp only [dTy, tyN] <;> first | (cases h; decide +kernel) | (split at h <;> first | (cases h; done) | (cases h; decide +kernel))
theorem tyx_of {K : PySem.W.Frag} {G H : Hp} (s : Same G H) {v : V} {d : D} {t : Ty} {b : Bool} (h : RpC K G H v d) (hb : isTy d t = some b) : TyX K H v (.type (dTy d)) := by
  cases d with
  | none => rw [h.non]; exact .base .non
  | bool => rw [h.bl]; exact .base (.bl _)
  | int => rw [h.int]; exact .base (.int _)
  | str => rw [h.str]; exact .base (.str _)
  | list => obtain ⟨a, xs, rfl, hl, _⟩ := h.list s; exact .base (.lst hl)
  | tuple =>
    obtain ⟨a, xs, rfl, hl, _⟩ := h.tuple s
    rcases hl with (hl | ⟨o, hl⟩) | hl
    · exact .base (.tup hl)
    · exact .fTuple hl
    · obtain ⟨o, its, n, e, c, _⟩ := hl
      exact .kTuple e c
  | dict kvs =>
    simp only [isTy] at hb
    split at hb
    · rename_i q
      obtain ⟨a, ks, rfl, hl, _⟩ := h.dict s q
      rcases hl with hl | ⟨o, hl⟩
      · exact .base (.dK hl)
      · exact .fDict hl
    · cases hb
theorem g_isi {p p2 : Pos} (t : Ty) (ha : Good X B C a ia) (hg : Gl X "isinstance") (hm : X.mg "isinstance" = none) (hg2 : Gl X (Str.ofString (tyN t))) (hm2 : X.mg (Str.ofString (tyN t)) = none) (ns : notStar a = true) :
    Good X B C (.Call (.Name "isinstance" p) [a, .Name (Str.ofString (tyN t)) p2] [] pos) (.isi ia t) := by
  have pa : PA X [a, .Name (Str.ofString (tyN t)) p2] _ := pa_cons ha.O (pa_cons (pe_tyName t hg2 hm2) pa_nil (star_cons rfl)) (star_cons ns)
  refine Good.ofE (PE.imp (pe_callB call_isi hg hm PyProof.Rows.boot_isinstance pa (by decide) (by decide) (star_cons ns) (star_plain rfl)) fun σ H Q ⟨G, E, d, E', F, ee, k⟩ => ?_) (fun _ z => by cases z) rfl
  simp only [ev, Option.bind_eq_some_iff, Option.map_eq_some_iff] at ee
  obtain ⟨⟨tk, E1⟩, e1, x, ex, z, ez, eq⟩ := ee
  cases eq
  refine ⟨G, E, tk, _, F, e1, fun v G1 H1 F1 X1 r1 => ?_⟩
  exact ⟨v, _, _, _, z, rfl, .ty _, tyx_of F1.sub (r1.cont F1 ex) ez, kit_of_ty _ x t ez, k _ G1 H1 F1 X1 (.bl _)⟩
end
end Pv

set_option Elab.async false
set_option linter.all false
set_option maxRecDepth 100000
set_option maxHeartbeats 1000000
/-! PvH: what changes: methods that change a list, calls; dicts. -/
namespace Pv
open PySem PySem.Spec L2
section
variable {K : PySem.W.Frag} {B : Bs} {G G' H H' Gs Hs : Hp} {E E' : Env} {σ : St} {C : Ctx}
theorem puts_gets {i : Nat} {d : D} (h : puts E i d = some E') : ((∃ d0, gets E i = .ow d0) ∧ E' = E.set i (.ow d)) ∨ ((∃ d0, gets E i = .io d0) ∧ E' = E.set i (.io d)) := by
  unfold puts at h
  split at h
  · rename_i d0 w; cases h; exact .inl ⟨⟨d0, w⟩, rfl⟩
  · rename_i d0 w; cases h; exact .inr ⟨⟨d0, w⟩, rfl⟩
  · cases h
theorem mine_wr {i : Nat} {d : D} (h : mine E i = some d) : (gets E i = .ow d) ∨ gets E i = .io d := by
  unfold mine at h
  split at h
  · rename_i w; cases h; exact .inl w
  · rename_i w; cases h; exact .inr w
  · cases h
theorem mine_Wr {i : Nat} {d : D} (h : mine E i = some d) : Wr E i := (mine_wr h).elim (fun w => .inl ⟨d, w⟩) fun w => .inr ⟨d, w⟩
theorem Frm.wr (F : Frm K B G H E σ) {i : Nat} {d : D} (h : mine E i = some d) : ∃ a, σ[i]? = some (some (.ref a)) ∧ G a = none ∧ Own K G H a d := by
  rcases mine_wr h with w | w
  · obtain ⟨a, e, g, _, o⟩ := F.ow i d w; exact ⟨a, e, g, o⟩
  · obtain ⟨a, _, e, g, o⟩ := F.io i d w; exact ⟨a, e, g, o⟩
theorem Wr.ref (F : Frm K B G H E σ) {i : Nat} (w : Wr E i) : ∃ a, σ[i]? = some (some (.ref a)) := by
  rcases w with ⟨d, w⟩ | ⟨d, w⟩
  · obtain ⟨a, e, _⟩ := F.ow i d w; exact ⟨a, e⟩
  · obtain ⟨a, _, e, _⟩ := F.io i d w; exact ⟨a, e⟩
/-- a name's own object is written -/
theorem Frm.put (F : Frm K B G H E σ) {i : Nat} {a : Addr} {d : D} {o : HO} (hp : puts E i d = some E') (ha : σ[i]? = some (some (.ref a))) (n : Own K G (upd H a o) a d) :
    Frm K B G (upd H a o) E' σ ∧ Ext σ E E' G H G (upd H a o) := by
  have wi : Wr E i := by
    rcases puts_gets hp with ⟨h, _⟩ | ⟨h, _⟩
    · exact .inl h
    · exact .inr h
  have hi : i < E.length := gets_lt (by rcases wi with ⟨d0, w⟩ | ⟨d0, w⟩ <;> rw [w] <;> simp)
  have mn : Mn E σ a := ⟨i, wi, ha⟩
  obtain ⟨⟨y, ey⟩, ga⟩ := F.there mn
  have ne : ∀ j b, Wr E j → j ≠ i → σ[j]? = some (some (.ref b)) → b ≠ a := fun j b hj hji ej z => by
    subst z
    exact hji (F.dj j i b hj wi ej ha)
  have nk : ∀ b u, B.H0 b = some u → b ∉ B.ioa → b ≠ a := fun b u h0 hb z => by
    subst z
    rcases wi with ⟨d0, w⟩ | ⟨d0, w⟩
    · obtain ⟨a', e, _, h, _⟩ := F.ow i d0 w
      rw [ha] at e; cases e
      rw [h] at h0; cases h0
    · obtain ⟨a', h, e, _⟩ := F.io i d0 w
      rw [ha] at e; cases e
      exact hb (List.mem_of_getElem? h)
  obtain ⟨s, es, gs⟩ : ∃ s, E' = E.set i s ∧ ((∃ d0, gets E i = .ow d0) ∧ s = .ow d ∨ (∃ d0, gets E i = .io d0) ∧ s = .io d) := by
    rcases puts_gets hp with ⟨h, e⟩ | ⟨h, e⟩
    · exact ⟨_, e, .inl ⟨h, rfl⟩⟩
    · exact ⟨_, e, .inr ⟨h, rfl⟩⟩
  subst es
  have gg : ∀ j, gets (E.set i s) j = if j = i then s else gets E j := fun j => gets_set hi
  have wr : ∀ j, Wr (E.set i s) j → Wr E j := fun j hj => by
    by_cases q : j = i
    · rw [q]; exact wi
    · unfold Wr at hj ⊢
      rw [gg, if_neg q] at hj
      exact hj
  refine ⟨⟨fun b z q => ?_, by rw [List.length_set]; exact F.len, fun j d' hj => ?_, fun j d' hj => ?_, fun j d' hj => ?_, fun j k b hj hk => F.dj j k b (wr j hj) (wr k hk), fun b u h0 hb => by rw [upd_ne (nk b u h0 hb)]; exact F.keep b u h0 hb, fun b hb => ?_, F.new⟩, ⟨Same.refl _, fun b u e m => ?_, fun _ _ _ _ _ g => g, wr, fun b u e => ?_⟩⟩
  · have : b ≠ a := fun c => by subst c; rw [ga] at q; cases q
    rw [upd_ne this]; exact F.sub b z q
  · rw [gg] at hj
    by_cases q : j = i
    · rw [if_pos q] at hj
      rcases gs with ⟨_, rfl⟩ | ⟨_, rfl⟩ <;> cases hj
    · rw [if_neg q] at hj
      exact F.sh j d' hj
  · rw [gg] at hj
    by_cases q : j = i
    · rw [if_pos q] at hj
      subst q
      rcases gs with ⟨⟨d0, w⟩, rfl⟩ | ⟨_, rfl⟩
      · cases hj
        obtain ⟨a', e, g, h, _⟩ := F.ow j d0 w
        rw [ha] at e; cases e
        exact ⟨a, ha, g, h, n⟩
      · cases hj
    · rw [if_neg q] at hj
      obtain ⟨b, e1, g1, h1, o1⟩ := F.ow j d' hj
      exact ⟨b, e1, g1, h1, o1.up (Same.refl _) (upd_ne (ne j b (.inl ⟨_, hj⟩) q e1))⟩
  · rw [gg] at hj
    by_cases q : j = i
    · rw [if_pos q] at hj
      subst q
      rcases gs with ⟨_, rfl⟩ | ⟨⟨d0, w⟩, rfl⟩
      · cases hj
      · cases hj
        obtain ⟨a', h, e, g, _⟩ := F.io j d0 w
        rw [ha] at e; cases e
        exact ⟨a, h, ha, g, n⟩
    · rw [if_neg q] at hj
      obtain ⟨b, e0, e1, g1, o1⟩ := F.io j d' hj
      exact ⟨b, e0, e1, g1, o1.up (Same.refl _) (upd_ne (ne j b (.inr ⟨_, hj⟩) q e1))⟩
  · by_cases c : b = a
    · exact ⟨o, by rw [c, upd_same]⟩
    · rw [upd_ne c]; exact F.iok b hb
  · have : b ≠ a := fun c => m (by rw [c]; exact mn)
    rw [upd_ne this]; exact e
  · by_cases c : b = a
    · exact ⟨o, by rw [c, upd_same]⟩
    · exact ⟨u, by rw [upd_ne c]; exact e⟩
end

/-! ### list.append, extend, pop -/
section
variable {X : Cx} {B : Bs} {C : Ctx} {e a b c : Expr} {es : List Expr} {ir ia ib ic : IR} {irs : List IR} {pos apos cpos np : Pos} {x : Str} {i : Nat}
theorem few_ok {es : List Expr} {env : PySem.Env} (h : es.all notStar = true) (hl : es.length < 30) : ((backTo cpos (starEach es env)).all (fun x => !x.1) && (backToKw cpos (keywordEach [] env)).all (fun x => x.1.isSome)
    && decide (es.length + ([] : List Keyword).length + (if ([] : List Keyword).isEmpty then 0 else 1) < 30)) = true := by
  simp only [Bool.and_eq_true, decide_eq_true_eq]
  refine ⟨⟨?_, rfl⟩, by simpa using hl⟩
  rw [List.all_eq_true]
  intro p hp
  unfold backTo at hp
  obtain ⟨q, hq, rfl⟩ := List.mem_map.mp hp
  simp [star_all h q hq]
def mutN : Mut → Str
  | .append => "append"
  | .extend => "extend"
  | .pop => "pop"
  | .popA => "pop"
theorem seqIx {i : Int} {n : Nat} (h0 : 0 ≤ i) (h : i < n) : seqIndex? i n = some i.toNat := by
  have e : (if i < 0 then i + (n : Int) else i) = i := if_neg (by omega)
  have u : seqIndex? i n = if (decide (0 ≤ (if i < 0 then i + (n : Int) else i)) && decide ((if i < 0 then i + (n : Int) else i) < (n : Int))) = true then some (if i < 0 then i + (n : Int) else i).toNat else none := rfl
  rw [u, e, decide_eq_true h0, decide_eq_true h]; rfl
theorem RpAll.erase {K : PySem.W.Frag} {G : Hp} : ∀ {vs : List V} {ds : List D} (j : Nat), RpAll K G vs ds → RpAll K G (vs.eraseIdx j) (ds.eraseIdx j)
  | _, _, _, .nil => .nil
  | _, _, 0, .cons _ b => b
  | _, _, j + 1, .cons a b => .cons a (b.erase j)
theorem isL_of {o : Option D} (h : isL o = true) : ∃ xs, o = some (.list xs) := by
  cases o with
  | none => cases h
  | some d => cases d <;> first | exact ⟨_, rfl⟩ | cases h
theorem g_mut (m : Mut) (hv : PE X (.Name x np) (tVar i)) (ha : PA X es (tEs X.K B C irs)) (hn : m = .pop ∨ es ≠ []) (hp : m = .pop → es = [] ∧ irs = []) (ns : es.all notStar = true) (hl : es.length < 30) (hline : (apos.endLine == cpos.line) = true) :
    Good X B C (.Call (.Attribute (.Name x np) (mutN m) apos) es [] cpos) (.mut m i irs) := by
  -- what holds when the receiver is read, and behind the arguments
  have key : ∀ {σ : St} {H : Hp} {Q : VK} {G : Hp} {E : Env} {d : D} {E' : Env}, Frm X.K B G H E σ → ev C (.mut m i irs) E = some (d, E') → (∀ v G' H', Frm X.K B G' H' E' σ → Ext σ E E' G H G' H' → Rp X.K G' v d → Q v H') →
      ∃ l xs ds E1 ys, σ[i]? = some (some (.ref l)) ∧ H l = some (.lst xs) ∧ evs C irs E = some (ds, E1) ∧ mine E1 i = some ys ∧ ∀ vs G1 H1, Frm X.K B G1 H1 E1 σ → Ext σ E E1 G H G1 H1 → RpAll X.K G1 vs ds →
        ∃ z y' ds', mutop m ys ds = some (z, y') ∧ ys = .list ds' ∧ ∃ xs1, H1 l = some (.lst xs1) ∧ RpAll X.K G1 xs1 ds' ∧ ∀ v zs es', y' = .list es' → RpAll X.K G1 zs es' → Rp X.K G1 v z → Q v (upd H1 l (.lst zs)) := by
    intro σ H Q G E d E' F ee k
    simp only [ev] at ee
    split at ee
    · rename_i il
      obtain ⟨xs, ex⟩ := isL_of il
      simp only [Option.bind_eq_some_iff, Option.map_eq_some_iff] at ee
      obtain ⟨⟨ds, E1⟩, e1, ys, ey, ⟨z, y'⟩, em, E2, ep, eq⟩ := ee
      cases eq
      obtain ⟨l, el, gl, xs0, hl0, _⟩ := F.wr ex
      refine ⟨l, xs0, ds, E1, ys, el, hl0, e1, ey, fun vs G1 H1 F1 X1 r1 => ?_⟩
      have hys : ∃ ds', ys = .list ds' := by
        unfold mutop at em
        split at em <;> first | exact ⟨_, rfl⟩ | cases em
      obtain ⟨ds', rfl⟩ := hys
      obtain ⟨l', el', gl', xs1, hl1, r⟩ := F1.wr ey
      rw [el] at el'; cases el'
      refine ⟨_, y', ds', em, rfl, xs1, hl1, r, fun v zs es' ey' rz rv => ?_⟩
      subst ey'
      obtain ⟨F2, X2⟩ := F1.put (o := .lst zs) ep el ⟨zs, upd_same, rz⟩
      exact k v G1 _ F2 (X1.trans X2) rv
    · cases ee
  have sq : ∀ {H : Hp} {l : Addr} {xs : List V}, H l = some (.lst xs) → tyV X.K "list" (.ref l) H := fun h => .inl ⟨rfl, _, SqL.of h⟩
  refine Good.ofE ?_ (fun _ z => by cases z) rfl
  cases m with
  | append =>
    cases es with
    | nil => simp at hn
    | cons e0 es0 =>
      simp only [List.all_cons, Bool.and_eq_true] at ns
      refine PE.imp (pe_bm (name := "append") PySem.F.plainAttrs_list PySem.F.slot_list_append PySem.F.type_list_append mt_append hv ha rfl (few_ok (by simp [ns]) hl) hline (star_cons ns.1) (star_plain ns.2)) fun σ H Q ⟨G, E, d, E', F, ee, k⟩ => ?_
      obtain ⟨l, xs, ds, E1, ys, el, hl0, e1, ey, k1⟩ := key F ee k
      refine ⟨_, el, sq hl0, G, E, ds, E1, F, e1, fun vs G1 H1 F1 X1 r1 => ?_⟩
      obtain ⟨z, y', ds', em, rfl, xs1, hl1, r, k2⟩ := k1 vs G1 H1 F1 X1 r1
      unfold mutop at em
      split at em <;> first | contradiction | skip
      rename_i hys
      cases hys
      split at em
      · rename_i hz
        cases em
        cases r1 with
        | cons rv rn =>
          cases rn
          exact ⟨l, xs1, _, rfl, rfl, hl1, by rw [sl_eq, r.len]; exact hz, k2 _ _ _ rfl (r.append (.cons rv .nil)) .non⟩
      · cases em
  | extend =>
    cases es with
    | nil => simp at hn
    | cons e0 es0 =>
      simp only [List.all_cons, Bool.and_eq_true] at ns
      refine PE.imp (pe_bm (name := "extend") PySem.F.plainAttrs_list PySem.F.slot_list_extend PySem.F.type_list_extend mt_extend hv ha rfl (few_ok (by simp [ns]) hl) hline (star_cons ns.1) (star_plain ns.2)) fun σ H Q ⟨G, E, d, E', F, ee, k⟩ => ?_
      obtain ⟨l, xs, ds, E1, ys, el, hl0, e1, ey, k1⟩ := key F ee k
      refine ⟨_, el, sq hl0, G, E, ds, E1, F, e1, fun vs G1 H1 F1 X1 r1 => ?_⟩
      obtain ⟨z, y', ds', em, rfl, xs1, hl1, r, k2⟩ := k1 vs G1 H1 F1 X1 r1
      unfold mutop at em
      split at em <;> first | contradiction | skip
      rename_i hys
      cases hys
      split at em
      · rename_i hz
        cases em
        cases r1 with
        | cons rv rn =>
          cases rn
          cases rv with
          | lst h1 h2 =>
            exact ⟨l, _, xs1, _, rfl, rfl, hl1, F1.sub _ _ h1, by rw [sl_eq, r.len, h2.len]; exact hz, k2 _ _ _ rfl (r.append h2) .non⟩
      · cases em
  | pop =>
    obtain ⟨rfl, rfl⟩ := hp rfl
    refine PE.imp (pe_bm0 (name := "pop") PySem.F.plainAttrs_list PySem.F.slot_list_pop PySem.F.type_list_pop mt_pop hv rfl hline) fun σ H Q ⟨G, E, d, E', F, ee, k⟩ => ?_
    obtain ⟨l, xs, ds, E1, ys, el, hl0, e1, ey, k1⟩ := key F ee k
    simp only [evs] at e1
    cases e1
    obtain ⟨z, y', ds', em, rfl, xs1, hl1, r, k2⟩ := k1 [] G H F Ext.refl .nil
    refine ⟨_, el, sq hl0, ?_⟩
    simp only [mutop, Option.map_eq_some_iff] at em
    obtain ⟨y, ey', eq⟩ := em
    cases eq
    obtain ⟨v, ev', rv⟩ := r.get ey'
    exact ⟨l, xs1, v, rfl, rfl, hl1, by rw [r.len]; exact ev', k2 v _ _ rfl r.dropLast rv⟩
  | popA =>
    cases es with
    | nil => simp at hn
    | cons e0 es0 =>
      simp only [List.all_cons, Bool.and_eq_true] at ns
      refine PE.imp (pe_bm (name := "pop") PySem.F.plainAttrs_list PySem.F.slot_list_pop PySem.F.type_list_pop mt_popAt hv ha rfl (few_ok (by simp [ns]) hl) hline (star_cons ns.1) (star_plain ns.2)) fun σ H Q ⟨G, E, d, E', F, ee, k⟩ => ?_
      obtain ⟨l, xs, ds, E1, ys, el, hl0, e1, ey, k1⟩ := key F ee k
      refine ⟨_, el, sq hl0, G, E, ds, E1, F, e1, fun vs G1 H1 F1 X1 r1 => ?_⟩
      obtain ⟨z, y', ds', em, rfl, xs1, hl1, r, k2⟩ := k1 vs G1 H1 F1 X1 r1
      unfold mutop at em
      split at em <;> first | contradiction | skip
      rename_i hys
      cases hys
      split at em
      · rename_i hz
        simp only [Option.map_eq_some_iff] at em
        obtain ⟨y, ey', eq⟩ := em
        cases eq
        obtain ⟨v, ev', rv⟩ := r.get ey'
        cases r1 with
        | cons ri rn =>
          cases rn
          cases ri
          have hlen := r.len
          exact ⟨l, xs1, _, _, v, rfl, rfl, hl1, by omega, by omega, seqIx hz.1 (by omega), ev', k2 v _ _ rfl (r.erase _) rv⟩
      · cases em
end
end Pv

set_option Elab.async false
set_option linter.all false
set_option maxRecDepth 100000
set_option maxHeartbeats 1000000
/-! PvHu: d.update(e), keys tuples. -/
namespace Pv
open PySem PySem.Spec L2
section
variable {X : Cx} {B : Bs} {C : Ctx} {e : Expr} {ir : IR} {pos apos cpos np : Pos} {x : Str} {i : Nat}
theorem g_upd (hu : X.A.units + 65 < cLine) (hv : PE X (.Name x np) (tVar i)) (he : Good X B C e ir) (ns : notStar e = true) (hline : (apos.endLine == cpos.line) = true) :
    Good X B C (.Call (.Attribute (.Name x np) "update" apos) [e] [] cpos) (.upd i ir) := by
  refine Good.ofE ?_ (fun _ z => by cases z) rfl
  refine PE.imp (pe_bm (name := "update") PySem.F.plainAttrs_dict PySem.F.slot_dict_update PySem.F.type_dict_update (mt_updT hu) hv (g_cons he g_nil ns) rfl (few_ok (by simp [ns]) (by simp)) hline (star_cons ns) (star_plain (es := []) rfl)) fun σ H Q ⟨G, E, d, E', F, ee, k⟩ => ?_
  simp only [ev] at ee
  split at ee
  · rename_i il
    rw [Option.any_eq_true] at il
    obtain ⟨x0, ex, hx⟩ := il
    cases x0 <;> first | cases hx | skip
    rename_i kv0
    simp only [Option.bind_eq_some_iff, Option.map_eq_some_iff] at ee
    obtain ⟨⟨y, E1⟩, e1, xs, ex1, x', eu, E2, ep, eq⟩ := ee
    cases eq
    obtain ⟨l, el, gl, o0, hl0, do0⟩ := F.wr ex
    obtain ⟨ks0, r0, rfl, rfl, _⟩ := DO.t do0 hx
    refine ⟨_, el, .inr (.inr (.inl ⟨rfl, .inr ⟨_, hl0⟩⟩)), G, E, [y], E1, F, by simp only [evs]; rw [e1]; rfl, fun vs G1 H1 F1 X1 r1 => ?_⟩
    cases r1 with
    | cons ry rn =>
      cases rn
      cases xs <;> first | cases eu | skip
      rename_i kvs
      cases y <;> first | cases eu | skip
      rename_i ms
      dsimp only [updD] at eu
      split at eu
      · rename_i c
        cases eu
        simp only [Bool.and_eq_true, decide_eq_true_eq, Bool.or_eq_true] at c
        obtain ⟨⟨⟨c1, c2⟩, c3⟩, c4⟩ := c
        obtain ⟨l', el', gl', o1, hl1, do1⟩ := F1.wr ex1
        rw [el] at el'; cases el'
        obtain ⟨ks, r, rfl, rfl, rk⟩ := DO.t do1 c1
        obtain ⟨b, ks2, r2, rfl, rfl, hb, rk2⟩ := RpC.dictT (K := X.K) (Same.refl G1) (.inl ry) c2
        have hG : Rd G1 b (.dT ks2) := hb
        have hab : l ≠ b := fun z => by
          subst z
          rcases hG with h | ⟨o, h⟩ <;> (rw [gl'] at h; cases h)
        have hH : Rd H1 b (.dT ks2) := Same.rd F1.sub hG
        obtain ⟨F2, X2⟩ := F1.put (o := .dT (mergeT ks ks2)) ep el ⟨_, upd_same, .inr ⟨_, _, rfl, rfl, mergeT_rp rk2 rk⟩⟩
        refine ⟨l, b, ks, ks2, rfl, rfl, hl1, hH, hab, by rw [sl_eq, rk.len, rk2.len]; exact c3, ?_, k _ G1 _ F2 (X1.trans X2) .non⟩
        rcases c4 with c4 | c4
        · refine .inl fun z => ?_
          subst z
          cases rk
          simp at c4
        · refine .inr ?_
          unfold hashOk at c4
          split at c4
          · rename_i kss e3
            exact ⟨kss, keysT_int rk2 e3, of_decide_eq_true c4⟩
          · cases c4
      · cases eu
  · cases ee
end
end Pv

set_option Elab.async false
set_option linter.all false
set_option maxRecDepth 100000
set_option maxHeartbeats 1000000
/-! PvI: dicts, get, calls of defs. -/
namespace Pv
open PySem PySem.Spec L2
section
variable {K : PySem.W.Frag} {B : Bs} {G G' H H' Gs Hs : Hp} {E E' : Env} {σ : St} {C : Ctx}
/-- a new object that nobody sees is changed -/
theorem Frm.poke (F : Frm K B G H E σ) {p : Addr} (o : HO) (hp : ∃ y, H p = some y) (hg : G p = none) (hm : ¬ Mn E σ p) (h0 : B.H0 p = none) : Frm K B G (upd H p o) E σ where
  sub := fun b x e => by
    have : b ≠ p := fun z => by subst z; rw [hg] at e; cases e
    rw [upd_ne this]; exact F.sub b x e
  len := F.len
  sh := F.sh
  ow := fun i d w => by
    obtain ⟨a, e, g, h, q⟩ := F.ow i d w
    have : a ≠ p := fun z => hm ⟨i, .inl ⟨d, w⟩, by rw [← z]; exact e⟩
    exact ⟨a, e, g, h, q.up (Same.refl _) (upd_ne this)⟩
  io := fun i d w => by
    obtain ⟨a, e0, e, g, q⟩ := F.io i d w
    have : a ≠ p := fun z => hm ⟨i, .inr ⟨d, w⟩, by rw [← z]; exact e⟩
    exact ⟨a, e0, e, g, q.up (Same.refl _) (upd_ne this)⟩
  dj := F.dj
  keep := fun b x e m => by
    have : b ≠ p := fun z => by subst z; rw [h0] at e; cases e
    rw [upd_ne this]; exact F.keep b x e m
  iok := fun b m => by
    by_cases c : b = p
    · exact ⟨o, by rw [c, upd_same]⟩
    · rw [upd_ne c]; exact F.iok b m
  new := F.new
theorem Ext.poke (x : Ext σ E E' Gs Hs G H) {p : Addr} (o : HO) (hs : Hs p = none) : Ext σ E E' Gs Hs G (upd H p o) where
  g := x.g
  h := fun b u e m => by rw [upd_ne (ne_of_none e hs)]; exact x.h b u e m
  n := x.n
  w := x.w
  t := fun b u e => by
    by_cases c : b = p
    · exact ⟨o, by rw [c, upd_same]⟩
    · rw [upd_ne c]; exact x.t b u e
inductive VPs (K : PySem.W.Frag) (G : Hp) : List (V × V) → List D → Prop
  | nil : VPs K G [] []
  | cons {x y : V} {k d : D} {r : List (V × V)} {ds : List D} : Rp K G x k → Rp K G y d → VPs K G r ds → VPs K G ((x, y) :: r) (k :: d :: ds)
theorem vps_keys : ∀ {vps : List (V × V)} {ds : List D} {acc kvs : List (D × D)} {ks : List (Key × V)}, VPs K G vps ds → dputs ds acc = some kvs → RpKV K G ks acc →
    ∃ kv : List (Key × V), vps = kv.map (fun p => (kV p.1, p.2)) ∧ RpKV K G (mergeK ks kv) kvs ∧ 2 * kv.length = ds.length
  | _, _, _, _, _, .nil, e, r => by simp [dputs] at e; subst e; exact ⟨[], rfl, r, rfl⟩
  | _, _, _, _, ks, .cons (k := k) (d := d) (y := y) h1 h2 t, e, r => by
    simp only [dputs] at e
    split at e
    · rename_i hk
      obtain ⟨k', rfl⟩ := isKey_of hk
      obtain ⟨kv, e1, r1, l⟩ := vps_keys t e (r.put k' h2)
      refine ⟨(k', y) :: kv, ?_, r1, by simp; omega⟩
      rw [List.map_cons, ← e1, h1.key]
    · cases e
def flatP : List (IR × IR) → List IR
  | [] => []
  | (a, b) :: r => a :: b :: flatP r
def pairsTE (K : PySem.W.Frag) (B : Bs) (C : Ctx) (ps : List (IR × IR)) : List (TE × TE) := ps.map fun p => (tE K B C p.1, tE K B C p.2)
theorem d_pairs : ∀ (ps : List (IR × IR)) {G H : Hp} {E : Env} {ds : List D} {E' : Env} {Q : List (V × V) → Hp → Prop}, Frm K B G H E σ → evs C (flatP ps) E = some (ds, E') →
    (∀ vps G' H', Frm K B G' H' E' σ → Ext σ E E' G H G' H' → VPs K G' vps ds → Q vps H') → tPairs (pairsTE K B C ps) σ H Q
  | [], G, H, E, ds, E', Q, F, e, k => by
    simp only [flatP, evs] at e
    cases e
    exact k [] G H F Ext.refl .nil
  | (a, b) :: r, G, H, E, ds, E', Q, F, e, k => by
    simp only [flatP, evs, Option.bind_eq_some_iff, Option.map_eq_some_iff] at e
    obtain ⟨⟨x, E1⟩, e1, ⟨ds1, E2⟩, ⟨⟨y, E3⟩, e3, ⟨ds2, E4⟩, e4, eq1⟩, eq⟩ := e
    cases eq1
    cases eq
    exact ⟨G, E, x, E1, F, e1, fun v G1 H1 F1 X1 r1 => ⟨G1, E1, y, E3, F1, e3, fun w G2 H2 F2 X2 r2 => d_pairs r F2 e4 fun vps G3 H3 F3 X3 r3 => k _ G3 H3 F3 ((X1.trans X2).trans X3) (.cons (r1.up (X2.trans X3).g) (r2.up X3.g) r3)⟩⟩
end
section
variable {X : Cx} {B : Bs} {C : Ctx} {e a b c o : Expr} {es : List Expr} {ir ia ib ic io : IR} {irs : List IR} {pos apos cpos np p : Pos} {x : Str} {i : Nat}
inductive DctR (X : Cx) (B : Bs) (C : Ctx) : List (Option Expr) → List Expr → List (IR × IR) → Prop
  | nil : DctR X B C [] [] []
  | cons {k v : Expr} {ik iv : IR} {ks : List (Option Expr)} {vs : List Expr} {ps : List (IR × IR)} : Good X B C k ik → Good X B C v iv → DctR X B C ks vs ps → DctR X B C (some k :: ks) (v :: vs) ((ik, iv) :: ps)
theorem dct_pps : ∀ {ks : List (Option Expr)} {vs : List Expr} {ps : List (IR × IR)}, DctR X B C ks vs ps → PPs X pos ks vs (pairsTE X.K B C ps) ∧ ks.all (·.isSome) = true ∧ ks.length = vs.length ∧ ks.length = ps.length
  | _, _, _, .nil => ⟨pps_nil, rfl, rfl, rfl⟩
  | _, _, _, .cons hk hv t => by
    obtain ⟨h1, h2, h3, h4⟩ := dct_pps t
    exact ⟨pps_cons hk.E hv.E h1, by simp [h2], by simp [h3], by simp [h4]⟩
theorem flatP_len : ∀ ps : List (IR × IR), (flatP ps).length = 2 * ps.length
  | [] => rfl
  | (a, b) :: r => by simp [flatP, flatP_len r]; omega
theorem evs_len : ∀ {irs : List IR} {E : Env} {ds : List D} {E' : Env}, evs C irs E = some (ds, E') → ds.length = irs.length
  | [], _, _, _, e => by simp only [evs] at e; cases e; rfl
  | a :: r, _, _, _, e => by
    simp only [evs, Option.bind_eq_some_iff, Option.map_eq_some_iff] at e
    obtain ⟨⟨x, E1⟩, e1, ⟨ds1, E2⟩, e2, eq⟩ := e
    cases eq
    simp [evs_len e2]
theorem g_dct0 : Good X B C (.Dict [] [] pos) (.dct []) := by
  refine Good.ofA (PE.imp pe_dnewK fun σ H Q ⟨G, E, d, E', F, ee, k⟩ => ?_) (fun _ z => by cases z)
  simp only [ev, evs, Option.bind_some, List.length_nil, Nat.zero_le, if_true, dputs, Option.map_some] at ee
  cases ee
  intro p hp
  obtain ⟨G', F', x', a⟩ := (Res.dK hp (.nil : RpKV X.K G [] [])).toA (ir := .dct []) F Ext.refl
  exact k _ G' _ F' x' a
theorem g_dctT : Good X B C (.Dict [] [] pos) .dctT := by
  refine Good.ofA (PE.imp pe_dnewT fun σ H Q ⟨G, E, d, E', F, ee, k⟩ => ?_) (fun _ z => by cases z)
  simp only [ev] at ee
  cases ee
  intro p hp
  obtain ⟨G', F', x', a⟩ := (Res.dO hp (.inr ⟨_, _, rfl, rfl, (.nil : RpKT X.K G [] [])⟩)).toA (ir := .dctT) F Ext.refl
  exact k _ G' _ F' x' a
theorem g_dct {ks : List (Option Expr)} {vs : List Expr} {ps : List (IR × IR)} (h : DctR X B C ks vs ps) (h0 : ks ≠ []) (h15 : ks.length ≤ 15) : Good X B C (.Dict ks vs pos) (.dct (flatP ps)) := by
  obtain ⟨h1, h2, h3, h4⟩ := dct_pps (pos := pos) h
  refine Good.ofA (PE.imp (pe_disp h1 h2 h3 h0 h15) fun σ H Q ⟨G, E, d, E', F, ee, k⟩ => ?_) (fun _ z => by cases z)
  simp only [ev, Option.bind_eq_some_iff] at ee
  obtain ⟨⟨ds, E1⟩, e1, e2⟩ := ee
  have hl := evs_len e1
  rw [flatP_len] at hl
  simp only at e2
  split at e2
  · simp only [Option.map_eq_some_iff] at e2
    obtain ⟨kvs, e2, eq⟩ := e2
    cases eq
    intro p hp
    have F0 := F.alloc (.dK []) hp
    have m0 : ¬ Mn E σ p := F.notMn hp
    have hg := F.gnone hp
    refine d_pairs ps F0 e1 fun vps G1 H1 F1 X1 r1 => ?_
    have h1p : H1 p = some (.dK []) := X1.h p _ upd_same m0
    have g1p : G1 p = none := X1.n p _ (fun _ z => by cases z) upd_same m0 hg
    have m1 := X1.mn m0
    obtain ⟨kv, rfl, r, l⟩ := vps_keys r1 e2 (.nil : RpKV X.K G1 [] [])
    refine ⟨h1p, kv, rfl, by omega, ?_⟩
    have h0p := F.h0none hp
    have F2 := F1.poke (.dK (mergeK [] kv)) ⟨_, h1p⟩ g1p m1 h0p
    have X2 : Ext σ E _ G H G1 (upd H1 p (.dK (mergeK [] kv))) := ((Ext.alloc hp).trans X1).poke _ hp
    refine k _ G1 _ F2 X2 ?_
    unfold AsgR
    rw [if_pos (show isFr (.dct (flatP ps)) (.dict kvs) = true from rfl)]
    exact ⟨p, rfl, hp, g1p, h0p, m1, _, upd_same, .inl ⟨_, rfl, r⟩⟩
  · cases e2

/-! ### get -/
def notCall0 : Expr → Bool
  | .Call (.Name _ _) [] [] _ => false
  | _ => true
theorem base_ok {o : Expr} {m : Str} {env : PySem.Env} {whole : Sem Value} (h : notCall0 o = true) : attributeBase o m env whole = whole := by
  unfold attributeBase
  split
  · simp [notCall0] at h
  · rfl
theorem trees1 {e : Expr} {env : PySem.Env} (h : notStar e = true) : backTo cpos (starEach [e] env) = [(false, eval e env)] := by rw [star_cons h]; rfl
theorem trees2 {e f : Expr} {env : PySem.Env} (h : notStar e = true) (h' : notStar f = true) : backTo cpos (starEach [e, f] env) = [(false, eval e env), (false, eval f env)] := by rw [star_cons h, star_cons h']; rfl
theorem isD_of {K : PySem.W.Frag} {G H : Hp} (s : Same G H) {v : V} {x : D} (h : RpC K G H v x) (hd : isD x = true) : ∃ a, v = .ref a ∧ IsD H a := by
  cases x <;> simp only [isD] at hd <;> first | cases hd | skip
  rcases Bool.or_eq_true _ _ |>.mp hd with hd | hd
  · obtain ⟨a, ks, rfl, h1, _⟩ := h.dict s hd
    exact ⟨a, rfl, .inl ⟨ks, h1⟩⟩
  · obtain ⟨a, ks, _, rfl, _, h1, _⟩ := h.dictT s hd
    exact ⟨a, rfl, .inr ⟨ks, h1⟩⟩
theorem g_get1 (hu : X.A.units + 65 < cLine) (ho : Good X B C o io) (he : Good X B C e ir) (hb : notCall0 o = true) (ns : notStar e = true) (hline : (apos.endLine == cpos.line) = true) : Good X B C (.Call (.Attribute o "get" apos) [e] [] cpos) (.mth .get1 io [ir]) := by
  refine Good.ofE (PE.imp (pe_dget1 (by omega) ho.O he.E ⟨base_ok hb, few_ok (by simp [ns]) (by simp), hline, trees1 ns⟩) fun σ H Q ⟨G, E, d, E', F, ee, k⟩ => ?_) (fun _ z => by cases z) rfl
  simp only [ev, Option.bind_eq_some_iff] at ee
  obtain ⟨⟨t, E1⟩, e1, x, ex, e2⟩ := ee
  simp only at e2
  split at e2
  · rename_i hd
    simp only [evs, Option.bind_eq_some_iff, Option.map_eq_some_iff] at e2
    obtain ⟨⟨ds, E2⟩, ⟨⟨y, E3⟩, e3, ⟨ds1, E4⟩, eq1, eq2⟩, x2, ex2, z, ez, eq⟩ := e2
    cases eq1
    cases eq2
    cases eq
    refine ⟨G, E, t, E1, F, e1, fun v G1 H1 F1 X1 r1 => ?_⟩
    obtain ⟨a, rfl, ia⟩ := isD_of F1.sub (r1.cont F1 ex) hd
    refine ⟨a, rfl, ia, G1, E1, y, _, F1, e3, fun w G2 H2 F2 X2 r2 => ?_⟩
    have rc := (r1.up X2.g).cont F2 ex2
    simp only [mthop] at ez
    split at ez <;> first | contradiction | skip
    rename_i kvs k' _ hy
    cases hy
    rw [Option.map_eq_some_iff] at ez
    obtain ⟨rr, ez, rfl⟩ := ez
    obtain ⟨a', ov, ea, g, h⟩ := dlook_ok F2.sub rc (.inl r2) ez
    cases ea
    refine ⟨ov, g, k _ G2 H2 F2 (X1.trans X2) ?_⟩
    rcases h with ⟨rfl, rfl⟩ | ⟨v', d', rfl, rfl, r⟩
    · exact .non
    · exact r
  · cases e2
theorem insS_mem (k : Int) : ∀ (l : List Int) (j : Int), j ∈ insS k l ↔ j = k ∨ j ∈ l
  | [], j => by simp [insS]
  | x :: r, j => by
    rw [insS]
    split
    · simp
    · split
      · rename_i _ h; subst h; simp
      · rw [List.mem_cons, insS_mem k r j, List.mem_cons]
        constructor
        · rintro (h | h | h)
          · exact .inr (.inl h)
          · exact .inl h
          · exact .inr (.inr h)
        · rintro (h | h | h)
          · exact .inr (.inl h)
          · exact .inl h
          · exact .inr (.inr h)
theorem insS_lt (k : Int) : ∀ l : List Int, l.Pairwise (· < ·) → (insS k l).Pairwise (· < ·)
  | [], _ => by simp [insS]
  | x :: r, h => by
    have h1 := List.pairwise_cons.mp h
    rw [insS]
    split
    · rename_i q
      refine List.pairwise_cons.mpr ⟨fun y hy => ?_, h⟩
      rcases List.mem_cons.mp hy with rfl | hy
      · exact q
      · have := h1.1 y hy; omega
    · split
      · exact h
      · refine List.pairwise_cons.mpr ⟨fun y hy => ?_, insS_lt k r h1.2⟩
        rcases (insS_mem k r y).mp hy with rfl | hy
        · omega
        · exact h1.1 y hy
theorem dsort_mem (ns : List Int) (j : Int) : j ∈ dsort ns ↔ j ∈ ns := by
  induction ns with
  | nil => simp [dsort]
  | cons x r ih =>
    show j ∈ insS x (dsort r) ↔ _
    rw [insS_mem, ih, List.mem_cons]
theorem dsort_lt (ns : List Int) : (dsort ns).Pairwise (· < ·) := by
  induction ns with
  | nil => simp [dsort]
  | cons x r ih => exact insS_lt x _ ih
theorem srt_uniq : ∀ {a b : List Int}, a.Pairwise (· < ·) → b.Pairwise (· < ·) → (∀ k, k ∈ a ↔ k ∈ b) → a = b
  | [], [], _, _, _ => rfl
  | [], y :: b, _, _, h => by have := (h y).mpr (by simp); simp at this
  | x :: a, [], _, _, h => by have := (h x).mp (by simp); simp at this
  | x :: a, y :: b, ha, hb, h => by
    have ha2 := List.pairwise_cons.mp ha
    have hb2 := List.pairwise_cons.mp hb
    have e : x = y := by
      rcases List.mem_cons.mp ((h x).mp (by simp)) with e | e
      · exact e
      · rcases List.mem_cons.mp ((h y).mpr (by simp)) with e2 | e2
        · exact e2.symm
        · have := ha2.1 y e2; have := hb2.1 x e; omega
    subst e
    rw [srt_uniq ha2.2 hb2.2 fun k => ?_]
    constructor
    · intro hk
      rcases List.mem_cons.mp ((h k).mp (List.mem_cons_of_mem _ hk)) with e | e
      · subst e; have := ha2.1 k hk; omega
      · exact e
    · intro hk
      rcases List.mem_cons.mp ((h k).mpr (List.mem_cons_of_mem _ hk)) with e | e
      · subst e; have := hb2.1 k hk; omega
      · exact e
theorem rp_ints {K : PySem.W.Frag} {G : Hp} : ∀ ns : List Int, RpAll K G (ns.map V.int) (ns.map .int)
  | [] => .nil
  | _ :: r => .cons (.int _) (rp_ints r)
theorem insT_mem (k : List Int) : ∀ (l : List (List Int)) (j : List Int), j ∈ insT k l ↔ j = k ∨ j ∈ l
  | [], j => by simp [insT]
  | x :: r, j => by
    rw [insT]
    split
    · rw [List.mem_cons]
    · split
      · rename_i q
        subst q
        rw [List.mem_cons]
        constructor
        · rintro (h | h)
          · exact .inl h
          · exact .inr (.inr h)
        · rintro (h | h | h)
          · exact .inl h
          · exact .inl h
          · exact .inr h
      · rw [List.mem_cons, insT_mem k r j, List.mem_cons]
        constructor
        · rintro (h | h | h)
          · exact .inr (.inl h)
          · exact .inl h
          · exact .inr (.inr h)
        · rintro (h | h | h)
          · exact .inr (.inl h)
          · exact .inl h
          · exact .inr (.inr h)
theorem insT_lt (k : List Int) : ∀ l : List (List Int), l.Pairwise (· < ·) → (insT k l).Pairwise (· < ·)
  | [], _ => by simp [insT]
  | x :: r, h => by
    have h1 := List.pairwise_cons.mp h
    rw [insT]
    split
    · rename_i q
      refine List.pairwise_cons.mpr ⟨fun y hy => ?_, h⟩
      rcases List.mem_cons.mp hy with rfl | hy
      · exact q
      · exact List.lt_trans q (h1.1 y hy)
    · rename_i q1
      split
      · exact h
      · rename_i q2
        refine List.pairwise_cons.mpr ⟨fun y hy => ?_, insT_lt k r h1.2⟩
        rcases (insT_mem k r y).mp hy with rfl | hy
        · rcases Classical.em (x < y) with z | z
          · exact z
          · exact absurd (List.le_antisymm (List.not_lt.mp z) (List.not_lt.mp q1)) q2
        · exact h1.1 y hy
theorem dsortT_mem (ks : List (List Int)) (j : List Int) : j ∈ dsortT ks ↔ j ∈ ks := by
  induction ks with
  | nil => simp [dsortT]
  | cons x r ih =>
    show j ∈ insT x (dsortT r) ↔ _
    rw [insT_mem, ih, List.mem_cons]
theorem dsortT_lt (ks : List (List Int)) : (dsortT ks).Pairwise (· < ·) := by
  induction ks with
  | nil => simp [dsortT]
  | cons x r ih => exact insT_lt x _ ih
theorem srtT_uniq : ∀ {a b : List (List Int)}, a.Pairwise (· < ·) → b.Pairwise (· < ·) → (∀ k, k ∈ a ↔ k ∈ b) → a = b
  | [], [], _, _, _ => rfl
  | [], y :: b, _, _, h => by have := (h y).mpr (by simp); simp at this
  | x :: a, [], _, _, h => by have := (h x).mp (by simp); simp at this
  | x :: a, y :: b, ha, hb, h => by
    have ha2 := List.pairwise_cons.mp ha
    have hb2 := List.pairwise_cons.mp hb
    have e : x = y := by
      rcases List.mem_cons.mp ((h x).mp (by simp)) with e | e
      · exact e
      · rcases List.mem_cons.mp ((h y).mpr (by simp)) with e2 | e2
        · exact e2.symm
        · exact absurd (List.lt_trans (hb2.1 x e) (ha2.1 y e2)) (List.lt_irrefl y)
    subst e
    rw [srtT_uniq ha2.2 hb2.2 fun k => ⟨fun hk => ?_, fun hk => ?_⟩]
    · rcases List.mem_cons.mp ((h k).mp (List.mem_cons_of_mem _ hk)) with e | e
      · subst e
        exact absurd (ha2.1 k hk) (List.lt_irrefl k)
      · exact e
    · rcases List.mem_cons.mp ((h k).mpr (List.mem_cons_of_mem _ hk)) with e | e
      · subst e
        exact absurd (hb2.1 k hk) (List.lt_irrefl k)
      · exact e
theorem ints_data : ∀ {xs : List D} {k : List Int}, intsOf xs = some k → xs = k.map .int
  | [], k, e => by simp [intsOf] at e; subst e; rfl
  | d :: xs, k, e => by
    cases d <;> simp only [intsOf, Option.map_eq_some_iff] at e <;> first | contradiction | skip
    obtain ⟨r, e1, rfl⟩ := e
    rw [ints_data e1]; rfl
theorem tupI_data {d : D} {k : List Int} (e : tupI d = some k) : d = .tuple (k.map .int) ∧ k ≠ [] := by
  unfold tupI at e
  split at e
  · have h := ints_data e
    refine ⟨by rw [h], fun z => ?_⟩
    rw [z] at h; cases h
  · cases e
theorem ints_mapI : ∀ L : List Int, intsOf (L.map .int) = some L
  | [] => rfl
  | x :: r => by
    rw [List.map_cons]
    show (intsOf (r.map .int)).map (x :: ·) = _
    rw [ints_mapI r]; rfl
theorem tups_of {K : PySem.W.Frag} {G H : Hp} (s : Same G H) : ∀ {xs : List D} {kss : List (List Int)} {vs : List V}, tupsI xs = some kss → RpAll K G vs xs → ∃ ks : List (Addr × List Int), vs = ks.map (fun p => V.ref p.1) ∧ ks.map (·.2) = kss ∧ ∀ p ∈ ks, SqT K H p.1 (p.2.map V.int) ∧ Rp K G (.ref p.1) (.tuple (p.2.map .int)) ∧ p.2 ≠ []
  | [], _, _, e, h => by
    cases h
    simp [tupsI] at e
    subst e
    exact ⟨[], rfl, rfl, fun _ h => by simp at h⟩
  | d :: xs, kss, _, e, h => by
    cases h with
    | cons h1 h2 =>
      simp only [tupsI, Option.bind_eq_some_iff, Option.map_eq_some_iff] at e
      obtain ⟨k, e1, r, e2, rfl⟩ := e
      obtain ⟨rfl, hne⟩ := tupI_data e1
      obtain ⟨ks, rfl, rfl, h3⟩ := tups_of s e2 h2
      obtain ⟨l, vs, rfl, hl, q⟩ := RpC.tuple s (show RpC K G H _ _ from .inl h1)
      have evs := q.ints (ints_mapI k)
      subst evs
      refine ⟨(l, k) :: ks, rfl, rfl, fun p hp => ?_⟩
      rcases List.mem_cons.mp hp with rfl | hp
      · exact ⟨hl, h1, hne⟩
      · exact h3 p hp
theorem okd_tuI (k : List Int) : okD (.tuple (k.map .int)) = true := by
  show okds (k.map PyData.int) 39 = true
  induction k with
  | nil => rfl
  | cons a r ih =>
    show (true && okds (r.map PyData.int) 39) = true
    rw [ih]; rfl
theorem g_srs {q : Pos} {p2 : Pos} (hu : X.A.units + 65 < cLine) (hc : X.calm = true) (hg : Gl X "sorted") (hm : X.mg "sorted" = none) (hg2 : Gl X "set") (hm2 : X.mg "set" = none) (he : Good X B C e ir) (ns : notStar e = true) : Good X B C (.Call (.Name "sorted" p) [.Call (.Name "set" p2) [e] [] q] [] pos) (.srs ir) := by
  refine Good.ofA (PE.imp (PE.or (pe_srsU hu hc hg hm hg2 hm2 he.E (by rw [star_cons ns])) (PE.or (pe_srs hc hg hm hg2 hm2 he.E (by rw [star_cons ns])) (pe_srsT hc hg hm hg2 hm2 he.E (by rw [star_cons ns])))) fun σ H Q ⟨G, E, d, E', F, ee, k⟩ => ?_) (fun _ z => by cases z)
  simp only [ev, Option.bind_eq_some_iff, Option.map_eq_some_iff] at ee
  obtain ⟨⟨y, E1⟩, e1, z, ez, eq⟩ := ee
  cases eq
  have hInt : ∀ {xs : List D} {z : D}, ((intsOf xs).bind fun ns => if ns.length ≤ 60 then some (PyData.list ((dsort ns).map .int)) else none) = some z → ∃ ms, intsOf xs = some ms ∧ ms.length ≤ 60 ∧ z = .list ((dsort ms).map .int) := fun {xs z} e => by
    simp only [Option.bind_eq_some_iff] at e
    obtain ⟨ms, hms, e⟩ := e
    split at e
    · cases e; exact ⟨ms, hms, by assumption, rfl⟩
    · cases e
  cases y <;> simp only [srsD] at ez <;> first | contradiction | skip
  · rename_i xs
    have old : ∀ {z : D}, ((intsOf xs).bind fun ns => if ns.length ≤ 60 then some (PyData.list ((dsort ns).map .int)) else none) = some z → _ := fun {z} ez => hInt ez
    split at ez
    · rename_i k0 ks0 hts
      split at ez
      · cases ez
        rename_i hl
        refine .inl ⟨G, E, _, _, F, e1, fun v G1 H1 F1 X1 r1 => ?_⟩
        obtain ⟨l, vs, rfl, hl1, q1⟩ := RpC.list F1.sub (show RpC X.K G1 H1 v (.list xs) from .inl r1)
        obtain ⟨ks, rfl, hks, h3⟩ := tups_of F1.sub hts q1
        have hkl : ks.length = ks0.length + 1 := by
          have := congrArg List.length hks
          rw [List.length_map, List.length_cons] at this; exact this
        refine ⟨l, ks, rfl, SqL.of hl1, fun p hp => (h3 p hp).1, fun p hp => RpC.dp F1.sub (.inl (h3 p hp).2.1) (okd_tuI _), by omega, fun p hp => (h3 p hp).2.2, fun L' p hs ha hlt hn => ?_⟩
        have eo : L'.map (·.2) = dsortT (k0 :: ks0) := srtT_uniq hlt (dsortT_lt _) fun j => by
          rw [dsortT_mem, ← hks, List.mem_map, List.mem_map]
          constructor
          · rintro ⟨q, hq, rfl⟩; exact ⟨q, hs q hq, rfl⟩
          · rintro ⟨q, hq, rfl⟩
            obtain ⟨q', hq', e⟩ := List.mem_map.mp (ha q hq)
            exact ⟨q', hq', e⟩
        have rp : ∀ L2 : List (Addr × List Int), (∀ q ∈ L2, q ∈ ks) → RpAll X.K G1 (L2.map fun q => V.ref q.1) ((L2.map (·.2)).map fun k => .tuple (k.map .int)) := by
          intro L2
          induction L2 with
          | nil => intro _; exact .nil
          | cons q L2 ih =>
            intro h
            exact .cons (h3 q (h q List.mem_cons_self)).2.1 (ih fun r hr => h r (List.mem_cons_of_mem _ hr))
        rw [← eo] at k
        obtain ⟨G', F', x', a⟩ := (Res.lst hn (rp L' hs)).toA (ir := .srs ir) F1 X1
        exact k _ G' _ F' x' a
      · cases ez
    · obtain ⟨ms, hms, hl, rfl⟩ := hInt ez
      refine .inr (.inl ⟨G, E, _, _, F, e1, fun v G1 H1 F1 X1 r1 => ?_⟩)
      obtain ⟨l, vs, rfl, hl1, q1⟩ := RpC.list F1.sub (show RpC X.K G1 H1 v (.list xs) from .inl r1)
      have evs := q1.ints hms
      subst evs
      refine ⟨l, ms, rfl, SqL.of hl1, by omega, fun out p hp hm hn => ?_⟩
      have eo : out = dsort ms := srt_uniq hp (dsort_lt ms) fun k => by rw [hm, dsort_mem]
      subst eo
      obtain ⟨G', F', x', a⟩ := (Res.lst hn (rp_ints (dsort ms))).toA (ir := .srs ir) F1 X1
      exact k _ G' _ F' x' a
  · obtain ⟨ms, hms, hl, rfl⟩ := hInt ez
    rename_i xs
    refine .inr (.inr ⟨G, E, _, _, F, e1, fun v G1 H1 F1 X1 r1 => ?_⟩)
    obtain ⟨l, vs, rfl, hl1, q1⟩ := RpC.tuple F1.sub (show RpC X.K G1 H1 v (.tuple xs) from .inl r1)
    have evs := q1.ints hms
    subst evs
    refine ⟨l, ms, rfl, hl1, by omega, fun out p hp hm hn => ?_⟩
    have eo : out = dsort ms := srt_uniq hp (dsort_lt ms) fun k => by rw [hm, dsort_mem]
    subst eo
    obtain ⟨G', F', x', a⟩ := (Res.lst hn (rp_ints (dsort ms))).toA (ir := .srs ir) F1 X1
    exact k _ G' _ F' x' a
theorem idx_ne : ∀ (l : List Int) (k : Int) (m : Nat) (h : m < l.length), m < l.idxOf k → l[m] ≠ k
  | [], _, _, h, _ => by simp at h
  | x :: r, k, m, h, hm => by
    rw [List.idxOf_cons] at hm
    cases q : (x == k) with
    | true => rw [q] at hm; simp at hm
    | false =>
      rw [q] at hm
      cases m with
      | zero => exact fun e => by rw [List.getElem_cons_zero] at e; rw [e, beq_self_eq_true] at q; cases q
      | succ m =>
        rw [List.getElem_cons_succ]
        exact idx_ne r k m (by simpa using h) (by simpa using hm)
theorem g_lix (ho : Good X B C o io) (he : Good X B C e ir) (hb : notCall0 o = true) (ns : notStar e = true) (hline : (apos.endLine == cpos.line) = true) : Good X B C (.Call (.Attribute o "index" apos) [e] [] cpos) (.lix io ir) := by
  refine Good.ofE (PE.imp (pe_bm (r := rIndex X.K) PySem.F.plainAttrs_list PySem.F.slot_list_index PySem.F.type_list_index mt_index ho.O (pa_cons he.E pa_nil (by rw [star_cons ns])) (base_ok hb) (few_ok (by simp [ns]) (by simp)) hline (by rw [star_cons ns]) rfl) fun σ H Q ⟨G, E, d, E', F, ee, k⟩ => ?_) (fun _ z => by cases z) rfl
  simp only [ev, Option.bind_eq_some_iff] at ee
  obtain ⟨⟨t, E1⟩, e1, x, ex, e2⟩ := ee
  simp only at e2
  split at e2
  · rename_i hd
    simp only [Option.bind_eq_some_iff, Option.map_eq_some_iff] at e2
    obtain ⟨⟨y, E2⟩, e3, x2, ex2, z, ez, eq⟩ := e2
    cases eq
    refine ⟨G, E, t, E1, F, e1, fun v G1 H1 F1 X1 r1 => ?_⟩
    cases x <;> simp only [isL] at hd <;> first | cases hd | skip
    obtain ⟨l, vs, rfl, hl1, q1⟩ := (r1.cont F1 ex).list F1.sub
    refine ⟨.inl ⟨rfl, vs, SqL.of hl1⟩, G1, E1, y, _, F1, e3, fun w G2 H2 F2 X2 r2 => ?_⟩
    have rc := (r1.up X2.g).cont F2 ex2
    cases x2 <;> cases y <;> simp only [lixD] at ez <;> first | contradiction | skip
    rename_i xs2 kk
    simp only [Option.bind_eq_some_iff] at ez
    obtain ⟨ms, hms, ez⟩ := ez
    split at ez
    · rename_i hmem
      cases ez
      obtain ⟨l2, vs2, el2, hl2, q2⟩ := rc.list F2.sub
      cases el2
      have evs := q2.ints hms
      subst evs
      cases r2
      have hj : ms.idxOf kk < ms.length := List.idxOf_lt_length_of_mem hmem
      refine ⟨l, ms.map V.int, .int kk, ms.idxOf kk, .int kk, rfl, rfl, SqL.of hl2, rfl, ?_, ?_, ?_, ?_, k _ G2 H2 F2 (X1.trans X2) (.int _)⟩
      · rw [List.all_map, List.all_eq_true]; intro a _; rfl
      · rw [List.getElem?_map, List.getElem?_eq_getElem hj, List.getElem_idxOf hj]; rfl
      · show (kk == kk) = true
        exact beq_self_eq_true _
      · intro m z' hm hz
        rw [List.getElem?_map, Option.map_eq_some_iff] at hz
        obtain ⟨b, hb2, rfl⟩ := hz
        obtain ⟨hm2, rfl⟩ := List.getElem?_eq_some_iff.mp hb2
        show (ms[m] == kk) = false
        exact beq_false_of_ne (idx_ne ms kk m hm2 hm)
    · cases ez
  · cases e2
def rCntD (K : PySem.W.Frag) : V → List V → Hp → VK → Prop := fun x xs H Q => ∃ (a : Addr) (y : V) (d : PyData) (ds : List PyData), x = V.ref a ∧ xs = [y] ∧ Dp K H (V.ref a) (.list ds) ∧ Dp K H y d ∧
  SeqAt.shaped (.list ds) = true ∧ SeqAt.shaped d = true ∧ Q (.int (ds.countP fun z => PyData.eqv z d : Nat)) H
theorem mt_countD (hu : X.A.units + 65 < cLine) : MtR X "list.count" (rCntD X.K) := by
  intro pins s σ H x xs v us Q I rx rxs h
  obtain ⟨a, y, d, ds, rfl, rfl, hl, hy, sl, sd, q⟩ := h
  cases rx
  cases rxs with
  | cons ry rt =>
    rename_i uy ut
    cases rt
    obtain ⟨bs, r1⟩ := Dp.reads I d y uy hy ry
    have hxs : PyData.canLayAll0 ds = true := SeqAt.canLay_of_shaped sl
    have hroom : X.A.units + 1 + min (PyData.depthAll ds) d.depth < cLine := room_t sd hu
    cases hl with
    | lst hs ha =>
      obtain ⟨its, rv, ⟨⟨cls, dd, data, sls⟩, n, ho, hc, hdn, hdt⟩, hlen⟩ := I.list hs
      simp only at hc hdt
      subst hc hdt
      obtain ⟨as, h4⟩ := Dp.readsAll I ds _ its ha rv
      have hmap : its.map (SeqAt.readOf s.heap) = ds := SeqAt.readsAll_map ds its as hxs h4
      have ec : its.toArray.toList.countP (fun u => PyData.eqv (SeqAt.readOf s.heap u) d) = ds.countP (fun z => PyData.eqv z d) := by
        rw [← hmap, List.countP_map]; rfl
      refine call_meets PySem.F.slot_list_count ⟨_, ho, rfl⟩ PySem.F.entry_list_count (PySem.F.args_list_count_2 _ _)
        (SeqAt.list_countAt a its.toArray n dd sls uy (fun u => PyData.eqv (SeqAt.readOf s.heap u) d)) ⟨ho, SeqAt.items_eqAt (vs := its.toArray) (show ReadsAll s.heap its.toArray.toList ds as from h4) r1 hxs (SeqAt.canLay_of_shaped sd) hroom, ?_⟩
      refine ⟨.int (ds.countP fun z => PyData.eqv z d : Nat), H, I.tok _, ⟨s.toks, ?_⟩, q⟩
      rw [ec]
theorem mt_or {id : String} {r r' : V → List V → Hp → VK → Prop} (h : MtR X id r) (h' : MtR X id r') : MtR X id (fun x xs H Q => r x xs H Q ∨ r' x xs H Q) := fun pins s σ H x xs v us Q I rx rxs q =>
  q.elim (h pins s σ H x xs v us Q I rx rxs) (h' pins s σ H x xs v us Q I rx rxs)
theorem g_cnt (hu : X.A.units + 65 < cLine) (ho : Good X B C o io) (he : Good X B C e ir) (hb : notCall0 o = true) (ns : notStar e = true) (hline : (apos.endLine == cpos.line) = true) : Good X B C (.Call (.Attribute o "count" apos) [e] [] cpos) (.cnt io ir) := by
  refine Good.ofE (PE.imp (pe_bm (r := fun x xs H Q => rCntI X.K x xs H Q ∨ rCntD X.K x xs H Q) PySem.F.plainAttrs_list PySem.F.slot_list_count PySem.F.type_list_count (mt_or mt_lcount (mt_countD hu)) ho.O (pa_cons he.E pa_nil (by rw [star_cons ns])) (base_ok hb) (few_ok (by simp [ns]) (by simp)) hline (by rw [star_cons ns]) rfl) fun σ H Q ⟨G, E, d, E', F, ee, k⟩ => ?_) (fun _ z => by cases z) rfl
  simp only [ev, Option.bind_eq_some_iff] at ee
  obtain ⟨⟨t, E1⟩, e1, x, ex, e2⟩ := ee
  simp only at e2
  split at e2
  · rename_i hd
    simp only [Option.bind_eq_some_iff, Option.map_eq_some_iff] at e2
    obtain ⟨⟨y, E2⟩, e3, x2, ex2, z, ez, eq⟩ := e2
    cases eq
    refine ⟨G, E, t, E1, F, e1, fun v G1 H1 F1 X1 r1 => ?_⟩
    cases x <;> simp only [isL] at hd <;> first | cases hd | skip
    obtain ⟨l, vs, rfl, hl1, q1⟩ := (r1.cont F1 ex).list F1.sub
    refine ⟨.inl ⟨rfl, vs, SqL.of hl1⟩, G1, E1, y, _, F1, e3, fun w G2 H2 F2 X2 r2 => ?_⟩
    have rc := (r1.up X2.g).cont F2 ex2
    cases x2 <;> cases y <;> simp only [cntD] at ez <;> first | contradiction | skip
    · rename_i xs2 kk
      simp only [Option.map_eq_some_iff] at ez
      obtain ⟨ms, hms, ez⟩ := ez
      cases ez
      obtain ⟨l2, vs2, el2, hl2, q2⟩ := rc.list F2.sub
      cases el2
      have evs := q2.ints hms
      subst evs
      cases r2
      exact .inl ⟨l, ms, kk, rfl, rfl, SqL.of hl2, k _ G2 H2 F2 (X1.trans X2) (.int _)⟩
    all_goals
      split at ez
      · rename_i o
        cases ez
        rw [Bool.and_eq_true] at o
        obtain ⟨l2, vs2, el2, hl2, q2⟩ := rc.list F2.sub
        cases el2
        exact .inr ⟨l, _, _, _, rfl, rfl, rc.dp F2.sub o.1, (show RpC X.K G2 H2 _ _ from .inl r2).dp F2.sub o.2, okD_shaped o.1, okD_shaped o.2, k _ G2 H2 F2 (X1.trans X2) (.int _)⟩
      · cases ez
  · cases e2
theorem g_get2 {f : Expr} {jr : IR} (hu : X.A.units + 65 < cLine) (ho : Good X B C o io) (he : Good X B C e ir) (hf : Good X B C f jr) (hb : notCall0 o = true) (ns : notStar e = true) (ns' : notStar f = true) (hline : (apos.endLine == cpos.line) = true) :
    Good X B C (.Call (.Attribute o "get" apos) [e, f] [] cpos) (.mth .get2 io [ir, jr]) := by
  refine Good.ofE (PE.imp (pe_dget2 (by omega) ho.O he.E hf.E ⟨base_ok hb, few_ok (by simp [ns, ns']) (by simp), hline, trees2 ns ns'⟩) fun σ H Q ⟨G, E, d, E', F, ee, k⟩ => ?_) (fun _ z => by cases z) rfl
  simp only [ev, Option.bind_eq_some_iff] at ee
  obtain ⟨⟨t, E1⟩, e1, x, ex, e2⟩ := ee
  simp only at e2
  split at e2
  · rename_i hd
    simp only [evs, Option.bind_eq_some_iff, Option.map_eq_some_iff] at e2
    obtain ⟨⟨ds, E2⟩, ⟨⟨y, E3⟩, e3, ⟨ds1, E4⟩, ⟨⟨y', E5⟩, e5, ⟨ds2, E6⟩, eq3, eq4⟩, eq2⟩, x2, ex2, z, ez, eq⟩ := e2
    cases eq3
    cases eq4
    cases eq2
    cases eq
    refine ⟨G, E, t, E1, F, e1, fun v G1 H1 F1 X1 r1 => ?_⟩
    obtain ⟨a, rfl, ia⟩ := isD_of F1.sub (r1.cont F1 ex) hd
    refine ⟨a, rfl, ia, G1, E1, y, E3, F1, e3, fun w G2 H2 F2 X2 r2 => ⟨G2, E3, y', _, F2, e5, fun w' G3 H3 F3 X3 r3 => ?_⟩⟩
    have rc := (r1.up (X2.trans X3).g).cont F3 ex2
    simp only [mthop] at ez
    split at ez <;> first | contradiction | skip
    rename_i kvs k' d' _ hy
    cases hy
    rw [Option.map_eq_some_iff] at ez
    obtain ⟨rr, ez, rfl⟩ := ez
    obtain ⟨a', ov, ea, g, h⟩ := dlook_ok F3.sub rc (.inl (r2.up X3.g)) ez
    cases ea
    refine ⟨ov, g, k _ G3 H3 F3 ((X1.trans X2).trans X3) ?_⟩
    rcases h with ⟨rfl, rfl⟩ | ⟨v', d', rfl, rfl, r⟩
    · exact r3
    · exact r
  · cases e2

/-! ### calls -/
structure CallEnd (K : PySem.W.Frag) (G H : Hp) (as : List Addr) (G' H' : Hp) (cs' : List D) (v : V) (r : D) : Prop where
  g : Same G G'
  sub : Same G' H'
  keep : ∀ b o, H b = some o → b ∉ as → H' b = some o
  new : ∀ b o, NT o → G' b = some o → (∃ u, G b = some u) ∨ H b = none
  own : Paired (fun a d => G' a = none ∧ Own K G' H' a d) as cs'
  rp : Rp K G' v r
/-- the promise of a def, by the interpreter -/
def spF (K : PySem.W.Frag) (cf : Nat → List D → Option (D × List D)) (f np : Nat) : Sp := fun vs H Q _ => ∃ (G : Hp) (as : List Addr) (cs : List D) (ws : List V) (ds : List D) (r : D) (cs' : List D),
  vs = as.map V.ref ++ ws ∧ vs.length = np ∧ Same G H ∧ as.Nodup ∧ Paired (fun a d => G a = none ∧ Own K G H a d) as cs ∧ RpAll K G ws ds ∧ cf f (cs ++ ds) = some (r, cs') ∧ as.length = cs'.length ∧
    ∀ v G' H', CallEnd K G H as G' H' cs' v r → Q v H'
end
end Pv

set_option Elab.async false
set_option linter.all false
set_option maxRecDepth 100000
set_option maxHeartbeats 1000000
/-! PvJ: calls of defs. -/
namespace Pv
open PySem PySem.Spec L2
section
variable {K : PySem.W.Frag} {B : Bs} {G G' H H' Gs Hs : Hp} {E E' : Env} {σ : St} {C : Ctx}
def RefAt (σ : St) (i : Nat) (a : Addr) : Prop := σ[i]? = some (some (.ref a))
/-- the same kind of slot, the content anew -/
def PutR (s s' : Slot) (d : D) : Prop := ((∃ d0, s = .ow d0) ∧ s' = .ow d) ∨ ((∃ d0, s = .io d0) ∧ s' = .io d)
theorem puts_at {i : Nat} {d : D} (h : puts E i d = some E') : E'.length = E.length ∧ PutR (gets E i) (gets E' i) d ∧ ∀ j, j ≠ i → gets E' j = gets E j := by
  rcases puts_gets h with ⟨⟨d0, w⟩, rfl⟩ | ⟨⟨d0, w⟩, rfl⟩
  · have hi : i < E.length := gets_lt (by rw [w]; simp)
    exact ⟨by simp, .inl ⟨⟨d0, w⟩, by rw [gets_set hi]; simp⟩, fun j hj => by rw [gets_set hi, if_neg hj]⟩
  · have hi : i < E.length := gets_lt (by rw [w]; simp)
    exact ⟨by simp, .inr ⟨⟨d0, w⟩, by rw [gets_set hi]; simp⟩, fun j hj => by rw [gets_set hi, if_neg hj]⟩
theorem putL_at : ∀ {ios : List Nat} {cs : List D} {E E' : Env}, putL E ios cs = some E' → ios.Nodup → E'.length = E.length ∧ ios.length = cs.length ∧ (∀ j, j ∉ ios → gets E' j = gets E j) ∧ ∀ (k j : Nat) (d : D), ios[k]? = some j → cs[k]? = some d → PutR (gets E j) (gets E' j) d
  | [], [], _, _, h, _ => by simp only [putL] at h; cases h; exact ⟨rfl, rfl, fun _ _ => rfl, fun k j d h => by simp at h⟩
  | [], _ :: _, _, _, h, _ => by simp [putL] at h
  | _ :: _, [], _, _, h, _ => by simp [putL] at h
  | i :: r, d :: ds, E, E', h, nd => by
    simp only [putL, Option.bind_eq_some_iff] at h
    obtain ⟨E1, h1, h2⟩ := h
    obtain ⟨n1, n2⟩ := List.nodup_cons.mp nd
    obtain ⟨l1, p1, q1⟩ := puts_at h1
    obtain ⟨l2, c2, q2, p2⟩ := putL_at h2 n2
    refine ⟨l2.trans l1, by simp [c2], fun j hj => ?_, fun k j d' hk hd => ?_⟩
    · simp only [List.mem_cons, not_or] at hj
      rw [q2 j hj.2, q1 j hj.1]
    · cases k with
      | zero =>
        simp at hk hd
        subst hk hd
        rw [q2 _ n1]
        exact p1
      | succ k =>
        have hk : r[k]? = some j := by simpa using hk
        have hd : ds[k]? = some d' := by simpa using hd
        have ne : j ≠ i := fun z => n1 (by rw [← z]; exact List.mem_of_getElem? hk)
        have := p2 k j d' hk hd
        rw [q1 j ne] at this
        exact this
theorem Paired.nth {α β : Type} {P : α → β → Prop} : ∀ {xs : List α} {ys : List β} {k : Nat} {x : α} {y : β}, Paired P xs ys → xs[k]? = some x → ys[k]? = some y → P x y
  | _, _, _, _, _, .nil, h, _ => by simp at h
  | _, _, 0, _, _, .cons h _, h1, h2 => by simp at h1 h2; subst h1 h2; exact h
  | _, _, k + 1, _, _, .cons _ t, h1, h2 => Paired.nth (k := k) t (by simpa using h1) (by simpa using h2)
theorem Paired.len {α β : Type} {P : α → β → Prop} : ∀ {xs : List α} {ys : List β}, Paired P xs ys → xs.length = ys.length
  | _, _, .nil => rfl
  | _, _, .cons _ t => congrArg (· + 1) (Paired.len t)
theorem Frm.after (F : Frm K B G H E σ) {ios : List Nat} {as : List Addr} {cs' : List D} {v : V} {r : D} (hw : ∀ i ∈ ios, Wr E i) (ha : Paired (RefAt σ) ios as) (nd : ios.Nodup) (ce : CallEnd K G H as G' H' cs' v r) (hp : putL E ios cs' = some E') :
    Frm K B G' H' E' σ ∧ Ext σ E E' G H G' H' := by
  obtain ⟨pl, pc, po, pp⟩ := putL_at hp nd
  have la := Paired.len ha
  -- what stands at a place among the names
  have at_ : ∀ i ∈ ios, ∃ k a d, ios[k]? = some i ∧ as[k]? = some a ∧ cs'[k]? = some d ∧ σ[i]? = some (some (.ref a)) ∧ PutR (gets E i) (gets E' i) d ∧ G' a = none ∧ Own K G' H' a d := fun i hi => by
    obtain ⟨k, hk, e⟩ := List.getElem_of_mem hi
    have e1 : ios[k]? = some i := by rw [List.getElem?_eq_getElem hk, e]
    have e2 : as[k]? = some as[k] := List.getElem?_eq_getElem (by omega)
    have e3 : cs'[k]? = some cs'[k] := List.getElem?_eq_getElem (by omega)
    have q := Paired.nth ce.own e2 e3
    exact ⟨k, _, _, e1, e2, e3, Paired.nth (P := RefAt σ) ha e1 e2, pp k i _ e1 e3, q.1, q.2⟩
  have ofA : ∀ a ∈ as, ∃ i ∈ ios, σ[i]? = some (some (.ref a)) := fun a h => by
    obtain ⟨k, hk, e⟩ := List.getElem_of_mem h
    have e2 : as[k]? = some a := by rw [List.getElem?_eq_getElem hk, e]
    have e1 : ios[k]? = some ios[k] := List.getElem?_eq_getElem (by omega)
    exact ⟨_, List.getElem_mem _, Paired.nth (P := RefAt σ) ha e1 e2⟩
  have mnA : ∀ a ∈ as, Mn E σ a := fun a h => by
    obtain ⟨i, hi, e⟩ := ofA a h
    exact ⟨i, hw i hi, e⟩
  have wr : ∀ j, Wr E' j → Wr E j := fun j hj => by
    by_cases q : j ∈ ios
    · exact hw j q
    · unfold Wr at hj ⊢
      rw [po j q] at hj
      exact hj
  -- an own object of another name
  have other : ∀ j b, Wr E j → j ∉ ios → σ[j]? = some (some (.ref b)) → b ∉ as := fun j b hj hji e h => by
    obtain ⟨i, hi, e'⟩ := ofA b h
    exact hji (F.dj j i b hj (hw i hi) e e' ▸ hi)
  have gone : ∀ b u, NT u → b ∉ as → H b = some u → G b = none → G' b = none := fun b u nt nb e g => by
    cases q : G' b with
    | none => rfl
    | some x =>
      have ex : x = u := by
        have h1 := ce.sub b x q
        rw [ce.keep b u e nb] at h1
        cases h1; rfl
      rcases ce.new b x (by rw [ex]; exact nt) q with ⟨y, h⟩ | h
      · rw [g] at h; cases h
      · rw [e] at h; cases h
  refine ⟨⟨ce.sub, by rw [pl]; exact F.len, fun j d' hj => ?_, fun j d' hj => ?_, fun j d' hj => ?_, fun j k b hj hk => F.dj j k b (wr j hj) (wr k hk), fun b u h0 hb => ?_, fun b hb => ?_, fun b x nt q => ?_⟩, ⟨ce.g, fun b u e m => ce.keep b u e fun h => m (mnA b h), fun b u nt e m g => gone b u nt (fun h => m (mnA b h)) e g, wr, fun b u e => ?_⟩⟩
  · by_cases q : j ∈ ios
    · obtain ⟨k, a, d, _, _, _, _, pr, _⟩ := at_ j q
      rcases pr with ⟨_, h⟩ | ⟨_, h⟩ <;> (rw [h] at hj; cases hj)
    · rw [po j q] at hj
      obtain ⟨v', e, r'⟩ := F.sh j d' hj
      exact ⟨v', e, r'.up ce.g⟩
  · by_cases q : j ∈ ios
    · obtain ⟨k, a, d, _, _, _, e, pr, g1, o1⟩ := at_ j q
      rcases pr with ⟨⟨d0, w⟩, h⟩ | ⟨_, h⟩
      · rw [h] at hj; cases hj
        obtain ⟨a', e', _, h0, _⟩ := F.ow j d0 w
        rw [e] at e'; cases e'
        exact ⟨a, e, g1, h0, o1⟩
      · rw [h] at hj; cases hj
    · rw [po j q] at hj
      obtain ⟨b, e1, g1, h1, o1⟩ := F.ow j d' hj
      obtain ⟨u, eu, nt⟩ := o1.thereN
      exact ⟨b, e1, gone b u nt (other j b (.inl ⟨_, hj⟩) q e1) eu g1, h1, o1.up ce.g ((ce.keep b u eu (other j b (.inl ⟨_, hj⟩) q e1)).trans eu.symm)⟩
  · by_cases q : j ∈ ios
    · obtain ⟨k, a, d, _, _, _, e, pr, g1, o1⟩ := at_ j q
      rcases pr with ⟨_, h⟩ | ⟨⟨d0, w⟩, h⟩
      · rw [h] at hj; cases hj
      · rw [h] at hj; cases hj
        obtain ⟨a', h0, e', _, _⟩ := F.io j d0 w
        rw [e] at e'; cases e'
        exact ⟨a, h0, e, g1, o1⟩
    · rw [po j q] at hj
      obtain ⟨b, e0, e1, g1, o1⟩ := F.io j d' hj
      obtain ⟨u, eu, nt⟩ := o1.thereN
      exact ⟨b, e0, e1, gone b u nt (other j b (.inr ⟨_, hj⟩) q e1) eu g1, o1.up ce.g ((ce.keep b u eu (other j b (.inr ⟨_, hj⟩) q e1)).trans eu.symm)⟩
  · refine ce.keep b u (F.keep b u h0 hb) fun h => ?_
    obtain ⟨i, hi, e⟩ := ofA b h
    rcases hw i hi with ⟨d0, w⟩ | ⟨d0, w⟩
    · obtain ⟨a', e', _, z, _⟩ := F.ow i d0 w
      rw [e] at e'; cases e'
      rw [z] at h0; cases h0
    · obtain ⟨a', z, e', _⟩ := F.io i d0 w
      rw [e] at e'; cases e'
      exact hb (List.mem_of_getElem? z)
  · obtain ⟨u, e⟩ := F.iok b hb
    by_cases h : b ∈ as
    · obtain ⟨k, hk, ek⟩ := List.getElem_of_mem h
      have e2 : as[k]? = some b := by rw [List.getElem?_eq_getElem hk, ek]
      have e3 : cs'[k]? = some cs'[k] := List.getElem?_eq_getElem (by omega)
      exact (Paired.nth ce.own e2 e3).2.there
    · exact ⟨u, ce.keep b u e h⟩
  · rcases ce.new b x nt q with ⟨y, h⟩ | h
    · have : y = x := by
        have h1 := ce.g b y h
        rw [q] at h1
        cases h1; rfl
      exact F.new b y (by rw [this]; exact nt) h
    · exact .inr (F.h0none h)
  · by_cases h : b ∈ as
    · obtain ⟨k, hk, ek⟩ := List.getElem_of_mem h
      have e2 : as[k]? = some b := by rw [List.getElem?_eq_getElem hk, ek]
      have e3 : cs'[k]? = some cs'[k] := List.getElem?_eq_getElem (by omega)
      exact (Paired.nth ce.own e2 e3).2.there
    · exact ⟨u, ce.keep b u e h⟩
def tArgs (K : PySem.W.Frag) (B : Bs) (C : Ctx) (ios : List Nat) (irs : List IR) : TA := fun σ H Q => ∃ G E ds E', Frm K B G H E σ ∧ evs C irs E = some (ds, E') ∧ (∀ i ∈ ios, Wr E i) ∧
  ∀ (as : List Addr) ws G' H', Paired (RefAt σ) ios as → Frm K B G' H' E' σ → Ext σ E E' G H G' H' → RpAll K G' ws ds → Q (as.map .ref ++ ws) H'
theorem mines_wr : ∀ {ios : List Nat} {cs : List D}, mines E ios = some cs → Paired (fun i d => mine E i = some d) ios cs
  | [], _, h => by simp only [mines] at h; cases h; exact .nil
  | i :: r, _, h => by
    simp only [mines, Option.bind_eq_some_iff, Option.map_eq_some_iff] at h
    obtain ⟨d, e, ds, e2, rfl⟩ := h
    exact .cons e (mines_wr e2)
theorem Paired.memL {α β : Type} {P : α → β → Prop} : ∀ {xs : List α} {ys : List β}, Paired P xs ys → ∀ x ∈ xs, ∃ y, P x y
  | _, _, .nil, _, h => by simp at h
  | _, _, .cons h t, x, m => by
    rcases List.mem_cons.mp m with rfl | m
    · exact ⟨_, h⟩
    · exact Paired.memL t x m
theorem refs_nodup (F : Frm K B G H E σ) {ios : List Nat} {as : List Addr} (hw : ∀ i ∈ ios, Wr E i) (h : Paired (RefAt σ) ios as) (nd : ios.Nodup) : as.Nodup := by
  induction h with
  | nil => exact List.nodup_nil
  | @cons i a is as h t ih =>
    obtain ⟨n1, n2⟩ := List.nodup_cons.mp nd
    refine List.nodup_cons.mpr ⟨fun m => ?_, ih (fun i hi => hw i (List.mem_cons_of_mem _ hi)) n2⟩
    have : ∃ j ∈ is, σ[j]? = some (some (.ref a)) := by
      obtain ⟨k, hk, e⟩ := List.getElem_of_mem m
      have l := Paired.len t
      exact ⟨is[k]'(by omega), List.getElem_mem _, Paired.nth (P := RefAt σ) t (List.getElem?_eq_getElem (by omega)) (by rw [List.getElem?_eq_getElem hk, e])⟩
    obtain ⟨j, hj, e⟩ := this
    exact n1 (F.dj i j a (hw i List.mem_cons_self) (hw j (List.mem_cons_of_mem _ hj)) h e ▸ hj)
theorem owns_of (F : Frm K B G H E σ) : ∀ {ios : List Nat} {as : List Addr} {cs : List D}, Paired (RefAt σ) ios as → Paired (fun i d => mine E i = some d) ios cs → Paired (fun a d => G a = none ∧ Own K G H a d) as cs
  | _, _, _, .nil, .nil => .nil
  | _, _, _, .cons h t, .cons h' t' => by
    obtain ⟨a, e, g, o⟩ := F.wr h'
    have h : σ[_]? = _ := h
    rw [h] at e; cases e
    exact .cons ⟨g, o⟩ (owns_of F t t')
end
section
variable {X : Cx} {B : Bs} {C : Ctx} {e a b c o : Expr} {es : List Expr} {ir ia ib ic io : IR} {irs : List IR} {ios : List Nat} {pos apos cpos np p : Pos} {x : Str} {i : Nat}
theorem a_base (h : PA X es (tEs X.K B C irs)) : PA X es (tArgs X.K B C [] irs) := PA.imp h fun σ H Q ⟨G, E, ds, E', F, ee, hw, k⟩ => ⟨G, E, ds, E', F, ee, fun vs G1 H1 F1 X1 r1 => k [] vs G1 H1 .nil F1 X1 r1⟩
theorem a_io (hv : PE X e (tVar i)) (hs : PA X es (tArgs X.K B C ios irs)) (ns : notStar e = true) : PA X (e :: es) (tArgs X.K B C (i :: ios) irs) := PA.imp (pa_cons hv hs (star_cons ns)) fun σ H Q ⟨G, E, ds, E', F, ee, hw, k⟩ => by
  obtain ⟨a, ea⟩ := Wr.ref F (hw i List.mem_cons_self)
  exact ⟨_, ea, G, E, ds, E', F, ee, fun j hj => hw j (List.mem_cons_of_mem _ hj), fun as ws G1 H1 pa F1 X1 r1 => k (a :: as) ws G1 H1 (.cons ea pa) F1 X1 r1⟩
theorem call_core {id nps : Nat} (nd : ios.Nodup) (hn : ios.length + irs.length = nps)
    {σ : St} {H : Hp} {Q : VK} (h : tE X.K B C (.call id ios irs) σ H Q) : tArgs X.K B C ios irs σ H fun vs H1 => spF X.K C.cf id nps (vs ++ []) H1 Q E0 := by
  obtain ⟨G, E, d, E', F, ee, k⟩ := h
  simp only [ev, Option.bind_eq_some_iff, Option.map_eq_some_iff] at ee
  obtain ⟨cs0, e0, ⟨ds, E1⟩, e1, cs, e2, ⟨r, cs'⟩, e3, E2, e4, eq⟩ := ee
  cases eq
  have pm := mines_wr e2
  refine ⟨G, E, ds, E1, F, e1, fun i hi => ?_, fun as ws G1 H1 pa F1 X1 r1 => ?_⟩
  · obtain ⟨d, h⟩ := Paired.memL (mines_wr e0) i hi
    exact mine_Wr h
  · have hw1 : ∀ i ∈ ios, Wr E1 i := fun i hi => by
      obtain ⟨d, h⟩ := Paired.memL pm i hi
      exact mine_Wr h
    have lp := putL_at e4 nd
    have la := Paired.len pa
    have ld := evs_len e1
    refine ⟨G1, as, cs, ws, ds, _, cs', by simp, by simp [r1.len, ← la, ld, hn], F1.sub, refs_nodup F1 hw1 pa nd, owns_of F1 pa pm, r1, e3, by rw [← la]; exact lp.2.1, fun v G2 H2 ce => ?_⟩
    obtain ⟨F2, X2⟩ := F1.after hw1 pa nd ce e4
    exact k v G2 H2 F2 (X1.trans X2) ce.rp
theorem g_call {k : Nat} {f : Addr} {id nps : Nat} {fd : FuncData} {ps : List Str} (F : FnOk X.prog X.w X.K X.mg X.base CX0 k f fd ps (spF X.K C.cf id nps)) (hr : Room k X.A) (hg : Gl X x) (hm : X.mg x = some (.ref f)) (hk : PySem.W.keepIn X.K (.ref f) = true)
    (hb : Binds X.K fd ps []) (hdb : (x == ("__debug__" : Str)) = false) (ha : PA X es (tArgs X.K B C ios irs)) (ns : es.all notStar = true) (nd : ios.Nodup) (hn : ios.length + irs.length = nps) (hes : es = [] → ios = [] ∧ irs = []) :
    Good X B C (.Call (.Name x p) es [] pos) (.call id ios irs) := by
  refine Good.ofE ?_ (fun _ z => by cases z) rfl
  cases es with
  | nil =>
    obtain ⟨rfl, rfl⟩ := hes rfl
    refine PE.imp (pe_call0 F hr hg hm hk hb .nil pass0 hdb) fun σ H Q h => ?_
    have q := call_core (id := id) (nps := nps) nd hn h
    obtain ⟨G, E, ds, E', F', ee, _, k'⟩ := q
    simp only [evs] at ee
    cases ee
    exact k' [] [] G H .nil F' Ext.refl .nil
  | cons e0 es0 =>
    simp only [List.all_cons, Bool.and_eq_true] at ns
    exact PE.imp (pe_call F hr hg hm hk hb .nil pass0 ha hdb (star_cons ns.1) (star_plain ns.2)) fun σ H Q h => call_core (id := id) (nps := nps) nd hn h
/-! names lent to a def whose answer holds no object -/
theorem Frm.grow {K : PySem.W.Frag} {G H H' : Hp} {E : Env} {σ : St} (F : Frm K B G H E σ) (s : Same H H') : Frm K B G H' E σ ∧ Ext σ E E G H G H' := by
  refine ⟨⟨F.sub.trans s, F.len, F.sh, fun i d w => ?_, fun i d w => ?_, F.dj, fun b o h m => s b o (F.keep b o h m), fun b m => ?_, F.new⟩, ⟨Same.refl _, fun b o h _ => s b o h, fun _ _ _ _ _ g => g, fun _ w => w, fun b o h => ⟨o, s b o h⟩⟩⟩
  · obtain ⟨a, e, g, h0, o⟩ := F.ow i d w
    obtain ⟨y, ey⟩ := o.there
    exact ⟨a, e, g, h0, o.up (Same.refl _) ((s a y ey).trans ey.symm)⟩
  · obtain ⟨a, e0, e, g, o⟩ := F.io i d w
    obtain ⟨y, ey⟩ := o.there
    exact ⟨a, e0, e, g, o.up (Same.refl _) ((s a y ey).trans ey.symm)⟩
  · obtain ⟨o, e⟩ := F.iok b m
    exact ⟨o, s b o e⟩
def ValAt (σ : St) (i : Nat) (v : V) : Prop := σ[i]? = some (some v)
theorem lent {K : PySem.W.Frag} {G H : Hp} {E : Env} {σ : St} (F : Frm K B G H E σ) : ∀ {is : List Nat} {ds : List D}, conts E is = some ds → ∃ G1 vs, Same G G1 ∧ Same G1 H ∧ Paired (ValAt σ) is vs ∧ RpAll K G1 vs ds
  | [], _, e => by cases e; exact ⟨G, [], Same.refl _, F.sub, .nil, .nil⟩
  | i :: r, _, e => by
    simp only [conts, Option.bind_eq_some_iff, Option.map_eq_some_iff] at e
    obtain ⟨d, e1, ds, e2, rfl⟩ := e
    obtain ⟨G1, vs, s1, s2, p, q⟩ := lent F e2
    have own : ∀ a, σ[i]? = some (some (.ref a)) → Own K G H a d → ∃ G1 vs, Same G G1 ∧ Same G1 H ∧ Paired (ValAt σ) (i :: r) vs ∧ RpAll K G1 vs (d :: ds) := fun a ea o => by
      obtain ⟨y, ey⟩ := o.there
      have su : Same G1 (upd G1 a y) := fun b u h => by
        by_cases c : b = a
        · subst c
          have := s2 b u h
          rw [ey] at this; cases this
          exact upd_same
        · rw [upd_ne c]; exact h
      refine ⟨upd G1 a y, .ref a :: vs, s1.trans su, fun b u h => ?_, .cons ea p, .cons (o.rp (s1.trans su) (upd_same.trans ey.symm)) (q.up su)⟩
      by_cases c : b = a
      · subst c; rw [upd_same] at h; cases h; exact ey
      · rw [upd_ne c] at h; exact s2 b u h
    cases w : gets E i with
    | un => rw [w] at e1; cases e1
    | sh d' =>
      rw [w] at e1; cases e1
      obtain ⟨v, ev', rv⟩ := F.sh i _ w
      exact ⟨G1, v :: vs, s1, s2, .cons ev' p, .cons (rv.up s1) q⟩
    | ow d' =>
      rw [w] at e1; cases e1
      obtain ⟨a, ea, _, _, o⟩ := F.ow i _ w
      exact own a ea o
    | io d' =>
      rw [w] at e1; cases e1
      obtain ⟨a, _, ea, _, o⟩ := F.io i _ w
      exact own a ea o
def tVars (is : List Nat) : TA := fun σ H Q => ∃ vs, Paired (ValAt σ) is vs ∧ Q vs H
theorem av_nil : PA X [] (tVars []) := PA.imp pa_nil fun σ H Q ⟨vs, p, q⟩ => by
  cases p; exact q
theorem av_cons (hv : PE X e (tVar i)) {is : List Nat} (hs : PA X es (tVars is)) (ns : notStar e = true) : PA X (e :: es) (tVars (i :: is)) := PA.imp (pa_cons hv hs (star_cons ns)) fun σ H Q ⟨vs, p, q⟩ => by
  cases p with
  | cons a b => exact ⟨_, a, _, b, q⟩
theorem flat_rp {K : PySem.W.Frag} {G G' : Hp} {v : V} {r : D} (h : flatR r = true) (q : Rp K G' v r) : Rp K G v r := by
  cases q <;> first | exact .non | exact .bl _ | exact .int _ | exact .str _ | simp [flatR] at h
theorem g_callB {k : Nat} {f : Addr} {id nps : Nat} {fd : FuncData} {ps : List Str} (F : FnOk X.prog X.w X.K X.mg X.base CX0 k f fd ps (spF X.K C.cf id nps)) (hr : Room k X.A) (hg : Gl X x) (hm : X.mg x = some (.ref f)) (hk : PySem.W.keepIn X.K (.ref f) = true)
    (hb : Binds X.K fd ps []) (hdb : (x == ("__debug__" : Str)) = false) {is : List Nat} (ha : PA X es (tVars is)) (ns : es.all notStar = true) (hn : is.length = nps) (hes : es ≠ []) :
    Good X B C (.Call (.Name x p) es [] pos) (.callB id is) := by
  refine Good.ofE ?_ (fun _ z => by cases z) rfl
  cases es with
  | nil => exact absurd rfl hes
  | cons e0 es0 =>
    simp only [List.all_cons, Bool.and_eq_true] at ns
    refine PE.imp (pe_call F hr hg hm hk hb .nil pass0 ha hdb (star_cons ns.1) (star_plain ns.2)) fun σ H Q ⟨G, E, d, E', F0, ee, k⟩ => ?_
    simp only [ev, Option.bind_eq_some_iff] at ee
    obtain ⟨ds, e1, ⟨r, cs'⟩, e2, e3⟩ := ee
    split at e3
    · rename_i hf
      cases e3
      simp only [Bool.and_eq_true, List.isEmpty_iff] at hf
      obtain ⟨hf, rfl⟩ := hf
      obtain ⟨G1, vs, s1, s2, p, q⟩ := lent F0 e1
      have l1 := Paired.len p
      refine ⟨vs, p, G1, [], [], vs, ds, _, [], by simp, by simp [← l1, hn], s2, List.nodup_nil, .nil, q, by simpa using e2, rfl, fun v G2 H2 ce => ?_⟩
      obtain ⟨F2, X2⟩ := F0.grow fun b o h => ce.keep b o h (by simp)
      exact k v G H2 F2 X2 (flat_rp hf ce.rp)
    · cases e3
end
end Pv

set_option Elab.async false
set_option linter.all false
set_option maxRecDepth 100000
set_option maxHeartbeats 1000000
/-! PvK: what is walked, targets, comprehensions. -/
namespace Pv
open PySem PySem.Spec L2
section
variable {K : PySem.W.Frag} {B : Bs} {G G' H H' Gs Hs : Hp} {E E' : Env} {σ : St} {C : Ctx}
/-- new, or a tuple of keys that stands somewhere -/
def NewY (K : PySem.W.Frag) (G H : Hp) (u : V) (H' : Hp) (z : D) : Prop := NewL K G H u H' z ∨ (H' = H ∧ ∃ (q : Addr) (ks : List Key), u = .ref q ∧ H q = some (.tup (ks.map kV)) ∧ z = keyTD ks)
theorem NewY.toE (F : Frm K B G H E σ) {u : V} {z : D} (n : NewY K G H u H' z) : ∃ G', Frm K B G' H' E σ ∧ Ext σ E E G H G' H' ∧ Rp K G' u z := by
  rcases n with n | ⟨rfl, q, ks, rfl, h, rfl⟩
  · exact n.toE F
  · obtain ⟨G', F', x, g⟩ := F.growT h
    exact ⟨G', F', x, .tup (.inl g) (rp_keys ks)⟩
/-- an item comes: seen already, or new -/
def SeenR (K : PySem.W.Frag) (G H : Hp) (v : V) (H' : Hp) (d : D) : Prop := (H' = H ∧ Rp K G v d) ∨ NewY K G H v H' d
def Walk (K : PySem.W.Frag) (J : It) (hold : List Addr) (G H : Hp) (xs : List D) : Prop := ∀ (i : Nat) (G2 H2 : Hp), Same G G2 → Same G2 H2 → (∀ b ∈ hold, ∀ o, H b = some o → H2 b = some o) →
  (i = xs.length → J.stop i H2) ∧ ∀ d, xs[i]? = some d → J.go i H2 ∧ ∀ v H', J.yld i H2 v H' → SeenR K G2 H2 v H' d
def HoldR (E : Env) (σ : St) (tk : Tok) (b : Addr) : Prop := ∃ i, tk = .bor i ∧ Wr E i ∧ σ[i]? = some (some (.ref b))
def tI (K : PySem.W.Frag) (B : Bs) (C : Ctx) (ir : IR) : TI := fun σ H R => ∃ G E tk E' x xs, Frm K B G H E σ ∧ opd ir (ev C ir) E = some (tk, E') ∧ tk.get E' = some x ∧ itemsOf x = some xs ∧
  ∀ J G' H' hold, Frm K B G' H' E' σ → Ext σ E E' G H G' H' → Walk K J hold G' H' xs → (∀ b ∈ hold, HoldR E' σ tk b) → R J H'
/-- .. the names let go (a for statement) -/
def tIe (K : PySem.W.Frag) (B : Bs) (C : Ctx) (ir : IR) : TI := fun σ H R => ∃ G E x E' xs, Frm K B G H E σ ∧ ev C ir E = some (x, E') ∧ itemsOf x = some xs ∧
  ∀ J G' H', Frm K B G' H' E' σ → Ext σ E E' G H G' H' → Walk K J [] G' H' xs → R J H'
theorem walk_lst {a : Addr} {xs : List V} {ds : List D} (s : Same G H) (h : H a = some (.lst xs)) (r : RpAll K G xs ds) (hold : List Addr) (hh : a ∈ hold ∨ G a = some (.lst xs)) : Walk K (Itl K a) hold G H ds := fun i G2 H2 s2 s3 hb => by
  have q : SqL K H2 a xs := by
    rcases hh with m | g
    · exact SqL.of (hb a m _ h)
    · exact SqL.of (s3 _ _ (s2 _ _ g))
  refine ⟨fun e => ⟨xs, q, by rw [r.len]; omega⟩, fun d e => ?_⟩
  obtain ⟨v, ev', rv⟩ := r.get e
  refine ⟨⟨xs, v, q, ev'⟩, fun v' H' y => ?_⟩
  obtain ⟨rfl, f⟩ := y
  have := f xs q
  rw [ev'] at this; cases this
  exact .inl ⟨rfl, rv.up s2⟩
theorem walk_tup {a : Addr} {xs : List V} {ds : List D} (h : SqT K G a xs) (r : RpAll K G xs ds) (hold : List Addr) : Walk K (Itt K a) hold G H ds := fun i G2 H2 s2 s3 hb => by
  have q : SqT K H2 a xs := Same.sqT s3 (Same.sqT s2 h)
  refine ⟨fun e => ⟨xs, q, by rw [r.len]; omega⟩, fun d e => ?_⟩
  obtain ⟨v, ev', rv⟩ := r.get e
  refine ⟨⟨xs, v, q, ev'⟩, fun v' H' y => ?_⟩
  obtain ⟨rfl, f⟩ := y
  have := f xs q
  rw [ev'] at this; cases this
  exact .inl ⟨rfl, rv.up s2⟩
theorem walk_rng {lo : Int} {n : Nat} (hold : List Addr) : Walk K (Itr lo n) hold G H (rngI lo n) := fun i G2 H2 s2 s3 hb => by
  refine ⟨fun e => ?_, fun d e => ?_⟩
  · show n ≤ i
    rw [e, rngI, List.length_map, List.length_range]
    exact Nat.le_refl _
  · unfold rngI at e
    rw [List.getElem?_map, Option.map_eq_some_iff] at e
    obtain ⟨j, e1, rfl⟩ := e
    obtain ⟨hj, e2⟩ := List.getElem?_eq_some_iff.mp e1
    rw [List.getElem_range] at e2
    subst e2
    rw [List.length_range] at hj
    refine ⟨hj, fun v H' y => ?_⟩
    obtain ⟨rfl, rfl⟩ := y
    exact .inl ⟨rfl, .int _⟩
end
section
variable {X : Cx} {B : Bs} {C : Ctx} {e a b c o tg iter elt : Expr} {es : List Expr} {ir ia ib ic io is ie : IR} {irs : List IR} {ios : List Nat} {pos apos cpos np p : Pos} {x : Str} {i : Nat}
theorem PI.imp {t t' : TI} (h : PI X tg e t) (m : ∀ σ H R, t' σ H R → t σ H R) : PI X tg e t' := ⟨fun pins s σ H R I h' => h.run pins s σ H R I (m σ H R h')⟩
theorem PI.or {t t' : TI} (h : PI X tg e t) (h' : PI X tg e t') : PI X tg e (fun σ H R => t σ H R ∨ t' σ H R) := ⟨fun pins s σ H R I q => q.elim (h.run pins s σ H R I) (h'.run pins s σ H R I)⟩
theorem TokR.hold {K : PySem.W.Frag} {G H : Hp} {E : Env} {σ : St} {v : V} {tk : Tok} {ds : List D} (F : Frm K B G H E σ) (r : TokR K G σ v tk) (e : tk.get E = some (.list ds)) :
    ∃ (a : Addr) (xs : List V) (hold : List Addr), v = .ref a ∧ H a = some (.lst xs) ∧ RpAll K G xs ds ∧ (a ∈ hold ∨ G a = some (.lst xs)) ∧ ∀ b ∈ hold, HoldR E σ tk b := by
  cases tk with
  | val d =>
    cases e
    have r : Rp K G v (.list ds) := r
    cases r with
    | lst h1 h2 => exact ⟨_, _, [], rfl, F.sub _ _ h1, h2, .inr h1, fun _ h => by simp at h⟩
  | bor i =>
    have r : σ[i]? = some (some v) := r
    simp only [Tok.get] at e
    cases w : gets E i with
    | un => rw [w] at e; cases e
    | sh d =>
      rw [w] at e; cases e
      obtain ⟨v', e1, r1⟩ := F.sh i _ w
      rw [r] at e1; cases e1
      cases r1 with
      | lst h1 h2 => exact ⟨_, _, [], rfl, F.sub _ _ h1, h2, .inr h1, fun _ h => by simp at h⟩
    | ow d =>
      rw [w] at e; cases e
      obtain ⟨a, e1, g, _, xs, h1, h2⟩ := F.ow i _ w
      rw [r] at e1; cases e1
      exact ⟨a, xs, [a], rfl, h1, h2, .inl (by simp), fun b h => by
        obtain rfl : b = a := by simpa using h
        exact ⟨i, rfl, .inl ⟨_, w⟩, r⟩⟩
    | io d =>
      rw [w] at e; cases e
      obtain ⟨a, _, e1, g, xs, h1, h2⟩ := F.io i _ w
      rw [r] at e1; cases e1
      exact ⟨a, xs, [a], rfl, h1, h2, .inl (by simp), fun b h => by
        obtain rfl : b = a := by simpa using h
        exact ⟨i, rfl, .inr ⟨_, w⟩, r⟩⟩
theorem w_seq (h : Good X B C e ir) : PI X tg e (tI X.K B C ir) := by
  refine PI.imp (PI.or (pi_list h.O) (pi_tup h.O)) fun σ H R ⟨G, E, tk, E', x, xs, F, ee, ex, ei, k⟩ => ?_
  cases x <;> simp only [itemsOf] at ei <;> first | cases ei | skip
  · refine .inl ⟨G, E, tk, E', F, ee, fun v G1 H1 F1 X1 r1 => ?_⟩
    obtain ⟨a, vs, hold, rfl, h1, h2, h3, h4⟩ := TokR.hold F1 r1 ex
    exact ⟨a, rfl, ⟨vs, SqL.of h1⟩, k _ G1 H1 hold F1 X1 (walk_lst F1.sub h1 h2 hold h3) h4⟩
  · refine .inr ⟨G, E, tk, E', F, ee, fun v G1 H1 F1 X1 r1 => ?_⟩
    have rc := (r1.cont F1 ex).seenT
    cases rc with
    | tup h1 h2 => exact ⟨_, rfl, ⟨_, Same.sqT F1.sub h1.sq⟩, k _ G1 H1 [] F1 X1 (walk_tup h1.sq h2 []) fun _ h => by simp at h⟩
theorem w_seqE (h : Good X B C e ir) : PI X tg e (tIe X.K B C ir) := by
  refine PI.imp (PI.or (pi_list h.E) (pi_tup h.E)) fun σ H R ⟨G, E, x, E', xs, F, ee, ei, k⟩ => ?_
  cases x <;> simp only [itemsOf] at ei <;> first | cases ei | skip
  · refine .inl ⟨G, E, _, E', F, ee, fun v G1 H1 F1 X1 r1 => ?_⟩
    cases r1 with
    | lst h1 h2 => exact ⟨_, rfl, ⟨_, SqL.of (F1.sub _ _ h1)⟩, k _ G1 H1 F1 X1 (walk_lst F1.sub (F1.sub _ _ h1) h2 [] (.inr h1))⟩
  · refine .inr ⟨G, E, _, E', F, ee, fun v G1 H1 F1 X1 r1 => ?_⟩
    cases r1 with
    | tup h1 h2 => exact ⟨_, rfl, ⟨_, Same.sqT F1.sub h1.sq⟩, k _ G1 H1 F1 X1 (walk_tup h1.sq h2 [])⟩
theorem tI_of (hn : ∀ i, ir ≠ .var i) (h : PI X tg e (tIe X.K B C ir)) : PI X tg e (tI X.K B C ir) := PI.imp h fun σ H R ⟨G, E, tk, E', x, xs, F, ee, ex, ei, k⟩ => by
  have q : (ev C ir E).map (fun p => (Tok.val p.1, p.2)) = some (tk, E') := by
    cases ir <;> first | exact ee | exact absurd rfl (hn _)
  simp only [Option.map_eq_some_iff] at q
  obtain ⟨⟨d, E1⟩, e1, e2⟩ := q
  cases e2
  cases ex
  exact ⟨G, E, _, _, xs, F, e1, ei, fun J G1 H1 F1 X1 w => k J G1 H1 [] F1 X1 w fun _ h => by simp at h⟩
theorem w_rng1 (hg : Gl X "range") (hm : X.mg "range" = none) (ha : PA X [a] (tEs X.K B C [ia])) (ns : notStar a = true) : PI X tg (.Call (.Name "range" p) [a] [] pos) (tIe X.K B C (.rng [ia])) := by
  refine PI.imp (pi_range1 hg hm ha (star_cons ns)) fun σ H R ⟨G, E, x, E', xs, F, ee, ei, k⟩ => ?_
  simp only [ev, Option.bind_eq_some_iff, Option.map_eq_some_iff] at ee
  obtain ⟨⟨ds, E1⟩, e1, z, e2, eq⟩ := ee
  cases eq
  have e2 : rng ds = some x := e2
  refine ⟨G, E, ds, E1, F, e1, fun vs G1 H1 F1 X1 r1 => ?_⟩
  unfold rng at e2
  split at e2
  · split at e2
    · rename_i hb
      cases e2
      cases ei
      cases r1 with
      | cons rv rn =>
        cases rv
        cases rn
        exact ⟨_, rfl, by omega, by omega, k _ G1 H1 F1 X1 (walk_rng [])⟩
    · cases e2
  · have := evs_len e1
    simp at this
  · cases e2
theorem w_rng2 (hg : Gl X "range") (hm : X.mg "range" = none) (ha : PA X [a, b] (tEs X.K B C [ia, ib])) (ns : notStar a = true) (ns' : notStar b = true) : PI X tg (.Call (.Name "range" p) [a, b] [] pos) (tIe X.K B C (.rng [ia, ib])) := by
  refine PI.imp (pi_range2 hg hm ha (by rw [star_cons ns, star_cons ns']; rfl) (star_cons ns')) fun σ H R ⟨G, E, x, E', xs, F, ee, ei, k⟩ => ?_
  simp only [ev, Option.bind_eq_some_iff, Option.map_eq_some_iff] at ee
  obtain ⟨⟨ds, E1⟩, e1, z, e2, eq⟩ := ee
  cases eq
  have e2 : rng ds = some x := e2
  refine ⟨G, E, ds, E1, F, e1, fun vs G1 H1 F1 X1 r1 => ?_⟩
  unfold rng at e2
  split at e2
  · have := evs_len e1
    simp at this
  · split at e2
    · rename_i hb
      cases e2
      cases ei
      cases r1 with
      | cons rv rn =>
        cases rv
        cases rn with
        | cons rv rn =>
          cases rv
          cases rn
          exact ⟨_, _, rfl, ⟨by omega, by omega, by omega, by omega⟩, k _ G1 H1 F1 X1 (walk_rng [])⟩
    · cases e2
  · cases e2
theorem small_up {a b c : Int} (ha : -1099511627776 ≤ a) (ha' : a < 1099511627776) (hb : -1099511627776 ≤ b) (hb' : b < 1099511627776) (hc : 1 ≤ c) (hc' : c < 1048576) : RgC a b c (stepN a b c) := by
  have hn : Builtin.Range.rangeSize a b c = (stepN a b c : Int) := by
    unfold Builtin.Range.rangeSize stepN
    rw [if_pos (by omega)]
    by_cases q : a < b
    · rw [if_pos q, if_pos q]
      have := Int.ediv_nonneg (a := b - a - 1) (b := c) (by omega) (by omega)
      omega
    · rw [if_neg q, if_neg q]; rfl
  have hle : (stepN a b c : Int) ≤ 2199023255553 := by
    rw [← hn]
    unfold Builtin.Range.rangeSize
    rw [if_pos (by omega)]
    by_cases q : a < b
    · rw [if_pos q]
      have := Int.ediv_le_self c (show (0 : Int) ≤ b - a - 1 by omega)
      omega
    · rw [if_neg q]; omega
  refine ⟨by omega, by omega, ?_, hn⟩
  unfold Builtin.Range.small
  rw [hn]
  generalize stepN a b c = n at *
  simp only [Builtin.Range.rangeFitsLong, Bool.and_eq_true, Bool.or_eq_true, decide_eq_true_eq, beq_iff_eq]
  rw [if_pos (by omega)]
  simp only [Bool.and_eq_true, decide_eq_true_eq]
  omega
theorem walk_rngC {K : PySem.W.Frag} {G H : Hp} {lo c : Int} {n : Nat} (hold : List Addr) : Walk K (Itc lo c n) hold G H (rngC lo c n) := fun i G2 H2 s2 s3 hb => by
  refine ⟨fun e => ?_, fun d e => ?_⟩
  · show n ≤ i
    rw [e, rngC, List.length_map, List.length_range]
    exact Nat.le_refl _
  · unfold rngC at e
    rw [List.getElem?_map, Option.map_eq_some_iff] at e
    obtain ⟨j, e1, rfl⟩ := e
    obtain ⟨hj, e2⟩ := List.getElem?_eq_some_iff.mp e1
    rw [List.getElem_range] at e2
    subst e2
    rw [List.length_range] at hj
    refine ⟨hj, fun v H' y => ?_⟩
    obtain ⟨rfl, rfl⟩ := y
    exact .inl ⟨rfl, .int _⟩
theorem w_rgs (hg : Gl X "range") (hm : X.mg "range" = none) (ha : PA X [a, b, c] (tEs X.K B C [ia, ib, ic])) (ns : notStar a = true) (ns' : notStar b = true) (ns'' : notStar c = true) : PI X tg (.Call (.Name "range" p) [a, b, c] [] pos) (tIe X.K B C (.rgs [ia, ib, ic])) := by
  refine PI.imp (pi_range3 hg hm ha (by rw [star_cons ns]) (by rw [star_cons ns', star_cons ns'']; rfl)) fun σ H R ⟨G, E, x, E', xs, F, ee, ei, k⟩ => ?_
  simp only [ev, Option.bind_eq_some_iff, Option.map_eq_some_iff] at ee
  obtain ⟨⟨ds, E1⟩, e1, z, e2, eq⟩ := ee
  cases eq
  have e2 : rngS ds = some x := e2
  refine ⟨G, E, ds, E1, F, e1, fun vs G1 H1 F1 X1 r1 => ?_⟩
  unfold rngS at e2
  split at e2
  · split at e2
    · rename_i hb
      cases e2
      cases ei
      cases r1 with
      | cons rv rn =>
        cases rv
        cases rn with
        | cons rv rn =>
          cases rv
          cases rn with
          | cons rv rn =>
            cases rv
            cases rn
            exact ⟨_, _, _, _, rfl, small_up (by omega) (by omega) (by omega) (by omega) (by omega) (by omega), k _ G1 H1 F1 X1 (walk_rngC [])⟩
    · split at e2
      · rename_i hb
        cases e2
        cases ei
        obtain ⟨b1, b2, b3, b4, b6, b5⟩ := hb
        cases r1 with
        | cons rv rn =>
          cases rv
          cases rn with
          | cons rv rn =>
            cases rv
            cases rn with
            | cons rv rn =>
              cases rv
              cases rn
              refine ⟨_, _, _, _, rfl, ?_, k _ G1 H1 F1 X1 (walk_rngC [])⟩
              rw [b6]
              exact RgC.neg (by omega) (by omega) (by omega) (by omega)
      · cases e2
  · cases e2
open PyProof.Rows
theorem vals_rgS {a c : Int} {n : Nat} {acc : Array Value} (h : ItemsOf (fun i v => ∃ t, v = .int (a + i * c) t) acc n) : Vals ((List.range n).map fun i : Nat => V.int (a + (i : Nat) * c)) acc.toList := by
  have e : acc.toList.length = n := by rw [Array.length_toList]; exact h.1
  rw [← e]
  refine vals_of_get acc.toList _ fun j u hj => ?_
  obtain ⟨t, rfl⟩ := h.2 j u (by rw [← hj, Array.getElem?_toList])
  exact ⟨t, rfl⟩
theorem prg_3 {ta : TA} (hg : Gl X "range") (hm : X.mg "range" = none) (ha : PA X [a, b, c] ta)
    (hs : starEach [a, b, c] X.env = (false, eval a X.env) :: starEach [b, c] X.env) (hpl : (backTo pos (starEach [b, c] X.env)).any (·.1) = false) (pins : List (Addr × Obj)) (s : Shared) (σ : L2.St) (H : Hp) (Q : Int → Int → Int → Nat → Hp → Prop) (I : Inv X pins σ H s)
    (h : ta σ H fun vs H1 => ∃ (i j c : Int) (n : Nat), vs = [.int i, .int j, .int c] ∧ RgC i j c n ∧ Q i j c n H1) :
    wpAny (model X.prog X.w) X.A (eval (.Call (.Name "range" p) [a, b, c] [] pos) X.env) (fun x s' => ∃ r a b c t u v n H', x = .ref r ∧ IsRange s'.heap r a b c t u v ∧ Inv X pins σ H' s' ∧ RgC a b c n ∧ Q a b c n H') X.xe s := by
  refine PyProof.Rows.Call_ (ld_blt I hg hm PyProof.Rows.boot_range (PyProof.Rows.callWith_type1 (thn (ha.run pos pins s σ H _ I h) fun us s1 ⟨vs, H1, I1, r1, q1⟩ => ?_) hs hpl))
  obtain ⟨i, j, k, n, e, hR, q⟩ := q1
  subst e
  obtain ⟨c0, c1, c2, c3⟩ := hR
  cases r1 with
  | cons r rr =>
    cases rr with
    | cons r' rr =>
      cases rr with
      | cons r'' rr =>
        cases rr
        obtain ⟨t, rfl⟩ := r
        obtain ⟨t', rfl⟩ := r'
        obtain ⟨t'', rfl⟩ := r''
        refine call_range_3 c0 ?_ (.inl (PyProof.noPylong_small c1))
        exact ⟨_, i, j, k, _, _, _, n, H1, rfl, IsRange.new .., I1.kept (t' := s1.toks) fun b o e => Heap.get?_push_of_some _ e, ⟨c0, c1, c2, c3⟩, q⟩
def tLrs (ta : TA) : TE := fun σ H Q => ta σ H fun vs H1 => ∃ (i j c : Int) (n : Nat), vs = [.int i, .int j, .int c] ∧ RgC i j c n ∧ n ≤ 16777216 ∧ ∀ q, H1 q = none → Q (.ref q) (upd H1 q (.lst ((List.range n).map fun k : Nat => V.int (i + (k : Nat) * c))))
theorem pe_lrs {ta : TA} {p2 pos2 : Pos} (hc : X.calm = true) (hg : Gl X "list") (hm : X.mg "list" = none) (hg2 : Gl X "range") (hm2 : X.mg "range" = none) (ha : PA X [a, b, c] ta)
    (hs : starEach [a, b, c] X.env = (false, eval a X.env) :: starEach [b, c] X.env) (hpl : (backTo pos2 (starEach [b, c] X.env)).any (·.1) = false)
    (na : starEach [.Call (.Name "range" p2) [a, b, c] [] pos2] X.env = (false, eval (.Call (.Name "range" p2) [a, b, c] [] pos2) X.env) :: starEach [] X.env) : PE X (.Call (.Name "list" p) [.Call (.Name "range" p2) [a, b, c] [] pos2] [] pos) (tLrs ta) := by
  refine ⟨fun pins s σ H Q I h => ?_⟩
  refine PyProof.Rows.Call_ (ld_blt I hg hm PyProof.Rows.boot_list (PyProof.Rows.callWith_type1 (args_cons (thn (prg_3 hg2 hm2 ha hs hpl pins s σ H (fun i j c n H1 => n ≤ 16777216 ∧ ∀ q, H1 q = none → Q (.ref q) (upd H1 q (.lst ((List.range n).map fun k : Nat => V.int (i + (k : Nat) * c))))) I h) fun x s1 ⟨r, i, j, k, t, u, v, n, H1, ex, hr, I1, hR, ok, q⟩ => args_nil ?_) na) na))
  subst ex
  obtain ⟨c0, c1, c2, c3⟩ := hR
  refine call_list_range (n := n) (I1.ok.hd hc) hr c2 c3 ok fun h' tk acc c' hk e' hi => ?_
  refine ⟨.ref s1.heap.objs.size, upd H1 s1.heap.objs.size (.lst ((List.range n).map fun m : Nat => V.int (i + (m : Nat) * k))), I1.laid hk (Nat.le_refl _) (show ObjOk X.prog X.w _ _ _ (.lst ((List.range n).map fun m : Nat => V.int (i + (m : Nat) * k))) from ⟨?_, acc.toList, c', vals_rgS hi, ?_⟩), rfl, q _ (I1.hok.fresh (Nat.le_refl _))⟩
  · rw [List.length_map, List.length_range, sizeLine_eq]; exact ok
  · rw [Array.toArray_toList]; exact e'
theorem rgC_ints {K : PySem.W.Frag} {G : Hp} (i c : Int) (n : Nat) : RpAll K G ((List.range n).map fun k : Nat => V.int (i + (k : Nat) * c)) (rngC i c n) := by
  unfold rngC
  generalize List.range n = l
  induction l with
  | nil => exact .nil
  | cons x r ih => exact .cons (.int _) ih
theorem g_lrs {p2 pos2 : Pos} (hc : X.calm = true) (hg : Gl X "list") (hm : X.mg "list" = none) (hg2 : Gl X "range") (hm2 : X.mg "range" = none) (ha : PA X [a, b, c] (tEs X.K B C [ia, ib, ic])) (ns : notStar a = true) (ns' : notStar b = true) (ns'' : notStar c = true) : Good X B C (.Call (.Name "list" p) [.Call (.Name "range" p2) [a, b, c] [] pos2] [] pos) (.lrs [ia, ib, ic]) := by
  refine Good.ofA (PE.imp (pe_lrs hc hg hm hg2 hm2 ha (by rw [star_cons ns]) (by rw [star_cons ns', star_cons ns'']; rfl) (star_cons rfl)) fun σ H Q ⟨G, E, d, E', F, ee, k⟩ => ?_) (fun _ z => by cases z)
  simp only [ev, Option.bind_eq_some_iff, Option.map_eq_some_iff] at ee
  obtain ⟨⟨ds, E1⟩, e1, z, e2, eq⟩ := ee
  cases eq
  have e2 : rngS ds = some d := e2
  refine ⟨G, E, ds, E1, F, e1, fun vs G1 H1 F1 X1 r1 => ?_⟩
  unfold rngS at e2
  split at e2
  · split at e2
    · rename_i hb
      cases e2
      cases r1 with
      | cons rv rn =>
        cases rv
        cases rn with
        | cons rv rn =>
          cases rv
          cases rn with
          | cons rv rn =>
            cases rv
            cases rn
            refine ⟨_, _, _, _, rfl, small_up (by omega) (by omega) (by omega) (by omega) (by omega) (by omega), hb.2.2.2.2.2.2, fun q hq => ?_⟩
            obtain ⟨G', F', x', a⟩ := (Res.lst hq (rgC_ints _ _ _)).toA (ir := .lrs [ia, ib, ic]) F1 X1
            exact k _ G' _ F' x' a
    · split at e2
      · rename_i hb
        cases e2
        obtain ⟨b1, b2, b3, b4, b6, b5⟩ := hb
        cases r1 with
        | cons rv rn =>
          cases rv
          cases rn with
          | cons rv rn =>
            cases rv
            cases rn with
            | cons rv rn =>
              cases rv
              cases rn
              refine ⟨_, _, _, _, rfl, ?_, b5, fun q hq => ?_⟩
              · rw [b6]
                exact RgC.neg (by omega) (by omega) (by omega) (by omega)
              · obtain ⟨G', F', x', a⟩ := (Res.lst hq (rgC_ints _ _ _)).toA (ir := .lrs [ia, ib, ic]) F1 X1
                exact k _ G' _ F' x' a
      · cases e2
  · cases e2
end
end Pv

set_option Elab.async false
set_option linter.all false
set_option maxRecDepth 100000
set_option maxHeartbeats 1000000
/-! PvKz: zip as what is walked. -/
namespace Pv
open PySem PySem.Spec L2
section
variable {K : PySem.W.Frag} {G G' H H' : Hp}
theorem zip_at {ds es : List D} {i : Nat} {d : D} (h : (List.zipWith (fun a b => PyData.tuple [a, b]) ds es)[i]? = some d) : ∃ x y, ds[i]? = some x ∧ es[i]? = some y ∧ d = .tuple [x, y] := by
  rw [List.getElem?_zipWith] at h
  cases h1 : ds[i]? <;> cases h2 : es[i]? <;> rw [h1, h2] at h <;> simp at h
  exact ⟨_, _, rfl, rfl, h.symm⟩
theorem zip_end {ds es : List D} : (List.zipWith (fun a b => PyData.tuple [a, b]) ds es).length = min ds.length es.length := by simp
theorem walk_zipL {a b : Addr} {xs ys : List V} {ds es : List D} (s : Same G H) (h1 : G a = some (.lst xs)) (h2 : G b = some (.lst ys)) (r1 : RpAll K G xs ds) (r2 : RpAll K G ys es) : Walk K (Itz K a b) [] G H (List.zipWith (fun a b => .tuple [a, b]) ds es) := fun i G2 H2 s2 s3 hb => by
  have q1 : SqL K H2 a xs := SqL.of (s3 _ _ (s2 _ _ h1))
  have q2 : SqL K H2 b ys := SqL.of (s3 _ _ (s2 _ _ h2))
  refine ⟨fun e => ⟨xs, ys, q1, q2, ?_⟩, fun d e => ?_⟩
  · rw [zip_end] at e
    rw [r1.len, r2.len]; omega
  · obtain ⟨x, y, e1, e2, rfl⟩ := zip_at e
    obtain ⟨v, ev1, rv⟩ := r1.get e1
    obtain ⟨w, ev2, rw'⟩ := r2.get e2
    refine ⟨⟨xs, ys, v, w, q1, q2, ev1, ev2⟩, fun v' H' yl => ?_⟩
    obtain ⟨T, x', y', rfl, hT, rfl, f1, f2⟩ := yl
    have := f1 xs q1
    rw [ev1] at this; cases this
    have := f2 ys q2
    rw [ev2] at this; cases this
    exact .inr <| .inl ⟨T, _, hT, rfl, rfl, .inr (.inl ⟨_, _, rfl, rfl, .cons (rv.up s2) (.cons (rw'.up s2) .nil)⟩)⟩
theorem walk_zipT {a b : Addr} {xs ys : List V} {ds es : List D} (s : Same G H) (h1 : SqT K G a xs) (h2 : SqT K G b ys) (r1 : RpAll K G xs ds) (r2 : RpAll K G ys es) : Walk K (RZ.ItzT K a b) [] G H (List.zipWith (fun a b => .tuple [a, b]) ds es) := fun i G2 H2 s2 s3 hb => by
  have q1 : SqT K H2 a xs := Same.sqT s3 (Same.sqT s2 h1)
  have q2 : SqT K H2 b ys := Same.sqT s3 (Same.sqT s2 h2)
  refine ⟨fun e => ⟨xs, ys, q1, q2, ?_⟩, fun d e => ?_⟩
  · rw [zip_end] at e
    rw [r1.len, r2.len]; omega
  · obtain ⟨x, y, e1, e2, rfl⟩ := zip_at e
    obtain ⟨v, ev1, rv⟩ := r1.get e1
    obtain ⟨w, ev2, rw'⟩ := r2.get e2
    refine ⟨⟨xs, ys, v, w, q1, q2, ev1, ev2⟩, fun v' H' yl => ?_⟩
    obtain ⟨T, x', y', rfl, hT, rfl, f1, f2⟩ := yl
    have := f1 xs q1
    rw [ev1] at this; cases this
    have := f2 ys q2
    rw [ev2] at this; cases this
    exact .inr <| .inl ⟨T, _, hT, rfl, rfl, .inr (.inl ⟨_, _, rfl, rfl, .cons (rv.up s2) (.cons (rw'.up s2) .nil)⟩)⟩
end
section
variable {X : Cx} {B : Bs} {C : Ctx} {a b : Expr} {ia ib : IR} {pos p tpos : Pos}
theorem w_zip {elts : List Expr} {kk : Nat} (hg : Gl X "zip") (hm : X.mg "zip" = none) (ha : Good X B C a ia) (hb : Good X B C b ib) (ns : notStar a = true) (ns' : notStar b = true) : PI X (.Tuple elts kk tpos) (.Call (.Name "zip" p) [a, b] [] pos) (tIe X.K B C (.zip ia ib)) := by
  refine PI.imp (RZ.pi_zipA hg hm (g_cons ha (g_cons hb g_nil ns') ns) (star_cons ns) (star_plain (by simp [ns']))) fun σ H R ⟨G, E, x, E', xs, F, ee, ei, k⟩ => ?_
  simp only [ev, Option.bind_eq_some_iff, Option.map_eq_some_iff] at ee
  obtain ⟨⟨d1, E1⟩, e1, ⟨d2, E2⟩, e2, z, ez, eq⟩ := ee
  cases eq
  refine ⟨G, E, [d1, d2], E2, F, by simp only [evs, e1, e2, Option.bind_some, Option.map_some], fun vs G1 H1 F1 X1 r1 => ?_⟩
  have ez : zipD d1 d2 = some x := ez
  obtain ⟨v, w, rv, rw', rfl⟩ : ∃ v w, Rp X.K G1 v d1 ∧ Rp X.K G1 w d2 ∧ vs = [v, w] := by
    cases r1 with
    | cons rv rn => cases rn with
      | cons rw' rn => cases rn; exact ⟨_, _, rv, rw', rfl⟩
  cases d1 <;> cases d2 <;> simp only [zipD] at ez <;> first | (cases ez; done) | skip
  · cases ez
    cases ei
    cases rv with
    | lst h1 h2 =>
      cases rw' with
      | lst h3 h4 => exact ⟨_, _, _, _, rfl, .inl ⟨SqL.of (F1.sub _ _ h1), SqL.of (F1.sub _ _ h3), k _ G1 H1 F1 X1 (walk_zipL F1.sub h1 h3 h2 h4)⟩⟩
  · cases ez
    cases ei
    cases rv with
    | tup h1 h2 =>
      cases rw' with
      | tup h3 h4 => exact ⟨_, _, _, _, rfl, .inr ⟨Same.sqT F1.sub h1.sq, Same.sqT F1.sub h3.sq, k _ G1 H1 F1 X1 (walk_zipT F1.sub h1.sq h3.sq h2 h4)⟩⟩
end
end Pv

set_option Elab.async false
set_option linter.all false
set_option maxRecDepth 100000
set_option maxHeartbeats 4000000
/-! PvZl: list(zip(a, b)) of two tuples. -/
namespace Pv
open PySem PySem.Spec L2 PyProof.Rows PySem.W
section
variable {prog : Program} {w : World} {A : Around} {E : Value → Shared → Prop} {s : Shared}
theorem zipH_item {z TI TO T i1 i2 l1 l2 : Addr} {f : Bool} {oT : Obj} {k1 k2 : Nat} {xs ys : Array Value} {x y : Value} {Q : Value → Shared → Prop} (D : ZipApart z TI TO i1 i2 l1 l2)
    (hz : IsZipHeld s.heap z TI TO T f) (hT : s.heap.get? T = some oT) (hTI : IsPair s.heap TI (.ref i1) (.ref i2))
    (h1 : s.heap.IsTupleIter i1 l1 k1) (h2 : s.heap.IsTupleIter i2 l2 k2) (hl1 : s.heap.IsTuple l1 xs) (hl2 : s.heap.IsTuple l2 ys) (hx : xs[k1]? = some x) (hy : ys[k2]? = some y)
    (hQ : ∀ h', IsZipHeld h' z TI TO T true → h'.IsTupleIter i1 l1 (k1 + 1) → h'.IsTupleIter i2 l2 (k2 + 1) → IsPair h' s.heap.objs.size x y → h'.objs.size = s.heap.objs.size + 1 →
      (∀ c o, c ≠ z → c ≠ i1 → c ≠ i2 → s.heap.get? c = some o → h'.get? c = some o) → Q (.ref s.heap.objs.size) { s with heap := h' }) :
    wpAny (model prog w) A (Builtin.«zip.__next__» ⟨[.ref z], []⟩) (fun fin s' => ∃ v, fin = .done (.ret v) ∧ Q v s') E s := by
  show wpAny _ _ (field (.ref z) 2 >>= _) _ _ _
  refine wpAny_bind (wpAny_field hz rfl (x := .bool false) rfl ?_)
  show wpAny _ _ (field (.ref z) 3 >>= _) _ _ _
  refine wpAny_bind (wpAny_field hz rfl (x := .ref TI) rfl ?_)
  refine wpAny_bind (wpAny_seqItems hTI rfl ?_)
  show wpAny _ _ (Builtin.SmallTypes.ownedTupleIsFree (.ref z) >>= _) _ _ _
  refine wpAny_bind (wpAny_tupleHeld_zip hz hT fun h₁ hz₁ hs₁ => ?_)
  simp only [Bool.false_eq_true, if_false]
  refine wpAny_bind ?_
  rw [← Array.forIn_toList]
  simp only [List.forIn_cons, List.forIn_nil]
  refine wpAny_bind (wpAny_bind (wpAny_holding ?_))
  show wpAny _ _ (Builtin.SmallTypes.nextOf (.ref i1) >>= _) _ _ _
  refine wpAny_bind (RZ.nextOf_tuple_item (s := { s with heap := h₁ }) (h1.extBut hs₁.extBut D.i1z) (hl1.extBut hs₁.extBut D.l1z) hx fun h₂ h1₂ hs₂ => wpAny_pure ?_)
  refine wpAny_pure ?_
  refine wpAny_bind (wpAny_bind (wpAny_holding ?_))
  show wpAny _ _ (Builtin.SmallTypes.nextOf (.ref i2) >>= _) _ _ _
  refine wpAny_bind (RZ.nextOf_tuple_item (s := { s with heap := h₂ }) ((h2.extBut hs₁.extBut D.i2z).extBut hs₂.extBut D.i12.symm) ((hl2.extBut hs₁.extBut D.l2z).extBut hs₂.extBut D.l2i1) hy fun h₃ h2₃ hs₃ => wpAny_pure ?_)
  refine wpAny_pure (wpAny_pure ?_)
  show wpAny _ _ (newTuple [x, y] >>= _) _ _ _
  refine wpAny_bind (wpAny_newTuple ?_)
  have hsz : h₃.objs.size = s.heap.objs.size := by rw [hs₃.1, hs₂.1, hs₁.1]
  have hz₃ : IsZipHeld h₃ z TI TO T true := hs₃.extBut _ _ D.i2z.symm (hs₂.extBut _ _ D.i1z.symm hz₁)
  have hk : ∀ c o, c ≠ z → c ≠ i1 → c ≠ i2 → s.heap.get? c = some o → h₃.get? c = some o := fun c o c1 c2 c3 e => hs₃.extBut _ _ c3 (hs₂.extBut _ _ c2 (hs₁.extBut _ _ c1 e))
  have h1₃ : h₃.IsTupleIter i1 l1 (k1 + 1) := h1₂.extBut hs₃.extBut D.i12
  refine wpAny_pure ⟨_, rfl, ?_⟩
  show Q (.ref h₃.objs.size) _
  have hp : IsPair (h₃.push { cls := .type "tuple", data := .seq #[x, y] }) h₃.objs.size x y := Heap.get?_push_size _ rfl
  have hz4 : (h₃.push { cls := .type "tuple", data := .seq #[x, y] }).objs.size = h₃.objs.size + 1 := Heap.size_push ..
  rw [hsz] at hp hz4 ⊢
  exact hQ _ (Heap.get?_push_of_some _ hz₃) (h1₃.at fun o e => Heap.get?_push_of_some _ e) (h2₃.at fun o e => Heap.get?_push_of_some _ e) hp hz4 fun c o c1 c2 c3 e => Heap.get?_push_of_some _ (hk c o c1 c2 c3 e)
theorem zipH_end {z TI TO T i1 i2 l1 l2 : Addr} {f : Bool} {oT : Obj} {k1 k2 : Nat} {xs ys : Array Value} {Q : Fin → Shared → Prop} (hh : A.handled = none) (D : ZipApart z TI TO i1 i2 l1 l2)
    (hz : IsZipHeld s.heap z TI TO T f) (hT : s.heap.get? T = some oT) (hTI : IsPair s.heap TI (.ref i1) (.ref i2))
    (h1 : s.heap.IsTupleIter i1 l1 k1) (h2 : s.heap.IsTupleIter i2 l2 k2) (hl1 : s.heap.IsTuple l1 xs) (hl2 : s.heap.IsTuple l2 ys) (hend : xs[k1]? = none ∨ ys[k2]? = none)
    (hE : ∀ h' e, (∀ c o, c ≠ z → c ≠ i1 → c ≠ i2 → s.heap.get? c = some o → h'.get? c = some o) → (∃ o, h'.get? e = some o ∧ o.cls = .type "StopIteration") → E (.ref e) { s with heap := h' }) :
    wpAny (model prog w) A (Builtin.«zip.__next__» ⟨[.ref z], []⟩) Q E s := by
  show wpAny _ _ (field (.ref z) 2 >>= _) _ _ _
  refine wpAny_bind (wpAny_field hz rfl (x := .bool false) rfl ?_)
  show wpAny _ _ (field (.ref z) 3 >>= _) _ _ _
  refine wpAny_bind (wpAny_field hz rfl (x := .ref TI) rfl ?_)
  refine wpAny_bind (wpAny_seqItems hTI rfl ?_)
  show wpAny _ _ (Builtin.SmallTypes.ownedTupleIsFree (.ref z) >>= _) _ _ _
  refine wpAny_bind (wpAny_tupleHeld_zip hz hT fun h₁ hz₁ hs₁ => ?_)
  simp only [Bool.false_eq_true, if_false]
  refine wpAny_bind ?_
  rw [← Array.forIn_toList]
  simp only [List.forIn_cons, List.forIn_nil]
  refine wpAny_bind (wpAny_bind (wpAny_holding ?_))
  show wpAny _ _ (Builtin.SmallTypes.nextOf (.ref i1) >>= _) _ _ _
  cases hx : xs[k1]? with
  | none =>
    refine wpAny_bind (RZ.nextOf_tuple_end (s := { s with heap := h₁ }) hh (h1.extBut hs₁.extBut D.i1z) (hl1.extBut hs₁.extBut D.l1z) hx fun h₂ e hs₂ he => ?_)
    exact hE h₂ e (fun c o c1 c2 _ x => hs₂ _ _ c2 (hs₁.extBut _ _ c1 x)) he
  | some x =>
    have hy : ys[k2]? = none := by rcases hend with h | h; rw [hx] at h; cases h; exact h
    refine wpAny_bind (RZ.nextOf_tuple_item (s := { s with heap := h₁ }) (h1.extBut hs₁.extBut D.i1z) (hl1.extBut hs₁.extBut D.l1z) hx fun h₂ h1₂ hs₂ => wpAny_pure ?_)
    refine wpAny_pure ?_
    refine wpAny_bind (wpAny_bind (wpAny_holding ?_))
    show wpAny _ _ (Builtin.SmallTypes.nextOf (.ref i2) >>= _) _ _ _
    refine wpAny_bind (RZ.nextOf_tuple_end (s := { s with heap := h₂ }) hh ((h2.extBut hs₁.extBut D.i2z).extBut hs₂.extBut D.i12.symm) ((hl2.extBut hs₁.extBut D.l2z).extBut hs₂.extBut D.l2i1) hy fun h₃ e hs₃ he => ?_)
    exact hE h₃ e (fun c o c1 c2 c3 x => hs₃ _ _ c3 (hs₂.extBut _ _ c2 (hs₁.extBut _ _ c1 x))) he
theorem nextH_item {z TI TO T i1 i2 l1 l2 : Addr} {f : Bool} {oT : Obj} {k1 k2 : Nat} {xs ys : Array Value} {x y : Value} {Q : Option Value → Shared → Prop} (D : ZipApart z TI TO i1 i2 l1 l2)
    (hz : IsZipHeld s.heap z TI TO T f) (hT : s.heap.get? T = some oT) (hTI : IsPair s.heap TI (.ref i1) (.ref i2))
    (h1 : s.heap.IsTupleIter i1 l1 k1) (h2 : s.heap.IsTupleIter i2 l2 k2) (hl1 : s.heap.IsTuple l1 xs) (hl2 : s.heap.IsTuple l2 ys) (hx : xs[k1]? = some x) (hy : ys[k2]? = some y)
    (hQ : ∀ h', IsZipHeld h' z TI TO T true → h'.IsTupleIter i1 l1 (k1 + 1) → h'.IsTupleIter i2 l2 (k2 + 1) → IsPair h' s.heap.objs.size x y → h'.objs.size = s.heap.objs.size + 1 →
      (∀ c o, c ≠ z → c ≠ i1 → c ≠ i2 → s.heap.get? c = some o → h'.get? c = some o) → Q (some (.ref s.heap.objs.size)) { s with heap := h' }) :
    wpAny (model prog w) A (pyNext (.ref z)) Q E s := by
  have hTy : s.TypeIs (.ref z) "zip" := ⟨_, hz, rfl⟩
  unfold pyNext
  exact wpAny_bind (wpAny_attempt (wpAny_callSpecial?_slot (name := Str.ofString "__next__") hTy F.slot_zip_next
    (wpAny_call_entry F.slot_zip_next hTy F.entry_zip_next
      (zipH_item D hz hT hTI h1 h2 hl1 hl2 hx hy fun h' a1 a3 a4 a5 a6 a7 => wpAny_pure (hQ h' a1 a3 a4 a5 a6 a7)) (F.args_zip_next_1 _))))
theorem nextH_end {z TI TO T i1 i2 l1 l2 : Addr} {f : Bool} {oT : Obj} {k1 k2 : Nat} {xs ys : Array Value} {Q : Option Value → Shared → Prop} (hh : A.handled = none) (D : ZipApart z TI TO i1 i2 l1 l2)
    (hz : IsZipHeld s.heap z TI TO T f) (hT : s.heap.get? T = some oT) (hTI : IsPair s.heap TI (.ref i1) (.ref i2))
    (h1 : s.heap.IsTupleIter i1 l1 k1) (h2 : s.heap.IsTupleIter i2 l2 k2) (hl1 : s.heap.IsTuple l1 xs) (hl2 : s.heap.IsTuple l2 ys) (hend : xs[k1]? = none ∨ ys[k2]? = none)
    (hQ : ∀ h', (∀ c o, c ≠ z → c ≠ i1 → c ≠ i2 → s.heap.get? c = some o → h'.get? c = some o) → Q none { s with heap := h' }) : wpAny (model prog w) A (pyNext (.ref z)) Q E s := by
  have hTy : s.TypeIs (.ref z) "zip" := ⟨_, hz, rfl⟩
  unfold pyNext
  refine wpAny_bind (wpAny_attempt (wpAny_callSpecial?_slot (name := Str.ofString "__next__") hTy F.slot_zip_next
    (wpAny_call_entry F.slot_zip_next hTy F.entry_zip_next (zipH_end hh D hz hT hTI h1 h2 hl1 hl2 hend fun h' e hk he => ?_) (F.args_zip_next_1 _))))
  obtain ⟨o, ho, hc⟩ := he
  refine wpAny_bind (wpAny_isInstance (T := "StopIteration") (b := true) ⟨o, ho, hc⟩ isSubtype_stop ?_)
  exact wpAny_pure (hQ _ hk)
/-- a zip of two tuples behind i turns -/
structure ZSt (h0 : Heap) (z TI TO i1 i2 l1 l2 S : Addr) (xs ys : Array Value) (N0 : Addr) (i : Nat) (h : Heap) : Prop where
  sz : h.objs.size = N0 + i
  zz : (i = 0 ∧ IsZip h z TI TO .none ∧ ∃ a b, IsPair h TO a b) ∨ ∃ f, 0 < i ∧ IsZipHeld h z TI TO N0 f
  ti : IsPair h TI (.ref i1) (.ref i2)
  a1 : h.IsTupleIter i1 l1 i
  a2 : h.IsTupleIter i2 l2 i
  t1 : h.IsTuple l1 xs
  t2 : h.IsTuple l2 ys
  ps : ∀ j, j < i → ∃ x y, xs[j]? = some x ∧ ys[j]? = some y ∧ IsPair h (N0 + j) x y
  keep : ∀ c o, c ≠ z → c ≠ TO → c ≠ i1 → c ≠ i2 → c ≠ S → h0.get? c = some o → h.get? c = some o
structure ZAp (z TI TO i1 i2 l1 l2 S N0 : Addr) : Prop where
  ap : ZipApart z TI TO i1 i2 l1 l2
  Sz : S ≠ z
  STI : S ≠ TI
  STO : S ≠ TO
  S1 : S ≠ i1
  S2 : S ≠ i2
  Sl1 : S ≠ l1
  Sl2 : S ≠ l2
  lz : z < N0
  lTO : TO < N0
  li1 : i1 < N0
  li2 : i2 < N0
  lS : S < N0
variable {z TI TO i1 i2 l1 l2 S : Addr} {xs ys : Array Value} {N0 : Addr} {i : Nat} {h0 h h' : Heap}
/-- only the list changed -/
theorem ZSt.other (Z : ZSt h0 z TI TO i1 i2 l1 l2 S xs ys N0 i h) (D : ZAp z TI TO i1 i2 l1 l2 S N0) (e : ∀ c o, c ≠ S → h.get? c = some o → h'.get? c = some o) (hs : h'.objs.size = h.objs.size) : ZSt h0 z TI TO i1 i2 l1 l2 S xs ys N0 i h' where
  sz := hs.trans Z.sz
  zz := by
    rcases Z.zz with ⟨a, b, x, y, c⟩ | ⟨f, a, b⟩
    · exact .inl ⟨a, e _ _ D.Sz.symm b, x, y, e _ _ D.STO.symm c⟩
    · exact .inr ⟨f, a, e _ _ D.Sz.symm b⟩
  ti := e _ _ D.STI.symm Z.ti
  a1 := Z.a1.at fun o q => e _ o D.S1.symm q
  a2 := Z.a2.at fun o q => e _ o D.S2.symm q
  t1 := by obtain ⟨o, q, r⟩ := Z.t1; exact ⟨o, e _ o D.Sl1.symm q, r⟩
  t2 := by obtain ⟨o, q, r⟩ := Z.t2; exact ⟨o, e _ o D.Sl2.symm q, r⟩
  ps := fun j hj => by
    obtain ⟨x, y, q1, q2, p⟩ := Z.ps j hj
    exact ⟨x, y, q1, q2, e _ _ (Nat.ne_of_gt (Nat.lt_of_lt_of_le D.lS (Nat.le_add_right _ _))) p⟩
  keep := fun c o c1 c2 c3 c4 c5 q => e _ _ c5 (Z.keep c o c1 c2 c3 c4 c5 q)
theorem ZSt.item {Q : Option Value → Shared → Prop} (Z : ZSt h0 z TI TO i1 i2 l1 l2 S xs ys N0 i s.heap) (D : ZAp z TI TO i1 i2 l1 l2 S N0) {x y : Value} (hx : xs[i]? = some x) (hy : ys[i]? = some y)
    (hQ : ∀ h', ZSt h0 z TI TO i1 i2 l1 l2 S xs ys N0 (i + 1) h' → (∀ o, s.heap.get? S = some o → h'.get? S = some o) → Q (some (.ref (N0 + i))) { s with heap := h' }) : wpAny (model prog w) A (pyNext (.ref z)) Q E s := by
  have hsz := Z.sz
  have lN : ∀ j, N0 + j ≠ z ∧ N0 + j ≠ TO ∧ N0 + j ≠ i1 ∧ N0 + j ≠ i2 := fun j => by
    have g : ∀ {a : Addr}, a < N0 → N0 + j ≠ a := fun l => Nat.ne_of_gt (Nat.lt_of_lt_of_le l (Nat.le_add_right _ _))
    exact ⟨g D.lz, g D.lTO, g D.li1, g D.li2⟩
  rcases Z.zz with ⟨e0, hz, a, b, hTO⟩ | ⟨f, e0, hz⟩
  · refine RZ.pyNext_zipT_item D.ap hz Z.ti hTO Z.a1 Z.a2 Z.t1 Z.t2 hx hy fun h' z' TO' b1 b2 pr sz' kp => ?_
    rw [hsz] at z' pr sz' ⊢
    refine hQ h' ⟨sz', .inr ⟨false, Nat.succ_pos _, by subst e0; exact z'⟩, kp _ _ D.ap.TIz D.ap.TITO D.ap.TIi1 D.ap.TIi2 Z.ti, b1, b2, ?_, ?_, fun j hj => ?_, fun c o c1 c2 c3 c4 c5 q => kp c o c1 c2 c3 c4 (Z.keep c o c1 c2 c3 c4 c5 q)⟩ fun o q => kp S o D.Sz D.STO D.S1 D.S2 q
    · obtain ⟨o, q, r⟩ := Z.t1; exact ⟨o, kp _ o D.ap.l1z D.ap.l1TO D.ap.l1i1 D.ap.l1i2 q, r⟩
    · obtain ⟨o, q, r⟩ := Z.t2; exact ⟨o, kp _ o D.ap.l2z D.ap.l2TO D.ap.l2i1 D.ap.l2i2 q, r⟩
    · by_cases hj' : j < i
      · obtain ⟨x', y', q1, q2, p⟩ := Z.ps j hj'
        exact ⟨x', y', q1, q2, kp _ _ (lN j).1 (lN j).2.1 (lN j).2.2.1 (lN j).2.2.2 p⟩
      · have : j = i := by omega
        subst this
        exact ⟨x, y, hx, hy, pr⟩
  · obtain ⟨x0, y0, _, _, p0⟩ := Z.ps 0 e0
    refine nextH_item D.ap hz p0 Z.ti Z.a1 Z.a2 Z.t1 Z.t2 hx hy fun h' z' b1 b2 pr sz' kp => ?_
    rw [hsz] at pr sz' ⊢
    refine hQ h' ⟨sz', .inr ⟨true, Nat.succ_pos _, z'⟩, kp _ _ D.ap.TIz D.ap.TIi1 D.ap.TIi2 Z.ti, b1, b2, ?_, ?_, fun j hj => ?_, fun c o c1 c2 c3 c4 c5 q => kp c o c1 c3 c4 (Z.keep c o c1 c2 c3 c4 c5 q)⟩ fun o q => kp S o D.Sz D.S1 D.S2 q
    · obtain ⟨o, q, r⟩ := Z.t1; exact ⟨o, kp _ o D.ap.l1z D.ap.l1i1 D.ap.l1i2 q, r⟩
    · obtain ⟨o, q, r⟩ := Z.t2; exact ⟨o, kp _ o D.ap.l2z D.ap.l2i1 D.ap.l2i2 q, r⟩
    · by_cases hj' : j < i
      · obtain ⟨x', y', q1, q2, p⟩ := Z.ps j hj'
        exact ⟨x', y', q1, q2, kp _ _ (lN j).1 (lN j).2.2.1 (lN j).2.2.2 p⟩
      · have : j = i := by omega
        subst this
        exact ⟨x, y, hx, hy, pr⟩
theorem ZSt.done {Q : Option Value → Shared → Prop} (Z : ZSt h0 z TI TO i1 i2 l1 l2 S xs ys N0 i s.heap) (D : ZAp z TI TO i1 i2 l1 l2 S N0) (hh : A.handled = none) (hend : xs[i]? = none ∨ ys[i]? = none)
    (hQ : ∀ h', (∀ c o, c ≠ z → c ≠ TO → c ≠ i1 → c ≠ i2 → s.heap.get? c = some o → h'.get? c = some o) → Q none { s with heap := h' }) : wpAny (model prog w) A (pyNext (.ref z)) Q E s := by
  rcases Z.zz with ⟨e0, hz, a, b, hTO⟩ | ⟨f, e0, hz⟩
  · exact RZ.pyNext_zipT_end hh D.ap hz Z.ti hTO Z.a1 Z.a2 Z.t1 Z.t2 hend fun h' kp => hQ h' kp
  · obtain ⟨x0, y0, _, _, p0⟩ := Z.ps 0 e0
    exact nextH_end hh D.ap hz p0 Z.ti Z.a1 Z.a2 Z.t1 Z.t2 hend fun h' kp => hQ h' fun c o c1 _ c3 c4 q => kp c o c1 c3 c4 q
end
section
variable {prog : Program} {w : World} {A : Around} {R : Result → Shared → Prop} {z TI TO i1 i2 l1 l2 S : Addr} {xs ys : Array Value} {N0 : Addr} {h0 : Heap}
theorem zip_loop (D : ZAp z TI TO i1 i2 l1 l2 S N0) (hh : A.handled = none) (hn : min xs.size ys.size ≤ sizeLine) (res : Value) : ∀ (k i : Nat) (s : Shared) (acc : Array Value) (c : Nat), min xs.size ys.size - i = k → i ≤ min xs.size ys.size →
    ZSt h0 z TI TO i1 i2 l1 l2 S xs ys N0 i s.heap → s.heap.get? S = some { cls := .type "list", dict := none, data := .seq acc c, slots := #[] } → acc = ((List.range i).map fun j => Value.ref (N0 + j)).toArray →
    (∀ h' c', (∀ j, j < min xs.size ys.size → ∃ x y, xs[j]? = some x ∧ ys[j]? = some y ∧ IsPair h' (N0 + j) x y) → h'.get? S = some { cls := .type "list", dict := none, data := .seq ((List.range (min xs.size ys.size)).map fun j => Value.ref (N0 + j)).toArray c', slots := #[] } →
      (∀ c o, c ≠ z → c ≠ TO → c ≠ i1 → c ≠ i2 → c ≠ S → h0.get? c = some o → h'.get? c = some o) → R (.ok (.ret res)) { s with heap := h' }) →
    codeAny (model prog w) A (.builtin "list.extend.loop" ⟨[.ref S, .ref z, res], []⟩) R s := by
  intro k
  induction k with
  | zero =>
    intro i s acc c hk hi Z hS hacc hR
    have hin : i = min xs.size ys.size := by omega
    refine codeAny_builtin PySem.F.entry_extend_loop ?_
    rw [Around.under_plainId PySem.F.plain_extend_loop _]
    show wpAny _ A.in1 (pyNext (.ref z) >>= _) _ _ s
    have hend : xs[i]? = none ∨ ys[i]? = none := by
      by_cases q : xs.size ≤ i
      · exact .inl (by simp; omega)
      · exact .inr (by simp; omega)
    refine wpAny_bind (Z.done D hh hend fun h' kp => wpAny_pure (hR h' c (fun j hj => ?_) ?_ fun c o c1 c2 c3 c4 c5 q => kp c o c1 c2 c3 c4 (Z.keep c o c1 c2 c3 c4 c5 q)))
    · obtain ⟨x, y, q1, q2, p⟩ := Z.ps j (by omega)
      have g : ∀ {a : Addr}, a < N0 → N0 + j ≠ a := fun l => Nat.ne_of_gt (Nat.lt_of_lt_of_le l (Nat.le_add_right _ _))
      exact ⟨x, y, q1, q2, kp _ _ (g D.lz) (g D.lTO) (g D.li1) (g D.li2) p⟩
    · subst hacc; rw [← hin]; exact kp S _ D.Sz D.STO D.S1 D.S2 hS
  | succ k ih =>
    intro i s acc c hk hi Z hS hacc hR
    have hlt : i < min xs.size ys.size := by omega
    have hx : xs[i]? = some (xs[i]'(by omega)) := Array.getElem?_eq_getElem _
    have hy : ys[i]? = some (ys[i]'(by omega)) := Array.getElem?_eq_getElem _
    refine codeAny_builtin PySem.F.entry_extend_loop ?_
    rw [Around.under_plainId PySem.F.plain_extend_loop _]
    show wpAny _ A.in1 (pyNext (.ref z) >>= _) _ _ s
    refine wpAny_bind (Z.item D hx hy fun h' Z' kS => ?_)
    have hS' := kS _ hS
    show wpAny _ A.in1 (updateSeq S (·.push (Value.ref (N0 + i))) >>= _) _ _ _
    refine wpAny_bind ?_
    have hsz : acc.size = i := by rw [hacc]; simp
    refine wpAny_updateSeq hS' rfl (wpAny_pure ⟨plainId_quiet PySem.F.plain_extend_loop _, ih (i + 1) _ (acc.push (.ref (N0 + i))) _ (by omega) hlt (Z'.other D (fun b o hb q => ?_) ?_) (Heap.get?_update_self _ hS' rfl) ?_ fun h'' c' p1 p2 p3 => ?_⟩)
      (by rw [hsz]; omega) (by show (acc.push _).size ≤ sizeLine + 1; rw [Array.size_push, hsz]; omega)
    · exact (Heap.get?_update_other _ _ (Ne.symm hb)).trans q
    · exact Heap.size_update ..
    · rw [hacc, List.range_succ, List.map_append]; simp
    · exact hR h'' c' p1 p2 p3
end
end Pv

set_option Elab.async false
set_option linter.all false
set_option maxRecDepth 100000
set_option maxHeartbeats 4000000
/-! PvZm: list(zip(a, b)), the call and its rule. -/
namespace Pv
open PySem PySem.Spec L2 PyProof.Rows PySem.W PySem.Calls
theorem zip_no_len : typeLookup (.type "zip") "__len__" = pure none := by rw [typeLookup_type, builtinLookup_eq_fast]; kernel_rfl
theorem zip_no_hint : typeLookup (.type "zip") "__length_hint__" = pure none := by rw [typeLookup_type, builtinLookup_eq_fast]; kernel_rfl
section
variable {prog : Program} {w : World} {A : Around} {R : Result → Shared → Prop} {z TI TO i1 i2 l1 l2 S : Addr} {xs ys : Array Value} {N0 : Addr} {h0 : Heap} {s : Shared}
def ZEnd (h0 : Heap) (z TO i1 i2 S : Addr) (xs ys : Array Value) (N0 : Addr) (h' : Heap) : Prop :=
  (∀ j, j < min xs.size ys.size → ∃ x y, xs[j]? = some x ∧ ys[j]? = some y ∧ IsPair h' (N0 + j) x y) ∧ (∃ c', h'.get? S = some { cls := .type "list", dict := none, data := .seq ((List.range (min xs.size ys.size)).map fun j => Value.ref (N0 + j)).toArray c', slots := #[] }) ∧
    ∀ c o, c ≠ z → c ≠ TO → c ≠ i1 → c ≠ i2 → c ≠ S → h0.get? c = some o → h'.get? c = some o
theorem zip_extend (D : ZAp z TI TO i1 i2 l1 l2 S N0) (hh : A.handled = none) (hn : min xs.size ys.size ≤ sizeLine) (res : Value) {c₀ : Nat} (hsz : s.heap.objs.size = N0) (hz : IsZip s.heap z TI TO .none) {a b : Value} (hTO : IsPair s.heap TO a b)
    (Z : ZSt h0 z TI TO i1 i2 l1 l2 S xs ys N0 0 s.heap) (hS : s.heap.get? S = some { cls := .type "list", data := .seq #[] c₀ })
    (hR : ∀ h', ZEnd h0 z TO i1 i2 S xs ys N0 h' → R (.ok (.ret res)) { s with heap := h' }) :
    wpAny (model prog w) A.in1 (Builtin.List.listExtendWith (.ref S) (.ref z) res)
      (fun fin s' => match fin with | .done f => R (.ok f) s' | .again c' => c'.quiet = true ∧ codeAny (model prog w) A c' R s') (fun e s' => R (.error e) s') s := by
  have hT : s.TypeIs (.ref z) "zip" := ⟨_, hz, rfl⟩
  unfold Builtin.List.listExtendWith
  refine wpAny_bind (wpAny_typeOf hT ?_)
  have h1 : Builtin.List.listSameRef (.ref S) (.ref z) = false := by simp [Builtin.List.listSameRef, D.Sz]
  have h2 : (Value.type "zip" == Value.type "list") = false := by decide
  have h3 : (Value.type "zip" == Value.type "tuple") = false := by decide
  simp only [h1, h2, h3, Bool.or_false, Bool.false_eq_true, if_false]
  refine wpAny_bind (wpAny_pyIter_zip hz ?_)
  refine wpAny_bind (wpAny_holding ?_)
  unfold Builtin.List.listLengthHint
  refine wpAny_bind (wpAny_specialOf hT zip_no_len ?_)
  show wpAny _ A.in1 (specialOf (Value.ref z) (Str.ofString "__length_hint__") >>= _) _ _ _
  refine wpAny_bind (wpAny_specialOf hT zip_no_hint ?_)
  refine wpAny_pure ?_
  show wpAny _ A.in1 (rule "list.extend.makes-room" >>= fun _ => Builtin.List.listTouch (.ref S) >>= fun _ =>
    again (.builtin "list.extend.loop" ⟨[.ref S, .ref z, res], []⟩)) _ _ _
  refine wpAny_bind (wpAny_rule ?_)
  refine wpAny_bind ?_
  show wpAny _ A.in1 (updateSeq S (·.push .none) >>= fun _ => updateSeq S (·.pop)) _ _ _
  refine wpAny_bind (wpAny_updateSeq hS rfl ?_)
  have hS₂ := Heap.get?_update_self (Obj.mapSeq (·.push Value.none)) hS rfl
  refine wpAny_updateSeq (hz := by seq_fits) hS₂ rfl ?_
  have hS₃ := Heap.get?_update_self (Obj.mapSeq (·.pop)) hS₂ rfl
  have oth : ∀ b o, b ≠ S → s.heap.get? b = some o → ((s.heap.update S (Obj.mapSeq (·.push Value.none))).update S (Obj.mapSeq (·.pop))).get? b = some o :=
    fun b o hb e => (Heap.get?_update_other _ _ (Ne.symm hb)).trans ((Heap.get?_update_other _ _ (Ne.symm hb)).trans e)
  refine wpAny_pure ⟨plainId_quiet PySem.F.plain_extend_loop _, zip_loop D hh hn res _ 0 _ _ _ rfl (Nat.zero_le _) (Z.other D oth ?_) hS₃ rfl fun h' c' p1 p2 p3 => hR h' ⟨p1, ⟨c', p2⟩, p3⟩⟩
  rw [Heap.size_update, Heap.size_update]
theorem zip_init (D : ZAp z TI TO i1 i2 l1 l2 S N0) (hh : A.handled = none) (hn : min xs.size ys.size ≤ sizeLine) (hsz : s.heap.objs.size = N0) (hz : IsZip s.heap z TI TO .none) {a b : Value} (hTO : IsPair s.heap TO a b)
    (Z : ZSt h0 z TI TO i1 i2 l1 l2 S xs ys N0 0 s.heap) (hS : s.heap.get? S = some { cls := .type "list", data := .seq #[] })
    (hR : ∀ h', ZEnd h0 z TO i1 i2 S xs ys N0 h' → R (.ok (.ret .none)) { s with heap := h' }) :
    wpAny (model prog w) A.in1 (Builtin.«list.__init__» ⟨[.ref S, .ref z], []⟩)
      (fun fin s' => match fin with | .done f => R (.ok f) s' | .again c' => c'.quiet = true ∧ codeAny (model prog w) A c' R s') (fun e s' => R (.error e) s') s := by
  show wpAny _ _ (do let old ← Builtin.List.listItems (.ref S); Builtin.List.listUpdate (.ref S) (fun _ => #[]); letGo old.toList.reverse; Builtin.List.listExtendWith (.ref S) (.ref z) .none) _ _ s
  refine wpAny_bind ?_
  unfold Builtin.List.listItems
  refine wpAny_bind (wpAny_seqItems hS rfl (wpAny_pure ?_))
  show wpAny _ _ (updateSeq S (fun _ => #[]) >>= fun _ => letGo (#[] : Array Value).toList.reverse >>= fun _ => Builtin.List.listExtendWith (.ref S) (.ref z) .none) _ _ s
  refine wpAny_bind (wpAny_updateSeq hS rfl ?_)
  have hS₂ := Heap.get?_update_self (Obj.mapSeq (fun _ => (#[] : Array Value))) hS rfl
  have oth : ∀ b o, b ≠ S → s.heap.get? b = some o → (s.heap.update S (Obj.mapSeq (fun _ => (#[] : Array Value)))).get? b = some o :=
    fun b o hb e => (Heap.get?_update_other _ _ (Ne.symm hb)).trans e
  refine wpAny_bind (wpAny_letGo ?_)
  refine zip_extend D hh hn .none ((Heap.size_update ..).trans hsz) (oth _ _ D.Sz.symm hz) (oth _ _ D.STO.symm hTO) (Z.other D oth (Heap.size_update ..)) hS₂ hR
variable {E : Value → Shared → Prop}
theorem call_list_zip {Q : Value → Shared → Prop} (D : ZipApart z TI TO i1 i2 l1 l2) (hh : A.handled = none) (hn : min xs.size ys.size ≤ sizeLine) (hz : IsZip s.heap z TI TO .none) (hTI : IsPair s.heap TI (.ref i1) (.ref i2)) {a b : Value} (hTO : IsPair s.heap TO a b)
    (h1 : s.heap.IsTupleIter i1 l1 0) (h2 : s.heap.IsTupleIter i2 l2 0) (hl1 : s.heap.IsTuple l1 xs) (hl2 : s.heap.IsTuple l2 ys)
    (hQ : ∀ h', ZEnd s.heap z TO i1 i2 s.heap.objs.size xs ys (s.heap.objs.size + 1) h' → Q (.ref s.heap.objs.size) { s with heap := h' }) : wpAny (model prog w) A (call (.type "list") [.ref z]) Q E s := by
  refine callType_codes (Q₁ := fun obj s₁ => obj = .ref s.heap.objs.size ∧ s₁ = { s with heap := s.heap.push { cls := .type "list", data := .seq #[] } }) PySem.F.called_list (PySem.F.typeCall_list_1 _) PySem.F.entry_list_init
    (code_list_new _ ⟨rfl, rfl⟩) fun obj s₁ h₁ => ?_
  obtain ⟨rfl, rfl⟩ := h₁
  have hS : (s.heap.push { cls := .type "list", data := .seq #[] }).get? s.heap.objs.size = some { cls := .type "list", data := .seq #[] } := Heap.get?_push_size _ rfl
  have up : ∀ c o, s.heap.get? c = some o → (s.heap.push { cls := .type "list", data := .seq #[] }).get? c = some o := fun c o q => Heap.get?_push_of_some _ q
  have lz := Heap.lt_size hz
  have lTI := Heap.lt_size hTI
  have lTO := Heap.lt_size hTO
  have li1 : i1 < s.heap.objs.size := by obtain ⟨_, q, _⟩ := h1; exact Heap.lt_size q
  have li2 : i2 < s.heap.objs.size := by obtain ⟨_, q, _⟩ := h2; exact Heap.lt_size q
  have ll1 : l1 < s.heap.objs.size := by obtain ⟨_, q, _⟩ := hl1; exact Heap.lt_size q
  have ll2 : l2 < s.heap.objs.size := by obtain ⟨_, q, _⟩ := hl2; exact Heap.lt_size q
  have D' : ZAp z TI TO i1 i2 l1 l2 s.heap.objs.size (s.heap.objs.size + 1) := ⟨D, Nat.ne_of_gt lz, Nat.ne_of_gt lTI, Nat.ne_of_gt lTO, Nat.ne_of_gt li1, Nat.ne_of_gt li2, Nat.ne_of_gt ll1, Nat.ne_of_gt ll2, Nat.lt_succ_of_lt lz, Nat.lt_succ_of_lt lTO, Nat.lt_succ_of_lt li1, Nat.lt_succ_of_lt li2, Nat.lt_succ_self _⟩
  have hsz : (s.heap.push { cls := .type "list", data := .seq #[] }).objs.size = s.heap.objs.size + 1 := Heap.size_push ..
  refine ⟨⟨_, hS, rfl⟩, PySem.F.args_list_init_2 _ _, zip_init (A := A.in1) (h0 := s.heap) D' hh hn hsz (up _ _ hz) (up _ _ hTO) ⟨hsz, .inl ⟨rfl, up _ _ hz, a, b, up _ _ hTO⟩, up _ _ hTI, h1.at fun o q => up _ o q, h2.at fun o q => up _ o q, ?_, ?_, fun j hj => absurd hj (Nat.not_lt_zero _), fun c o _ _ _ _ _ q => up c o q⟩ hS fun h' e => ⟨rfl, hQ h' e⟩⟩
  · obtain ⟨o, q, r⟩ := hl1; exact ⟨o, up _ o q, r⟩
  · obtain ⟨o, q, r⟩ := hl2; exact ⟨o, up _ o q, r⟩
end
end Pv

set_option Elab.async false
set_option linter.all false
set_option maxRecDepth 100000
set_option maxHeartbeats 2000000
/-! PvZn: list(zip(a, b)) in the layer. -/
namespace Pv
open PySem PySem.Spec L2 PyProof.Rows
/-- pairs laid one behind the other -/
def addT (H : Hp) (N : Addr) : List (V × V) → Hp
  | [] => H
  | p :: r => addT (upd H N (.tup [p.1, p.2])) (N + 1) r
theorem addT_lt : ∀ (ps : List (V × V)) (H : Hp) (N b : Addr), b < N → addT H N ps b = H b
  | [], _, _, _, _ => rfl
  | p :: r, H, N, b, h => by
    rw [addT, addT_lt r _ _ _ (Nat.lt_succ_of_lt h), upd_ne (Nat.ne_of_lt h)]
theorem addT_at : ∀ (ps : List (V × V)) (H : Hp) (N : Addr) (j : Nat) (p : V × V), ps[j]? = some p → addT H N ps (N + j) = some (.tup [p.1, p.2])
  | q :: r, H, N, 0, p, h => by
    simp at h; subst h
    show addT H N (q :: r) N = _
    rw [addT, addT_lt r _ _ _ (Nat.lt_succ_self _)]
    exact upd_same
  | q :: r, H, N, j + 1, p, h => by
    rw [addT]
    have := addT_at r (upd H N (.tup [q.1, q.2])) (N + 1) j p (by simpa using h)
    rw [show N + (j + 1) = N + 1 + j from by rw [Nat.add_assoc, Nat.add_comm 1 j]]
    exact this
theorem addT_cases : ∀ (ps : List (V × V)) (H : Hp) (N b : Addr) (u : HO), addT H N ps b = some u → H b = some u ∨ ∃ j p, ps[j]? = some p ∧ b = N + j ∧ u = .tup [p.1, p.2]
  | [], _, _, _, _, h => .inl h
  | q :: r, H, N, b, u, h => by
    rw [addT] at h
    rcases addT_cases r _ _ b u h with h1 | ⟨j, p, h1, h2, h3⟩
    · by_cases c : b = N
      · subst c; rw [upd_same] at h1; cases h1
        exact .inr ⟨0, q, rfl, rfl, rfl⟩
      · rw [upd_ne c] at h1; exact .inl h1
    · exact .inr ⟨j + 1, p, by simpa using h1, by rw [h2, Nat.add_assoc, Nat.add_comm 1 j], h3⟩
section
variable {K : PySem.W.Frag} {B : Bs} {E : Env} {σ : L2.St}
theorem addT_frm : ∀ (xs ys : List V) (ds es : List D) (G H : Hp) (N : Addr), Frm K B G H E σ → RpAll K G xs ds → RpAll K G ys es → (∀ j, H (N + j) = none) →
    ∃ G', Frm K B G' (addT H N (xs.zip ys)) E σ ∧ Ext σ E E G H G' (addT H N (xs.zip ys)) ∧ RpAll K G' ((List.range (xs.zip ys).length).map fun j => V.ref (N + j)) (List.zipWith (fun a b => .tuple [a, b]) ds es)
  | [], _, _, _, G, H, N, F, .nil, _, _ => ⟨G, F, Ext.refl, .nil⟩
  | _ :: _, [], _, _, G, H, N, F, .cons _ _, .nil, _ => ⟨G, F, Ext.refl, .nil⟩
  | x :: xs, y :: ys, d :: ds, e :: es, G, H, N, F, .cons r1 r2, .cons q1 q2, hn => by
    obtain ⟨G1, F1, X1, p1⟩ := (Res.tup (hn 0) (.cons r1 (.cons q1 .nil))).toE F
    have hn1 : ∀ j, upd H N (.tup [x, y]) (N + 1 + j) = none := fun j => by
      have := hn (1 + j)
      rw [← Nat.add_assoc] at this
      exact (upd_ne (Nat.ne_of_gt (Nat.lt_of_lt_of_le (Nat.lt_succ_self N) (Nat.le_add_right _ _)))).trans this
    obtain ⟨G2, F2, X2, p2⟩ := addT_frm xs ys ds es G1 _ (N + 1) F1 (r2.up X1.g) (q2.up X1.g) hn1
    refine ⟨G2, F2, X1.trans X2, ?_⟩
    rw [List.zip_cons_cons, List.length_cons, List.range_succ_eq_map, List.map_cons, List.map_map, List.zipWith_cons_cons]
    refine .cons (p1.up X2.g) ?_
    have : ((List.range (xs.zip ys).length).map ((fun j => V.ref (N + j)) ∘ Nat.succ)) = (List.range (xs.zip ys).length).map fun j => V.ref (N + 1 + j) := by
      refine List.map_congr_left fun j _ => ?_
      show V.ref (N + (j + 1)) = _
      rw [Nat.add_assoc, Nat.add_comm 1 j]
    rw [this]
    exact p2
end
section
variable {X : Cx} {pins : List (Addr × Obj)} {σ : L2.St} {H : Hp} {s : Shared}
theorem Inv.zipped {h' : Heap} {t' : Nat} (I : Inv X pins σ H s) {N S : Addr} {xs ys : List V} {us vs : List Value} (r1 : Vals xs us) (r2 : Vals ys vs) (hS : s.heap.objs.size ≤ S) (hN : S < N) (k : ∀ b o, s.heap.get? b = some o → h'.get? b = some o) (hz : (xs.zip ys).length ≤ sizeLine)
    (pr : ∀ j x y, us[j]? = some x → vs[j]? = some y → IsPair h' (N + j) x y) {c' : Nat} (l : h'.get? S = some { cls := .type "list", dict := none, data := .seq ((List.range (xs.zip ys).length).map fun j => Value.ref (N + j)).toArray c', slots := #[] }) :
    Inv X pins σ (upd (addT H N (xs.zip ys)) S (.lst ((List.range (xs.zip ys).length).map fun j => V.ref (N + j)))) { s with heap := h', toks := t' } := by
  have low : ∀ b, b < s.heap.objs.size → upd (addT H N (xs.zip ys)) S (.lst ((List.range (xs.zip ys).length).map fun j => V.ref (N + j))) b = H b := fun b hb => by
    rw [upd_ne (Nat.ne_of_lt (Nat.lt_of_lt_of_le hb hS)), addT_lt _ _ _ _ (Nat.lt_of_lt_of_le hb (Nat.le_trans hS (Nat.le_of_lt hN)))]
  have keepH : ∀ b u, H b = some u → upd (addT H N (xs.zip ys)) S (.lst ((List.range (xs.zip ys).length).map fun j => V.ref (N + j))) b = some u := fun b u e => (low b (I.hok.lt e)).trans e
  refine I.un ⟨fun b o q _ _ _ => k b o q, fun b o q _ _ _ => ⟨o.slots, k b o q⟩, fun b o q n _ => (low b (Heap.lt_size q)).trans n, fun b o q _ => ⟨o, k b o q⟩, fun b ps q => keepH b _ q, fun b o u q => keepH b _ q, fun b ps q => ⟨#[], by rw [keepH b _ q]; simp⟩⟩ fun b u e => ?_
  by_cases cS : b = S
  · subst cS
    rw [upd_same] at e; cases e
    refine ⟨by rw [List.length_map, List.length_range]; exact hz, _, c', ?_, l⟩
    generalize List.range (xs.zip ys).length = L
    induction L with
    | nil => exact .nil
    | cons a r ih => exact .cons rfl ih
  · rw [upd_ne cS] at e
    rcases addT_cases _ _ _ _ _ e with e1 | ⟨j, p, e1, rfl, rfl⟩
    · refine (I.hok b u e1).stay (fun c v hc q => k c v q) (fun c q => keepH c _ q) fun c xs q => keepH c _ q
    · obtain ⟨h1, h2⟩ := List.getElem?_zip_eq_some.mp e1
      obtain ⟨u1, g1, q1⟩ := r1.get h1
      obtain ⟨u2, g2, q2⟩ := r2.get h2
      exact ⟨by show 2 ≤ sizeLine; decide, [u1, u2], .cons q1 (.cons q2 .nil), ⟨_, pr j u1 u2 g1 g2, rfl, _, rfl⟩⟩
end
section
variable {X : Cx} {B : Bs} {C : Ctx} {a b : Expr} {ia ib : IR} {pos p : Pos}
def tLzp (K : PySem.W.Frag) (ta : TA) : TE := fun σ H Q => ta σ H fun vs H1 => ∃ a b xs ys, vs = [.ref a, .ref b] ∧ SqT K H1 a xs ∧ SqT K H1 b ys ∧
  ∀ S N, H1 S = none → S < N → (∀ j, H1 (N + j) = none) → Q (.ref S) (upd (addT H1 N (xs.zip ys)) S (.lst ((List.range (xs.zip ys).length).map fun j => V.ref (N + j))))
theorem pe_lzp {ta : TA} {p2 pos2 : Pos} (hc : X.calm = true) (hg : Gl X "list") (hm : X.mg "list" = none) (hg2 : Gl X "zip") (hm2 : X.mg "zip" = none) (ha : PA X [a, b] ta)
    (hs : starEach [a, b] X.env = (false, eval a X.env) :: starEach [b] X.env) (hpl : (backTo pos2 (starEach [b] X.env)).any (·.1) = false)
    (na : starEach [.Call (.Name "zip" p2) [a, b] [] pos2] X.env = (false, eval (.Call (.Name "zip" p2) [a, b] [] pos2) X.env) :: starEach [] X.env) : PE X (.Call (.Name "list" p) [.Call (.Name "zip" p2) [a, b] [] pos2] [] pos) (tLzp X.K ta) := by
  refine ⟨fun pins s σ H Q I h => ?_⟩
  refine PyProof.Rows.Call_ (ld_blt I hg hm PyProof.Rows.boot_list ?_)
  refine PyProof.Rows.callWith_type1 (args_cons ?_ na) na
  refine PyProof.Rows.Call_ (ld_blt I hg2 hm2 PyProof.Rows.boot_zip (PyProof.Rows.callWith_type1 (thn (ha.run pos2 pins s σ H _ I h) fun us s1 ⟨vs, H1, I1, r1, q1⟩ => ?_) hs hpl))
  obtain ⟨a, b, xs, ys, ex, hqx, hqy, q⟩ := q1
  subst ex
  cases r1 with
  | cons r rr => cases rr with
    | cons r' rr =>
      cases rr
      cases r
      cases r'
      obtain ⟨its, rv, p1, hz1⟩ := I1.tuple hqx
      obtain ⟨its2, rv2, p2, hz2⟩ := I1.tuple hqy
      refine RZ.call_zipT p1 p2 fun h' hz hTI hTO h1 h2 hsz hk => args_nil ?_
      have I2 : Inv X pins σ H1 { s1 with heap := h' } := I1.kept (t' := s1.toks) hk
      have l1 := rv.length
      have l2 := rv2.length
      have lz : (xs.zip ys).length = min its.toArray.size its2.toArray.size := by rw [List.length_zip]; simp [l1, l2]
      have la : a < s1.heap.objs.size := by obtain ⟨o, q, _⟩ := p1; exact Heap.lt_size q
      have lb : b < s1.heap.objs.size := by obtain ⟨o, q, _⟩ := p2; exact Heap.lt_size q
      have up1 : h'.IsTuple a its.toArray := by obtain ⟨o, q, r⟩ := p1; exact ⟨o, hk _ o q, r⟩
      have up2 : h'.IsTuple b its2.toArray := by obtain ⟨o, q, r⟩ := p2; exact ⟨o, hk _ o q, r⟩
      refine call_list_zip (s := { s1 with heap := h' }) (l1 := a) (l2 := b) (xs := its.toArray) (ys := its2.toArray) (PySem.W.ktu_apart s1.heap.objs.size a b la lb) (I2.ok.hd hc) (by simp; omega) hz hTI hTO h1 h2 up1 up2 fun h'' Z => ?_
      obtain ⟨z1, ⟨c', z2⟩, z3⟩ := Z
      have hS : s1.heap.objs.size ≤ h'.objs.size := by rw [hsz]; exact Nat.le_add_right _ _
      have kk : ∀ c o, s1.heap.get? c = some o → h''.get? c = some o := fun c o q => by
        have hlt := Heap.lt_size q
        exact z3 c o (Nat.ne_of_lt (Nat.lt_of_lt_of_le hlt (Nat.le_add_right _ _))) (Nat.ne_of_lt (Nat.lt_of_lt_of_le hlt (Nat.le_add_right _ _))) (Nat.ne_of_lt hlt) (Nat.ne_of_lt (Nat.lt_succ_of_lt hlt)) (Nat.ne_of_lt (Nat.lt_of_lt_of_le hlt hS)) (hk c o q)
      rw [← lz] at z2
      have J := Inv.zipped (h' := h'') (t' := s1.toks) I1 (N := h'.objs.size + 1) (S := h'.objs.size) rv rv2 hS (Nat.lt_succ_self _) kk (by rw [lz]; simp; omega) (fun j x y e1 e2 => ?_) z2
      · exact ⟨.ref h'.objs.size, _, J, rfl, q _ _ (I1.hok.fresh hS) (Nat.lt_succ_self _) fun j => I1.hok.fresh (Nat.le_trans hS (Nat.le_trans (Nat.le_succ _) (Nat.le_add_right _ _)))⟩
      · have hj1 : j < its.length := (List.getElem?_eq_some_iff.mp e1).1
        have hj2 : j < its2.length := (List.getElem?_eq_some_iff.mp e2).1
        obtain ⟨x', y', f1, f2, pp⟩ := z1 j (by rw [List.size_toArray, List.size_toArray]; exact Nat.lt_min.mpr ⟨hj1, hj2⟩)
        rw [List.getElem?_toArray] at f1 f2
        rw [e1] at f1; cases f1
        rw [e2] at f2; cases f2
        exact pp
theorem lzS_inv {ds : List D} {d : D} (h : lzS ds = some d) : ∃ xs ys, ds = [.tuple xs, .tuple ys] ∧ d = .list (List.zipWith (fun a b => .tuple [a, b]) xs ys) := by
  unfold lzS at h
  split at h
  · cases h; exact ⟨_, _, rfl, rfl⟩
  · cases h
theorem g_lzp {p2 pos2 : Pos} (hc : X.calm = true) (hg : Gl X "list") (hm : X.mg "list" = none) (hg2 : Gl X "zip") (hm2 : X.mg "zip" = none) (ha : PA X [a, b] (tEs X.K B C [ia, ib])) (ns : notStar a = true) (ns' : notStar b = true) : Good X B C (.Call (.Name "list" p) [.Call (.Name "zip" p2) [a, b] [] pos2] [] pos) (.lzp [ia, ib]) := by
  refine Good.ofA (PE.imp (pe_lzp hc hg hm hg2 hm2 ha (by rw [star_cons ns]) (by rw [star_cons ns']; rfl) (star_cons rfl)) fun σ H Q ⟨G, E, d, E', F, ee, k⟩ => ?_) (fun _ z => by cases z)
  simp only [ev, Option.bind_eq_some_iff, Option.map_eq_some_iff] at ee
  obtain ⟨⟨ds, E1⟩, e1, z, e2, eq⟩ := ee
  cases eq
  refine ⟨G, E, ds, E1, F, e1, fun vs G1 H1 F1 X1 r1 => ?_⟩
  obtain ⟨xs, ys, rfl, rfl⟩ := lzS_inv e2
  cases r1 with
  | cons rv rn => cases rn with
    | cons rw' rn =>
      cases rn
      cases rv with
      | tup h1 h2 =>
        cases rw' with
        | tup h3 h4 =>
          refine ⟨_, _, _, _, rfl, Same.sqT F1.sub h1.sq, Same.sqT F1.sub h3.sq, fun S N hS hN hf => ?_⟩
          obtain ⟨G2, F2, X2, r⟩ := addT_frm _ _ _ _ G1 H1 N F1 h2 h4 hf
          obtain ⟨G', F', x', a⟩ := (Res.lst (p := S) ((addT_lt _ _ _ _ hN).trans hS) r).toA (ir := .lzp [ia, ib]) F2 (X1.trans X2)
          exact k _ G' _ F' x' a
end
end Pv

set_option Elab.async false
set_option linter.all false
set_option maxRecDepth 100000
set_option maxHeartbeats 1000000
/-! PvL: targets, comprehensions. -/
namespace Pv
open PySem PySem.Spec L2
mutual
def tgS : Tg → List Nat
  | .name i => [i]
  | .tup ts => tgSs ts
def tgSs : List Tg → List Nat
  | [] => []
  | t :: r => tgS t ++ tgSs r
end
section
variable {K : PySem.W.Frag} {B : Bs} {G G' H H' Gs Hs : Hp} {E E' : Env} {σ σ' : St} {C : Ctx}
/-- a name is stored -/
theorem Frm.setSh (F : Frm K B G H E σ) {i : Nat} {v : V} {d : D} (r : Rp K G v d) : Frm K B G H (E.set i (.sh d)) (σ.set i (some v)) := by
  by_cases hi : i < E.length
  · have gg : ∀ j, gets (E.set i (.sh d)) j = if j = i then .sh d else gets E j := fun j => gets_set hi
    have ss : ∀ j, j ≠ i → (σ.set i (some v))[j]? = σ[j]? := fun j h => List.getElem?_set_ne (Ne.symm h)
    have wr : ∀ j, Wr (E.set i (.sh d)) j → Wr E j ∧ j ≠ i := fun j hj => by
      unfold Wr at hj
      rw [gg] at hj
      by_cases q : j = i
      · simp [q] at hj
      · rw [if_neg q] at hj; exact ⟨hj, q⟩
    refine ⟨F.sub, by rw [List.length_set, List.length_set]; exact F.len, fun j d' hj => ?_, fun j d' hj => ?_, fun j d' hj => ?_, fun j k a hj hk e1 e2 => ?_, F.keep, F.iok, F.new⟩
    · rw [gg] at hj
      by_cases q : j = i
      · subst q; simp at hj; subst hj
        exact ⟨v, by rw [List.getElem?_set_self (by rw [← F.len]; exact hi)], r⟩
      · rw [if_neg q] at hj; rw [ss j q]; exact F.sh j d' hj
    · rw [gg] at hj
      by_cases q : j = i
      · simp [q] at hj
      · rw [if_neg q] at hj; rw [ss j q]; exact F.ow j d' hj
    · rw [gg] at hj
      by_cases q : j = i
      · simp [q] at hj
      · rw [if_neg q] at hj; rw [ss j q]; exact F.io j d' hj
    · obtain ⟨w1, n1⟩ := wr j hj
      obtain ⟨w2, n2⟩ := wr k hk
      rw [ss j n1] at e1
      rw [ss k n2] at e2
      exact F.dj j k a w1 w2 e1 e2
  · rw [List.set_eq_of_length_le (by omega), List.set_eq_of_length_le (by rw [← F.len]; omega)]
    exact F
def tG (K : PySem.W.Frag) (B : Bs) (t : Tg) : TG := fun v σ H Q => ∃ G E d E', Frm K B G H E σ ∧ Rp K G v d ∧ assignT t d E = some E' ∧ ∀ σ', Frm K B G H E' σ' → (∀ j, j ∉ tgS t → σ'[j]? = σ[j]?) → Q σ' H
def tGs (K : PySem.W.Frag) (B : Bs) (ts : List Tg) : TGs := fun vs σ H Q => ∃ G E ds E', Frm K B G H E σ ∧ RpAll K G vs ds ∧ assignTs ts ds E = some E' ∧ ∀ σ', Frm K B G H E' σ' → (∀ j, j ∉ tgSs ts → σ'[j]? = σ[j]?) → Q σ' H
mutual
theorem assign_wr : ∀ (t : Tg) {d : D} {E E' : Env}, assignT t d E = some E' → E'.length = E.length ∧ ∀ j, Wr E' j → Wr E j ∧ j ∉ tgS t
  | .name i, d, E, E', h => by
    simp only [assignT] at h
    have h : some (E.set i (.sh d)) = some E' := by
      split at h
      · cases h
      · exact h
    cases h
    refine ⟨by simp, fun j hj => ?_⟩
    by_cases hi : i < E.length
    · unfold Wr at hj ⊢
      rw [gets_set hi] at hj
      by_cases q : j = i
      · simp [q] at hj
      · rw [if_neg q] at hj; exact ⟨hj, by simp [tgS, q]⟩
    · rw [List.set_eq_of_length_le (by omega)] at hj
      refine ⟨hj, fun m => ?_⟩
      have e : j = i := by simpa [tgS] using m
      subst e
      have l := gets_lt (E := E) (i := j) (by rcases hj with ⟨d, w⟩ | ⟨d, w⟩ <;> rw [w] <;> simp)
      exact hi l
  | .tup ts, d, E, E', h => by
    cases d <;> simp only [assignT] at h <;> first | cases h | exact assigns_wr ts h
theorem assigns_wr : ∀ (ts : List Tg) {ds : List D} {E E' : Env}, assignTs ts ds E = some E' → E'.length = E.length ∧ ∀ j, Wr E' j → Wr E j ∧ j ∉ tgSs ts
  | [], ds, E, E', h => by
    cases ds with
    | nil => simp only [assignTs] at h; cases h; exact ⟨rfl, fun j hj => ⟨hj, by simp [tgSs]⟩⟩
    | cons _ _ => simp [assignTs] at h
  | t :: ts, ds, E, E', h => by
    cases ds with
    | nil => simp [assignTs] at h
    | cons d ds =>
      simp only [assignTs, Option.bind_eq_some_iff] at h
      obtain ⟨E1, h1, h2⟩ := h
      obtain ⟨l1, a⟩ := assign_wr t h1
      obtain ⟨l2, b⟩ := assigns_wr ts h2
      refine ⟨l2.trans l1, fun j hj => ?_⟩
      obtain ⟨w1, n1⟩ := b j hj
      obtain ⟨w2, n2⟩ := a j w1
      exact ⟨w2, by simp [tgSs, n1, n2]⟩
end
end
section
variable {X : Cx} {B : Bs} {C : Ctx} {tg : Expr} {ts : List Expr} {t : Tg} {tts : List Tg} {pos : Pos} {i : Nat}
theorem PG.imp {t t' : TG} (h : PG X tg t) (m : ∀ v σ H Q, t' v σ H Q → t v σ H Q) : PG X tg t' := ⟨fun pins s σ H v u Q I r h' => h.run pins s σ H v u Q I r (m v σ H Q h')⟩
theorem PGs.imp {t t' : TGs} (h : PGs X ts t) (m : ∀ v σ H Q, t' v σ H Q → t v σ H Q) : PGs X ts t' := ⟨fun pins s σ H v u Q I r h' => h.run pins s σ H v u Q I r (m v σ H Q h')⟩
theorem tg_name (h : PG X tg (gName i)) : PG X tg (tG X.K B (.name i)) := PG.imp h fun v σ H Q ⟨G, E, d, E', F, r, e, k⟩ => by
  simp only [assignT] at e
  have e : some (E.set i (.sh d)) = some E' := by
    split at e
    · cases e
    · exact e
  cases e
  exact k _ (F.setSh r) fun j hj => List.getElem?_set_ne (by simpa [tgS, eq_comm] using hj)
theorem tgs_nil : PGs X [] (tGs X.K B []) := PGs.imp pgs_nil fun vs σ H Q ⟨G, E, ds, E', F, r, e, k⟩ => by
  cases r with
  | nil => simp only [assignTs] at e; cases e; exact ⟨rfl, k σ F fun _ _ => rfl⟩
  | cons => simp [assignTs] at e
theorem asg_cons {t : Expr} {ts : List Expr} {env : PySem.Env} (h : notStar t = true) : (assignEach (t :: ts) env).map (·.2) = assign t env :: (assignEach ts env).map (·.2) := by
  cases t <;> first | rfl | simp [notStar] at h
theorem tgs_cons (h1 : PG X tg (tG X.K B t)) (h2 : PGs X ts (tGs X.K B tts)) (ns : notStar tg = true) : PGs X (tg :: ts) (tGs X.K B (t :: tts)) := PGs.imp (pgs_cons h1 h2 (asg_cons ns)) fun vs σ H Q ⟨G, E, ds, E', F, r, e, k⟩ => by
  cases r with
  | nil => simp [assignTs] at e
  | cons rv rs =>
    simp only [assignTs, Option.bind_eq_some_iff] at e
    obtain ⟨E1, e1, e2⟩ := e
    exact ⟨_, _, rfl, G, E, _, E1, F, rv, e1, fun σ1 F1 s1 => ⟨G, E1, _, E', F1, rs, e2, fun σ2 F2 s2 => k σ2 F2 fun j hj => by
      simp only [tgSs, List.mem_append, not_or] at hj
      rw [s2 j hj.2, s1 j hj.1]⟩⟩
theorem asg_len : ∀ {ts : List Expr} {env : PySem.Env}, (assignEach ts env).length = ts.length
  | [], _ => rfl
  | t :: r, env => by
    have ih := @asg_len r env
    cases t <;> simp [assignEach, ih]
theorem asg_nostar : ∀ {ts : List Expr} {env : PySem.Env}, ts.all notStar = true → (assignEach ts env).findIdx? (·.1) = none
  | [], _, _ => rfl
  | t :: r, env, h => by
    simp only [List.all_cons, Bool.and_eq_true] at h
    have ih := @asg_nostar r env h.2
    cases t with
    | Starred => simp [notStar] at h
    | _ => simp [assignEach, List.findIdx?_cons, ih]
theorem assigns_len : ∀ (tts : List Tg) (ds : List D) (E E' : Env), assignTs tts ds E = some E' → ds.length = tts.length := by
  intro tts
  induction tts with
  | nil => intro ds E E' e; cases ds <;> simp [assignTs] at e ⊢
  | cons t r ih =>
    intro ds E E' e
    cases ds with
    | nil => simp [assignTs] at e
    | cons d ds =>
      simp only [assignTs, Option.bind_eq_some_iff] at e
      obtain ⟨E1, _, e2⟩ := e
      simp [ih ds E1 E' e2]
theorem pg_both {k n : Nat} {t : TGs} (hc : X.calm = true) (h : PGs X ts t) (hn : (assignEach ts X.env).length = n) (ns : ts.all notStar = true) : PG X (.Tuple ts k pos) (fun v σ H Q => gTup X.K n t v σ H Q ∨ gLst X.K n t v σ H Q) :=
  ⟨fun pins s σ H v u Q I r hw => hw.elim ((pg_tup hc h hn (asg_nostar ns)).run pins s σ H v u Q I r) ((pg_lst hc h hn (asg_nostar ns)).run pins s σ H v u Q I r)⟩
theorem tg_tup {k : Nat} (hc : X.calm = true) (h : PGs X ts (tGs X.K B tts)) (hl : ts.length = tts.length) (ns : ts.all notStar = true) : PG X (.Tuple ts k pos) (tG X.K B (.tup tts)) := by
  refine PG.imp (pg_both hc h rfl ns) fun v σ H Q ⟨G, E, d, E', F, r, e, k⟩ => ?_
  cases d with
  | list ds =>
    simp only [assignT] at e
    have el := assigns_len tts ds E E' e
    cases r with
    | lst h1 h2 => exact .inr ⟨_, _, rfl, Same.sqL F.sub (SqL.of h1), by rw [asg_len, hl, h2.len, el], G, E, ds, E', F, h2, e, k⟩
  | tuple ds =>
    simp only [assignT] at e
    have el := assigns_len tts ds E E' e
    cases r with
    | tup h1 h2 => exact .inl ⟨_, _, rfl, Same.sqT F.sub h1.sq, by rw [asg_len, hl, h2.len, el], G, E, ds, E', F, h2, e, k⟩
  | _ => simp only [assignT] at e; cases e
end

/-! ### a block's names -/
section
variable {K : PySem.W.Frag} {B : Bs} {G G' H H' Gs Hs : Hp} {E E' E1 : Env} {σ σ' : St} {C : Ctx}
theorem wipes_len : ∀ (ow : List Nat), (wipes E ow).length = E.length
  | [] => rfl
  | i :: r => by unfold wipes; rw [List.length_set, wipes_len r]
theorem gets_wipes (E : Env) : ∀ (ow : List Nat) (j : Nat), gets (wipes E ow) j = if j ∈ ow then .un else gets E j
  | [], j => by simp [wipes]
  | i :: r, j => by
    unfold wipes
    have ih := gets_wipes E r j
    by_cases hi : i < E.length
    · rw [gets_set (by rw [wipes_len]; exact hi), ih]
      by_cases q : j = i
      · simp [q]
      · simp [q]
    · rw [List.set_eq_of_length_le (by rw [wipes_len]; omega), ih]
      by_cases q : j = i
      · subst q
        have : gets E j = .un := by
          unfold gets
          rw [List.getD_eq_getElem?_getD, List.getElem?_eq_none (by omega)]; rfl
        simp [this]
      · simp [q]
theorem backs_len : ∀ (ow : List Nat), (backs E1 E ow).length = E.length
  | [] => rfl
  | i :: r => by unfold backs; rw [List.length_set, backs_len r]
theorem gets_backs (hl : E.length = E1.length) : ∀ (ow : List Nat) (j : Nat), gets (backs E1 E ow) j = if j ∈ ow then gets E1 j else gets E j
  | [], j => by simp [backs]
  | i :: r, j => by
    unfold backs
    have ih := gets_backs hl r j
    by_cases hi : i < E.length
    · rw [gets_set (by rw [backs_len]; exact hi), ih]
      by_cases q : j = i
      · simp [q]
      · simp [q]
    · rw [List.set_eq_of_length_le (by rw [backs_len]; omega), ih]
      by_cases q : j = i
      · subst q
        have u : ∀ E : Env, ¬ j < E.length → gets E j = .un := fun E h => by
          unfold gets
          rw [List.getD_eq_getElem?_getD, List.getElem?_eq_none (by omega)]; rfl
        simp [u E hi, u E1 (by omega)]
      · simp [q]
theorem wipe_at (σ : St) : ∀ (vs : List Nat) (j : Nat), (wipe σ vs)[j]? = if j ∈ vs ∧ j < σ.length then some none else σ[j]?
  | [], j => by simp [wipe]
  | v :: vs, j => by
    unfold wipe
    have ih := wipe_at σ vs j
    by_cases q : v = j
    · subst q
      by_cases h : v < σ.length
      · rw [List.getElem?_set_self (by rw [wipe_length]; exact h)]; simp [h]
      · rw [List.getElem?_eq_none (by rw [List.length_set, wipe_length]; omega)]
        rw [if_neg (by omega), List.getElem?_eq_none (by omega)]
    · rw [List.getElem?_set_ne q, ih]
      have : (j ∈ v :: vs) ↔ j ∈ vs := by simp [Ne.symm q]
      simp only [this]
theorem wipe_ne {vs : List Nat} {j : Nat} (h : j ∉ vs) : (wipe σ vs)[j]? = σ[j]? := by rw [wipe_at, if_neg (fun z => h z.1)]
theorem wipe_agree {vs : List Nat} (hl : σ'.length = σ.length) (h : ∀ j, j ∉ vs → σ'[j]? = σ[j]?) : wipe σ' vs = wipe σ vs := by
  refine List.ext_getElem? fun j => ?_
  rw [wipe_at, wipe_at, hl]
  by_cases q : j ∈ vs
  · by_cases l : j < σ.length
    · rw [if_pos ⟨q, l⟩, if_pos ⟨q, l⟩]
    · rw [if_neg (fun z => l z.2), if_neg (fun z => l z.2), List.getElem?_eq_none (by omega), List.getElem?_eq_none (by omega)]
  · rw [if_neg (fun z => q z.1), if_neg (fun z => q z.1), h j q]
theorem wr_wipes {ow : List Nat} {j : Nat} : Wr (wipes E ow) j ↔ Wr E j ∧ j ∉ ow := by
  unfold Wr
  rw [gets_wipes]
  by_cases q : j ∈ ow
  · simp [q]
  · simp [q]
theorem Frm.wiped (F : Frm K B G H E σ) {ow vs : List Nat} (h : ∀ j ∈ vs, j ∈ ow) : Frm K B G H (wipes E ow) (wipe σ vs) where
  sub := F.sub
  len := by rw [wipes_len, wipe_length]; exact F.len
  sh := fun i d w => by
    rw [gets_wipes] at w
    by_cases q : i ∈ ow
    · rw [if_pos q] at w; cases w
    · rw [if_neg q] at w; rw [wipe_ne fun z => q (h i z)]; exact F.sh i d w
  ow := fun i d w => by
    rw [gets_wipes] at w
    by_cases q : i ∈ ow
    · rw [if_pos q] at w; cases w
    · rw [if_neg q] at w; rw [wipe_ne fun z => q (h i z)]; exact F.ow i d w
  io := fun i d w => by
    rw [gets_wipes] at w
    by_cases q : i ∈ ow
    · rw [if_pos q] at w; cases w
    · rw [if_neg q] at w; rw [wipe_ne fun z => q (h i z)]; exact F.io i d w
  dj := fun i j a hi hj e1 e2 => by
    obtain ⟨w1, n1⟩ := wr_wipes.mp hi
    obtain ⟨w2, n2⟩ := wr_wipes.mp hj
    rw [wipe_ne fun z => n1 (h i z)] at e1
    rw [wipe_ne fun z => n2 (h j z)] at e2
    exact F.dj i j a w1 w2 e1 e2
  keep := F.keep
  iok := F.iok
  new := F.new
theorem mn_wipes (F : Frm K B G H E σ) {ow vs : List Nat} (h : ∀ j ∈ vs, j ∈ ow) {a : Addr} (m : Mn (wipes E ow) (wipe σ vs) a) : ∃ i, Wr E i ∧ i ∉ ow ∧ σ[i]? = some (some (.ref a)) := by
  obtain ⟨i, w, e⟩ := m
  obtain ⟨w1, n1⟩ := wr_wipes.mp w
  rw [wipe_ne fun z => n1 (h i z)] at e
  exact ⟨i, w1, n1, e⟩
/-- an own object of a name that is not looked at stays -/
theorem hold_stays (F1 : Frm K B Gs Hs E1 σ) {ow vs : List Nat} (h : ∀ j ∈ vs, j ∈ ow) {Ec : Env} (x : Ext (wipe σ vs) (wipes E1 ow) Ec Gs Hs G H) {i : Nat} {a : Addr} (w : Wr E1 i) (hi : i ∈ ow) (e : σ[i]? = some (some (.ref a))) :
    H a = Hs a ∧ G a = none := by
  have nm : ¬ Mn (wipes E1 ow) (wipe σ vs) a := fun m => by
    obtain ⟨j, w1, n1, e1⟩ := mn_wipes F1 h m
    exact n1 (F1.dj i j a w w1 e e1 ▸ hi)
  obtain ⟨⟨o, eo, nt⟩, g⟩ := F1.thereN ⟨i, w, e⟩
  exact ⟨(x.h a o eo nm).trans eo.symm, x.n a o nt eo nm g⟩
/-- behind a block -/
theorem Frm.back {ow vs : List Nat} (F1 : Frm K B Gs Hs E1 σ) (Fc : Frm K B G H E (wipe σ vs)) (x : Ext (wipe σ vs) (wipes E1 ow) E Gs Hs G H) (h : ∀ j ∈ vs, j ∈ ow) :
    Frm K B G H (backs E1 E ow) σ ∧ Ext σ E1 (backs E1 E ow) Gs Hs G H := by
  have hl : E.length = E1.length := by rw [Fc.len, wipe_length, F1.len]
  have gb := gets_backs (E1 := E1) hl ow
  have wE : ∀ j, Wr E j → Wr E1 j ∧ j ∉ ow := fun j hj => wr_wipes.mp (x.w j hj)
  have wB : ∀ j, Wr (backs E1 E ow) j → Wr E1 j := fun j hj => by
    unfold Wr at hj
    rw [gb] at hj
    by_cases q : j ∈ ow
    · rw [if_pos q] at hj; exact hj
    · rw [if_neg q] at hj; exact (wE j hj).1
  have mE : ∀ b, ¬ Mn E1 σ b → ¬ Mn (Pv.wipes E1 ow) (wipe σ vs) b := fun b nm m => by
    obtain ⟨i, w, _, e⟩ := mn_wipes F1 h m
    exact nm ⟨i, w, e⟩
  refine ⟨⟨Fc.sub, by rw [backs_len, hl]; exact F1.len, fun j d hj => ?_, fun j d hj => ?_, fun j d hj => ?_, fun j k a hj hk e1 e2 => F1.dj j k a (wB j hj) (wB k hk) e1 e2, Fc.keep, Fc.iok, Fc.new⟩, ⟨x.g, fun b u e m => x.h b u e (mE b m), fun b u nt e m g => x.n b u nt e (mE b m) g, wB, x.t⟩⟩
  · rw [gb] at hj
    by_cases q : j ∈ ow
    · rw [if_pos q] at hj
      obtain ⟨v, e, r⟩ := F1.sh j d hj
      exact ⟨v, e, r.up x.g⟩
    · rw [if_neg q] at hj
      obtain ⟨v, e, r⟩ := Fc.sh j d hj
      rw [wipe_ne fun z => q (h j z)] at e
      exact ⟨v, e, r⟩
  · rw [gb] at hj
    by_cases q : j ∈ ow
    · rw [if_pos q] at hj
      obtain ⟨a, e, g, h0, o⟩ := F1.ow j d hj
      obtain ⟨z1, z2⟩ := hold_stays F1 h x (.inl ⟨d, hj⟩) q e
      exact ⟨a, e, z2, h0, o.up x.g z1⟩
    · rw [if_neg q] at hj
      obtain ⟨a, e, r⟩ := Fc.ow j d hj
      rw [wipe_ne fun z => q (h j z)] at e
      exact ⟨a, e, r⟩
  · rw [gb] at hj
    by_cases q : j ∈ ow
    · rw [if_pos q] at hj
      obtain ⟨a, h0, e, g, o⟩ := F1.io j d hj
      obtain ⟨z1, z2⟩ := hold_stays F1 h x (.inr ⟨d, hj⟩) q e
      exact ⟨a, h0, e, z2, o.up x.g z1⟩
    · rw [if_neg q] at hj
      obtain ⟨a, h0, e, r⟩ := Fc.io j d hj
      rw [wipe_ne fun z => q (h j z)] at e
      exact ⟨a, h0, e, r⟩
end
end Pv

set_option Elab.async false
set_option linter.all false
set_option maxRecDepth 100000
set_option maxHeartbeats 2000000
/-! PvM: list comprehensions. -/
namespace Pv
open PySem PySem.Spec L2
theorem item_len {x : D} {xs : List D} (h : itemsOf x = some xs) : True := trivial
section
variable {X : Cx} {B : Bs} {C : Ctx} {tg iter elt : Expr} {ifs : List Expr} {is ie ic : IR} {t : Tg} {scope : Scope} {own : List (Str × Nat)} {pos : Pos}
/-- the turns of a block, by the interpreter -/
theorem comp_turns {K : PySem.W.Frag} {σ : St} {G1 H1 : Hp} {E1 : Env} {ow vs : List Nat} {xs ys : List D} {E2 : Env} {Dl : Addr} {J : It} {hold : List Addr} {Qs : Hp → Prop}
    (F1 : Frm K B G1 H1 E1 σ) (hv : ∀ j ∈ vs, j ∈ ow) (hts : ∀ j ∈ tgS t, j ∈ vs) (hD : H1 Dl = none) (w : Walk K J hold G1 H1 xs) (hh : ∀ b ∈ hold, ∃ i, Wr E1 i ∧ i ∈ ow ∧ σ[i]? = some (some (.ref b)))
    (he : compL (assignT t) ow (ev C ic) (ev C ie) xs (wipes E1 ow) = some (ys, E2)) (hlen : xs.length ≤ LIM)
    (hQ : ∀ G H acc, Frm K B G H (backs E1 E2 ow) σ → Ext σ E1 (backs E1 E2 ow) G1 H1 G H → H Dl = some (.lst acc) → RpAll K G acc ys → G Dl = none → ¬ Mn (backs E1 E2 ow) σ Dl → Qs H) :
    ∃ W : Nat → Nat → Hp → Prop, (∃ m, W 0 m (upd H1 Dl (.lst []))) ∧ ∀ i m H, W i m H →
      (J.stop i H ∧ Qs H) ∨ (J.go i H ∧ ∃ Nx : Hp → Prop, (∀ H', Nx H' → ∃ m', m' < m ∧ W (i + 1) m' H') ∧ ∀ x H', J.yld i H x H' → tG K B t x (wipe σ vs) H' fun σ2 H2 => wipe σ2 vs = wipe σ vs ∧ tT K B C ic σ2 H2 fun b H3 =>
        if b = true then tE K B C ie σ2 H3 fun y H4 => ∃ acc, H4 Dl = some (.lst acc) ∧ acc.length < sizeLine ∧ Nx (upd H4 Dl (.lst (acc ++ [y]))) else Nx H3) := by
  have h0 : B.H0 Dl = none := F1.h0none hD
  refine ⟨fun i m Hc => m = xs.length - i ∧ i ≤ xs.length ∧ ∃ G E acc done rest, Frm K B G Hc E (wipe σ vs) ∧ compL (assignT t) ow (ev C ic) (ev C ie) (xs.drop i) E = some (rest, E2) ∧ done ++ rest = ys ∧ done.length ≤ i ∧
      Hc Dl = some (.lst acc) ∧ RpAll K G acc done ∧ G Dl = none ∧ ¬ Mn E (wipe σ vs) Dl ∧ Ext (wipe σ vs) (wipes E1 ow) E G1 H1 G Hc, ⟨xs.length, by simp, Nat.zero_le _, ?_⟩, ?_⟩
  · have Fa := F1.alloc (.lst []) hD
    have Fw := Fa.wiped (ow := ow) (vs := vs) hv
    exact ⟨G1, _, [], [], ys, Fw, by simpa using he, rfl, Nat.le_refl _, upd_same, .nil, F1.gnone hD, (F1.wiped (ow := ow) hv).notMn hD, Ext.alloc hD⟩
  · rintro i m Hc ⟨rfl, hi, G, E, acc, done, rest, F, ec, ed, hdn, hdl, hra, gD, mD, x⟩
    have wk := w i G Hc x.g F.sub (fun b hb o e => by
      obtain ⟨j, wj, jo, ej⟩ := hh b hb
      rw [(hold_stays F1 hv x wj jo ej).1]; exact e)
    by_cases hlt : i < xs.length
    · -- a turn
      have ex : xs[i]? = some xs[i] := List.getElem?_eq_getElem hlt
      obtain ⟨go, yl⟩ := wk.2 _ ex
      rw [List.drop_eq_getElem_cons hlt] at ec
      simp only [compL, Option.bind_eq_some_iff] at ec
      obtain ⟨Ea, ea, ⟨bd, Eb⟩, eb, ec⟩ := ec
      obtain ⟨la, wa⟩ := assign_wr t ea
      refine .inr ⟨go, fun H' => ∃ m', m' = xs.length - (i + 1) ∧ i + 1 ≤ xs.length ∧ ∃ G E acc done rest, Frm K B G H' E (wipe σ vs) ∧ compL (assignT t) ow (ev C ic) (ev C ie) (xs.drop (i + 1)) E = some (rest, E2) ∧ done ++ rest = ys ∧ done.length ≤ i + 1 ∧
        H' Dl = some (.lst acc) ∧ RpAll K G acc done ∧ G Dl = none ∧ ¬ Mn E (wipe σ vs) Dl ∧ Ext (wipe σ vs) (wipes E1 ow) E G1 H1 G H', fun H' ⟨m', e1, e2, r⟩ => ⟨m', by omega, e1, e2, r⟩, fun xv H' hy => ?_⟩
      -- the item is seen
      have seen : ∃ G', Frm K B G' H' E (wipe σ vs) ∧ Rp K G' xv xs[i] ∧ RpAll K G' acc done ∧ G' Dl = none ∧ H' Dl = some (.lst acc) ∧ Ext (wipe σ vs) (wipes E1 ow) E G1 H1 G' H' := by
        rcases yl xv H' hy with ⟨rfl, r⟩ | n
        · exact ⟨G, F, r, hra, gD, hdl, x⟩
        · obtain ⟨G', F', x', r⟩ := n.toE F
          exact ⟨G', F', r, hra.up x'.g, x'.n _ _ (fun _ z => by cases z) hdl mD gD, x'.h _ _ hdl mD, x.trans x'⟩
      obtain ⟨G', F', r', hra', gD', hdl', x'⟩ := seen
      refine ⟨G', E, _, Ea, F', r', ea, fun σ2 F2 ag => ?_⟩
      have l2 : σ2.length = (wipe σ vs).length := by rw [← F2.len, la, F'.len]
      have hw2 : wipe σ2 vs = wipe σ vs := by
        have q := wipe_agree (σ := wipe σ vs) (σ' := σ2) (vs := vs) l2 fun j hj => ag j fun z => hj (hts j z)
        rw [q]
        refine wipe_agree (by rw [wipe_length]) fun j hj => wipe_ne hj
      have mn2 : ∀ a, Mn Ea σ2 a → Mn E (wipe σ vs) a := fun a ⟨j, wj, ej⟩ => by
        obtain ⟨w1, n1⟩ := wa j wj
        rw [ag j n1] at ej
        exact ⟨j, w1, ej⟩
      -- the turn's end
      have fin : ∀ {G3 H3 : Hp} {E3 : Env} {acc' : List V} {done' : List D}, Frm K B G3 H3 E3 σ2 → Ext σ2 Ea E3 G' H' G3 H3 → H3 Dl = some (.lst acc) → RpAll K G3 acc' done' → G3 Dl = none → ¬ Mn E3 σ2 Dl →
          Frm K B G3 (upd H3 Dl (.lst acc')) (wipes E3 ow) (wipe σ vs) ∧ (upd H3 Dl (.lst acc')) Dl = some (.lst acc') ∧ ¬ Mn (wipes E3 ow) (wipe σ vs) Dl ∧ Ext (wipe σ vs) (wipes E1 ow) (wipes E3 ow) G1 H1 G3 (upd H3 Dl (.lst acc')) := by
        intro G3 H3 E3 acc' done' F3 x3 h3 r3 g3 m3
        have F4 := (F3.poke (.lst acc') ⟨_, h3⟩ g3 m3 h0).wiped (ow := ow) (vs := vs) hv
        rw [hw2] at F4
        have wr3 : ∀ j, Wr (wipes E3 ow) j → Wr E j := fun j hj => (wa j (x3.w j (wr_wipes.mp hj).1)).1
        refine ⟨F4, upd_same, fun m => ?_, ?_⟩
        · rw [← hw2] at m
          obtain ⟨j, wj, _, ej⟩ := mn_wipes F3 hv m
          exact m3 ⟨j, wj, ej⟩
        · refine (x'.trans ⟨x3.g, fun b u e m => x3.h b u e fun q => m (mn2 b q), fun b u nt e m g => x3.n b u nt e (fun q => m (mn2 b q)) g, wr3, x3.t⟩).poke _ hD
      have mDa : ¬ Mn Ea σ2 Dl := fun q => mD (mn2 _ q)
      refine ⟨hw2, ?_⟩
      cases bd with
      | bool b =>
        refine ⟨G', Ea, b, Eb, F2, eb, fun G3 H3 F3 x3 => ?_⟩
        have h3 := x3.h _ _ hdl' mDa
        have g3 := x3.n _ _ (fun _ z => by cases z) hdl' mDa gD'
        have m3 := x3.mn mDa
        cases b with
        | true =>
          simp only [if_true]
          simp only [Option.bind_eq_some_iff, Option.map_eq_some_iff] at ec
          obtain ⟨⟨y, Ed⟩, ey, ⟨rest', E2'⟩, er, eq⟩ := ec
          cases eq
          refine ⟨G3, Eb, y, Ed, F3, ey, fun v G4 H4 F4 x4 r4 => ?_⟩
          have h4 := x4.h _ _ h3 m3
          have g4 := x4.n _ _ (fun _ z => by cases z) h3 m3 g3
          have m4 := x4.mn m3
          obtain ⟨f1, f2, f3, f4⟩ := fin F4 (x3.trans x4) h4 ((hra'.up (x3.trans x4).g).append (.cons r4 .nil)) g4 m4
          have l : acc.length = done.length := hra'.len
          refine ⟨acc, h4, by rw [sl_eq]; omega, _, rfl, hlt, G4, _, _, done ++ [y], rest', f1, er, by simpa using ed, by simp; omega, f2, (hra'.up (x3.trans x4).g).append (.cons r4 .nil), g4, f3, f4⟩
        | false =>
          simp only [Bool.false_eq_true, if_false]
          obtain ⟨f1, f2, f3, f4⟩ := fin F3 x3 h3 (hra'.up x3.g) g3 m3
          have eu : upd H3 Dl (.lst acc) = H3 := by
            funext b
            by_cases c : b = Dl
            · rw [c, upd_same, h3]
            · rw [upd_ne c]
          rw [eu] at f1 f2 f4
          exact ⟨_, rfl, hlt, G3, _, acc, done, rest, f1, ec, ed, by omega, h3, hra'.up x3.g, g3, f3, f4⟩
      | _ => cases ec
    · have e : i = xs.length := by omega
      subst e
      rw [List.drop_length] at ec
      simp only [compL] at ec
      cases ec
      rw [List.append_nil] at ed
      subst ed
      obtain ⟨Fb, Xb⟩ := F1.back F x hv
      refine .inl ⟨wk.1 rfl, hQ G Hc acc Fb Xb hdl hra gD ?_⟩
      rintro ⟨j, wj, ej⟩
      have w1 := Xb.w j wj
      obtain ⟨⟨o, eo⟩, _⟩ := F1.there ⟨j, w1, ej⟩
      rw [hD] at eo; cases eo
theorem comp_read {K : PySem.W.Frag} {σ : St} {H : Hp} {Q : VK} {vs : List Nat} (hts : ∀ j ∈ tgS t, j ∈ vs) (h : tA K B C (.comp ie t is ic vs) σ H Q) : tLc (tI K B C is) (tG K B t) (tT K B C ic) (tE K B C ie) vs σ H Q := by
  obtain ⟨G, E, d, E', F, ee, k⟩ := h
  simp only [ev, Option.bind_eq_some_iff] at ee
  obtain ⟨⟨tk, E1⟩, e1, x, ex, xs, ei, e2⟩ := ee
  simp only at e2
  split at e2
  · rename_i hl
    simp only [Option.map_eq_some_iff] at e2
    obtain ⟨⟨ys, E2⟩, e2, eq⟩ := e2
    cases eq
    refine ⟨G, E, tk, E1, x, xs, F, e1, ex, ei, fun J G1 H1 hold F1 X1 w hh Dl hD => ?_⟩
    refine comp_turns F1 (fun j hj => List.mem_append_right _ hj) hts hD w (fun b hb => ?_) e2 hl fun G2 H2 acc F2 X2 h2 r2 g2 m2 => ?_
    · obtain ⟨i, rfl, wi, ei⟩ := hh b hb
      exact ⟨i, wi, List.mem_append_left _ (by simp [Tok.hold]), ei⟩
    · refine k _ G2 H2 F2 (X1.trans X2) ?_
      unfold AsgR
      rw [if_pos (show isFr (.comp ie t is ic vs) (.list ys) = true from rfl)]
      exact ⟨Dl, rfl, X1.gone hD, g2, F1.h0none hD, m2, acc, h2, r2⟩
  · cases e2
theorem g_comp (hc : X.calm = true) (hN : X.N.Nodup) (hi : PI X tg iter (tI X.K B C is)) (ok : BlkOk X.N X.env.scope scope own) (hts : ∀ j ∈ tgS t, j ∈ own.map (·.2))
    (hg : ∀ (s : Shared) (H : Hp) (A : Addr) (cl : List (Str × Addr)) (fp : List Addr), PG (X.blk s H scope (compEnvC scope cl A X.env) fp) tg (tG X.K B t)) (ht : ∀ (s : Shared) (H : Hp) (A : Addr) (cl : List (Str × Addr)) (fp : List Addr), PTs (X.blk s H scope (compEnvC scope cl A X.env) fp) ifs (tT X.K B C ic))
    (he : ∀ (s : Shared) (H : Hp) (A : Addr) (cl : List (Str × Addr)) (fp : List Addr), PE (X.blk s H scope (compEnvC scope cl A X.env) fp) elt (tE X.K B C ie)) (hs : ∀ x, foldedSetIterable iter X.env x = pure x) :
    Good X B C (.ListComp elt [⟨tg, iter, ifs, 0⟩] scope pos) (.comp ie t is ic (own.map (·.2))) :=
  Good.ofA (PE.imp (pe_lc hc hN hi ok hg ht he hs) fun σ H Q h => comp_read hts h) (fun _ z => by cases z)
theorem pts_none (X : Cx) : PTs X [] (tT X.K B C (.k (.bool true))) := ⟨fun pins s σ H Q I h => pts_nil.run pins s σ H Q I (by
  obtain ⟨G, E, b, E', F, e, k⟩ := h
  simp only [ev] at e
  cases e
  exact k G H F Ext.refl)⟩
end
end Pv

set_option Elab.async false
set_option linter.all false
set_option maxRecDepth 100000
set_option maxHeartbeats 4000000
/-! PvMb: list comprehensions of two for. -/
namespace Pv
open PySem PySem.Spec L2
/-- as Ext, but for the list that is being made -/
structure ExtD (p : Addr) (σ : St) (E E' : Env) (G H G' H' : Hp) : Prop where
  g : Same G G'
  h : ∀ b o, b ≠ p → H b = some o → ¬ Mn E σ b → H' b = some o
  n : ∀ b o, b ≠ p → NT o → H b = some o → ¬ Mn E σ b → G b = none → G' b = none
  w : ∀ i, Wr E' i → Wr E i
  t : ∀ b o, H b = some o → ∃ o', H' b = some o'
section
variable {K : PySem.W.Frag} {B : Bs} {G G' H H' Gs Hs G1 H1 G2 H2 G3 H3 : Hp} {E E' E1 E2 E3 : Env} {σ σ' : St} {C : Ctx} {p : Addr}
theorem Ext.d (x : Ext σ E E' G H G' H') (p : Addr) : ExtD p σ E E' G H G' H' := ⟨x.g, fun b o _ => x.h b o, fun b o _ nt => x.n b o nt, x.w, x.t⟩
theorem ExtD.mn (x : ExtD p σ E E' G H G' H') {a : Addr} (h : ¬ Mn E σ a) : ¬ Mn E' σ a := fun ⟨i, w, e⟩ => h ⟨i, x.w i w, e⟩
theorem ExtD.trans (a : ExtD p σ E1 E2 G1 H1 G2 H2) (b : ExtD p σ E2 E3 G2 H2 G3 H3) : ExtD p σ E1 E3 G1 H1 G3 H3 where
  g := a.g.trans b.g
  h := fun c o q e m => b.h c o q (a.h c o q e m) (a.mn m)
  n := fun c o q nt e m g => b.n c o q nt (a.h c o q e m) (a.mn m) (a.n c o q nt e m g)
  w := fun i w => a.w i (b.w i w)
  t := fun c o e => let ⟨o', e'⟩ := a.t c o e; b.t c o' e'
theorem ExtD.poke (x : ExtD p σ E E' Gs Hs G H) (o : HO) (hp : ∃ y, H p = some y) : ExtD p σ E E' Gs Hs G (upd H p o) where
  g := x.g
  h := fun b u q e m => by rw [upd_ne q]; exact x.h b u q e m
  n := x.n
  w := x.w
  t := fun b u e => by
    by_cases c : b = p
    · exact ⟨o, by rw [c, upd_same]⟩
    · rw [upd_ne c]; exact x.t b u e
/-- behind a list that was not there ahead -/
theorem ExtD.ext (x : ExtD p σ E E' Gs Hs G H) (h : Hs p = none) : Ext σ E E' Gs Hs G H := ⟨x.g, fun b o e m => x.h b o (ne_of_none e h) e m, fun b o nt e m g => x.n b o (ne_of_none e h) nt e m g, x.w, x.t⟩
theorem Frm.backD {ow vs : List Nat} (F1 : Frm K B Gs Hs E1 σ) (Fc : Frm K B G H E (wipe σ vs)) (x : ExtD p (wipe σ vs) (wipes E1 ow) E Gs Hs G H) (h : ∀ j ∈ vs, j ∈ ow) (hp : ¬ Mn E1 σ p) :
    Frm K B G H (backs E1 E ow) σ ∧ ExtD p σ E1 (backs E1 E ow) Gs Hs G H := by
  have hl : E.length = E1.length := by rw [Fc.len, wipe_length, F1.len]
  have gb := gets_backs (E1 := E1) hl ow
  have wE : ∀ j, Wr E j → Wr E1 j ∧ j ∉ ow := fun j hj => wr_wipes.mp (x.w j hj)
  have wB : ∀ j, Wr (backs E1 E ow) j → Wr E1 j := fun j hj => by
    unfold Wr at hj
    rw [gb] at hj
    by_cases q : j ∈ ow
    · rw [if_pos q] at hj; exact hj
    · rw [if_neg q] at hj; exact (wE j hj).1
  have mE : ∀ b, ¬ Mn E1 σ b → ¬ Mn (Pv.wipes E1 ow) (wipe σ vs) b := fun b nm m => by
    obtain ⟨i, w, _, e⟩ := mn_wipes F1 h m
    exact nm ⟨i, w, e⟩
  have stays : ∀ {i : Nat} {a : Addr}, Wr E1 i → i ∈ ow → σ[i]? = some (some (.ref a)) → H a = Hs a ∧ G a = none := by
    intro i a w hi e
    have np : a ≠ p := fun z => hp ⟨i, w, by rw [← z]; exact e⟩
    have nm : ¬ Mn (wipes E1 ow) (wipe σ vs) a := fun m => by
      obtain ⟨j, w1, n1, e1⟩ := mn_wipes F1 h m
      exact n1 (F1.dj i j a w w1 e e1 ▸ hi)
    obtain ⟨⟨o, eo, nt⟩, g⟩ := F1.thereN ⟨i, w, e⟩
    exact ⟨(x.h a o np eo nm).trans eo.symm, x.n a o np nt eo nm g⟩
  refine ⟨⟨Fc.sub, by rw [backs_len, hl]; exact F1.len, fun j d hj => ?_, fun j d hj => ?_, fun j d hj => ?_, fun j k a hj hk e1 e2 => F1.dj j k a (wB j hj) (wB k hk) e1 e2, Fc.keep, Fc.iok, Fc.new⟩, ⟨x.g, fun b u q e m => x.h b u q e (mE b m), fun b u q nt e m g => x.n b u q nt e (mE b m) g, wB, x.t⟩⟩
  · rw [gb] at hj
    by_cases q : j ∈ ow
    · rw [if_pos q] at hj
      obtain ⟨v, e, r⟩ := F1.sh j d hj
      exact ⟨v, e, r.up x.g⟩
    · rw [if_neg q] at hj
      obtain ⟨v, e, r⟩ := Fc.sh j d hj
      rw [wipe_ne fun z => q (h j z)] at e
      exact ⟨v, e, r⟩
  · rw [gb] at hj
    by_cases q : j ∈ ow
    · rw [if_pos q] at hj
      obtain ⟨a, e, g, h0, o⟩ := F1.ow j d hj
      obtain ⟨z1, z2⟩ := stays (.inl ⟨d, hj⟩) q e
      exact ⟨a, e, z2, h0, o.up x.g z1⟩
    · rw [if_neg q] at hj
      obtain ⟨a, e, r⟩ := Fc.ow j d hj
      rw [wipe_ne fun z => q (h j z)] at e
      exact ⟨a, e, r⟩
  · rw [gb] at hj
    by_cases q : j ∈ ow
    · rw [if_pos q] at hj
      obtain ⟨a, h0, e, g, o⟩ := F1.io j d hj
      obtain ⟨z1, z2⟩ := stays (.inr ⟨d, hj⟩) q e
      exact ⟨a, h0, e, z2, o.up x.g z1⟩
    · rw [if_neg q] at hj
      obtain ⟨a, h0, e, r⟩ := Fc.io j d hj
      rw [wipe_ne fun z => q (h j z)] at e
      exact ⟨a, h0, e, r⟩
theorem stays_of (F1 : Frm K B Gs Hs E1 σ) {ow vs : List Nat} (h : ∀ j ∈ vs, j ∈ ow) {Ec : Env} (x : ExtD p (wipe σ vs) (wipes E1 ow) Ec Gs Hs G H) (hp : ¬ Mn E1 σ p) {i : Nat} {a : Addr} (w : Wr E1 i) (hi : i ∈ ow) (e : σ[i]? = some (some (.ref a))) : H a = Hs a := by
  have np : a ≠ p := fun z => hp ⟨i, w, by rw [← z]; exact e⟩
  have nm : ¬ Mn (wipes E1 ow) (wipe σ vs) a := fun m => by
    obtain ⟨j, w1, n1, e1⟩ := mn_wipes F1 h m
    exact n1 (F1.dj i j a w w1 e e1 ▸ hi)
  obtain ⟨⟨o, eo⟩, g⟩ := F1.there ⟨i, w, e⟩
  exact (x.h a o np eo nm).trans eo.symm
end
section
variable {X : Cx} {B : Bs} {C : Ctx} {ic ie : IR} {t : Tg}
/-- the inner turns -/
theorem inner_turns {K : PySem.W.Frag} {σ : St} {G1 H1 : Hp} {E1 : Env} {ow vs : List Nat} {xs ys done0 : List D} {acc0 : List V} {E2 : Env} {Dl : Addr} {J : It} {hold : List Addr} {Qs : Hp → Prop}
    (F1 : Frm K B G1 H1 E1 σ) (hv : ∀ j ∈ vs, j ∈ ow) (hts : ∀ j ∈ tgS t, j ∈ vs) (hD : H1 Dl = some (.lst acc0)) (hr0 : RpAll K G1 acc0 done0) (gD0 : G1 Dl = none) (mD0 : ¬ Mn E1 σ Dl) (h0 : B.H0 Dl = none)
    (w : Walk K J hold G1 H1 xs) (hh : ∀ b ∈ hold, ∃ i, Wr E1 i ∧ i ∈ ow ∧ σ[i]? = some (some (.ref b)))
    (he : compL (assignT t) ow (ev C ic) (ev C ie) xs (wipes E1 ow) = some (ys, E2)) (hlen : (done0 ++ ys).length ≤ LIM)
    (hQ : ∀ G H acc, Frm K B G H (backs E1 E2 ow) σ → ExtD Dl σ E1 (backs E1 E2 ow) G1 H1 G H → H Dl = some (.lst acc) → RpAll K G acc (done0 ++ ys) → G Dl = none → ¬ Mn (backs E1 E2 ow) σ Dl → Qs H) :
    ∃ W : Nat → Nat → Hp → Prop, (∃ m, W 0 m H1) ∧ ∀ i m H, W i m H →
      (J.stop i H ∧ Qs H) ∨ (J.go i H ∧ ∃ Nx : Hp → Prop, (∀ H', Nx H' → ∃ m', m' < m ∧ W (i + 1) m' H') ∧ ∀ x H', J.yld i H x H' → tG K B t x (wipe σ vs) H' fun σ2 H2 => wipe σ2 vs = wipe σ vs ∧ tT K B C ic σ2 H2 fun b H3 =>
        if b = true then tE K B C ie σ2 H3 fun y H4 => ∃ acc, H4 Dl = some (.lst acc) ∧ acc.length < sizeLine ∧ Nx (upd H4 Dl (.lst (acc ++ [y]))) else Nx H3) := by
  have mDw : ¬ Mn (wipes E1 ow) (wipe σ vs) Dl := fun m => by
    obtain ⟨i, wi, _, e⟩ := mn_wipes F1 hv m
    exact mD0 ⟨i, wi, e⟩
  refine ⟨fun i m Hc => m = xs.length - i ∧ i ≤ xs.length ∧ ∃ G E acc done rest, Frm K B G Hc E (wipe σ vs) ∧ compL (assignT t) ow (ev C ic) (ev C ie) (xs.drop i) E = some (rest, E2) ∧ done ++ rest = ys ∧
      Hc Dl = some (.lst acc) ∧ RpAll K G acc (done0 ++ done) ∧ G Dl = none ∧ ¬ Mn E (wipe σ vs) Dl ∧ ExtD Dl (wipe σ vs) (wipes E1 ow) E G1 H1 G Hc, ⟨xs.length, by simp, Nat.zero_le _, ?_⟩, ?_⟩
  · exact ⟨G1, _, acc0, [], ys, F1.wiped (ow := ow) (vs := vs) hv, by simpa using he, rfl, hD, by simpa using hr0, gD0, mDw, (Ext.refl).d Dl⟩
  · rintro i m Hc ⟨rfl, hi, G, E, acc, done, rest, F, ec, ed, hdl, hra, gD, mD, x⟩
    have wk := w i G Hc x.g F.sub (fun b hb o e => by
      obtain ⟨j, wj, jo, ej⟩ := hh b hb
      rw [stays_of F1 hv x mD0 wj jo ej]; exact e)
    by_cases hlt : i < xs.length
    · have ex : xs[i]? = some xs[i] := List.getElem?_eq_getElem hlt
      obtain ⟨go, yl⟩ := wk.2 _ ex
      rw [List.drop_eq_getElem_cons hlt] at ec
      simp only [compL, Option.bind_eq_some_iff] at ec
      obtain ⟨Ea, ea, ⟨bd, Eb⟩, eb, ec⟩ := ec
      obtain ⟨la, wa⟩ := assign_wr t ea
      refine .inr ⟨go, fun H' => ∃ m', m' = xs.length - (i + 1) ∧ i + 1 ≤ xs.length ∧ ∃ G E acc done rest, Frm K B G H' E (wipe σ vs) ∧ compL (assignT t) ow (ev C ic) (ev C ie) (xs.drop (i + 1)) E = some (rest, E2) ∧ done ++ rest = ys ∧
        H' Dl = some (.lst acc) ∧ RpAll K G acc (done0 ++ done) ∧ G Dl = none ∧ ¬ Mn E (wipe σ vs) Dl ∧ ExtD Dl (wipe σ vs) (wipes E1 ow) E G1 H1 G H', fun H' ⟨m', e1, e2, r⟩ => ⟨m', by omega, e1, e2, r⟩, fun xv H' hy => ?_⟩
      have seen : ∃ G', Frm K B G' H' E (wipe σ vs) ∧ Rp K G' xv xs[i] ∧ RpAll K G' acc (done0 ++ done) ∧ G' Dl = none ∧ H' Dl = some (.lst acc) ∧ ExtD Dl (wipe σ vs) (wipes E1 ow) E G1 H1 G' H' := by
        rcases yl xv H' hy with ⟨rfl, r⟩ | n
        · exact ⟨G, F, r, hra, gD, hdl, x⟩
        · obtain ⟨G', F', x', r⟩ := n.toE F
          exact ⟨G', F', r, hra.up x'.g, x'.n _ _ (fun _ z => by cases z) hdl mD gD, x'.h _ _ hdl mD, x.trans (x'.d Dl)⟩
      obtain ⟨G', F', r', hra', gD', hdl', x'⟩ := seen
      refine ⟨G', E, _, Ea, F', r', ea, fun σ2 F2 ag => ?_⟩
      have l2 : σ2.length = (wipe σ vs).length := by rw [← F2.len, la, F'.len]
      have hw2 : wipe σ2 vs = wipe σ vs := by
        have q := wipe_agree (σ := wipe σ vs) (σ' := σ2) (vs := vs) l2 fun j hj => ag j fun z => hj (hts j z)
        rw [q]
        refine wipe_agree (by rw [wipe_length]) fun j hj => wipe_ne hj
      have mn2 : ∀ a, Mn Ea σ2 a → Mn E (wipe σ vs) a := fun a ⟨j, wj, ej⟩ => by
        obtain ⟨w1, n1⟩ := wa j wj
        rw [ag j n1] at ej
        exact ⟨j, w1, ej⟩
      have fin : ∀ {G3 H3 : Hp} {E3 : Env} {acc' : List V}, Frm K B G3 H3 E3 σ2 → Ext σ2 Ea E3 G' H' G3 H3 → H3 Dl = some (.lst acc) → G3 Dl = none → ¬ Mn E3 σ2 Dl →
          Frm K B G3 (upd H3 Dl (.lst acc')) (wipes E3 ow) (wipe σ vs) ∧ (upd H3 Dl (.lst acc')) Dl = some (.lst acc') ∧ ¬ Mn (wipes E3 ow) (wipe σ vs) Dl ∧ ExtD Dl (wipe σ vs) (wipes E1 ow) (wipes E3 ow) G1 H1 G3 (upd H3 Dl (.lst acc')) := by
        intro G3 H3 E3 acc' F3 x3 h3 g3 m3
        have F4 := (F3.poke (.lst acc') ⟨_, h3⟩ g3 m3 h0).wiped (ow := ow) (vs := vs) hv
        rw [hw2] at F4
        have wr3 : ∀ j, Wr (wipes E3 ow) j → Wr E j := fun j hj => (wa j (x3.w j (wr_wipes.mp hj).1)).1
        refine ⟨F4, upd_same, fun m => ?_, ?_⟩
        · rw [← hw2] at m
          obtain ⟨j, wj, _, ej⟩ := mn_wipes F3 hv m
          exact m3 ⟨j, wj, ej⟩
        · exact (x'.trans ⟨x3.g, fun b u _ e m => x3.h b u e fun q => m (mn2 b q), fun b u _ nt e m g => x3.n b u nt e (fun q => m (mn2 b q)) g, wr3, x3.t⟩).poke _ ⟨_, h3⟩
      have mDa : ¬ Mn Ea σ2 Dl := fun q => mD (mn2 _ q)
      refine ⟨hw2, ?_⟩
      cases bd with
      | bool b =>
        refine ⟨G', Ea, b, Eb, F2, eb, fun G3 H3 F3 x3 => ?_⟩
        have h3 := x3.h _ _ hdl' mDa
        have g3 := x3.n _ _ (fun _ z => by cases z) hdl' mDa gD'
        have m3 := x3.mn mDa
        cases b with
        | true =>
          simp only [if_true]
          simp only [Option.bind_eq_some_iff, Option.map_eq_some_iff] at ec
          obtain ⟨⟨y, Ed⟩, ey, ⟨rest', E2'⟩, er, eq⟩ := ec
          cases eq
          refine ⟨G3, Eb, y, Ed, F3, ey, fun v G4 H4 F4 x4 r4 => ?_⟩
          have h4 := x4.h _ _ h3 m3
          have g4 := x4.n _ _ (fun _ z => by cases z) h3 m3 g3
          have m4 := x4.mn m3
          obtain ⟨f1, f2, f3, f4⟩ := fin (acc' := acc ++ [v]) F4 (x3.trans x4) h4 g4 m4
          have l : acc.length = (done0 ++ done).length := hra'.len
          have r5 := (hra'.up (x3.trans x4).g).append (.cons r4 .nil)
          rw [List.append_assoc] at r5
          have l2 : (done0 ++ (done ++ y :: rest')).length ≤ LIM := by rw [ed]; exact hlen
          refine ⟨acc, h4, by rw [sl_eq, l]; simp at l2 ⊢; omega, _, rfl, hlt, G4, _, _, done ++ [y], rest', f1, er, by simpa using ed, f2, r5, g4, f3, f4⟩
        | false =>
          simp only [Bool.false_eq_true, if_false]
          obtain ⟨f1, f2, f3, f4⟩ := fin (acc' := acc) F3 x3 h3 g3 m3
          have eu : upd H3 Dl (.lst acc) = H3 := by
            funext b
            by_cases c : b = Dl
            · rw [c, upd_same, h3]
            · rw [upd_ne c]
          rw [eu] at f1 f2 f4
          exact ⟨_, rfl, hlt, G3, _, acc, done, rest, f1, ec, ed, h3, hra'.up x3.g, g3, f3, f4⟩
      | _ => cases ec
    · have e : i = xs.length := by omega
      subst e
      rw [List.drop_length] at ec
      simp only [compL] at ec
      cases ec
      rw [List.append_nil] at ed
      subst ed
      obtain ⟨Fb, Xb⟩ := F1.backD F x hv mD0
      exact .inl ⟨wk.1 rfl, hQ G Hc acc Fb Xb hdl hra gD (Xb.mn mD0)⟩
/-- what the inner for does, by the interpreter -/
def innE (C : Ctx) (t1 : Tg) (s1 c1 ie : IR) (own1 : List Nat) (E2 : Env) : Option (List D × Env) := (opd s1 (ev C s1) E2).bind fun (tk1, E3) => (tk1.get E3).bind fun x1 => (itemsOf x1).bind fun xs1 =>
  (compL (assignT t1) (tk1.hold ++ own1) (ev C c1) (ev C ie) xs1 (wipes E3 (tk1.hold ++ own1))).map fun (ys, E4) => (ys, backs E3 E4 (tk1.hold ++ own1))
variable {is is1 ic1 : IR} {t1 : Tg}
theorem comp2_read {K : PySem.W.Frag} {σ : St} {H : Hp} {Q : VK} {vs vs1 : List Nat} (hts : ∀ j ∈ tgS t, j ∈ vs) (hts1 : ∀ j ∈ tgS t1, j ∈ vs1) (h : tA K B C (.comp2 ie t is ic vs t1 is1 ic1 vs1) σ H Q) :
    tLc2 (tI K B C is) (tG K B t) (tT K B C ic) (tI K B C is1) (tG K B t1) (tT K B C ic1) (tE K B C ie) vs vs1 σ H Q := by
  obtain ⟨G, E, d, E', F, ee, k⟩ := h
  simp only [ev, Option.bind_eq_some_iff] at ee
  obtain ⟨⟨tk, E1⟩, e1, x, ex, xs, ei, e2⟩ := ee
  simp only at e2
  split at e2
  · rename_i hl
    simp only [Option.bind_eq_some_iff] at e2
    obtain ⟨⟨ys, E2⟩, e2, e3⟩ := e2
    simp only at e3
    split at e3
    · rename_i hlen
      cases e3
      refine ⟨G, E, tk, E1, x, xs, F, e1, ex, ei, fun J G1 H1 hold F1 X1 w hhold Dl hD => ?_⟩
      generalize how : tk.hold ++ vs = ow at e2
      have hv : ∀ j ∈ vs, j ∈ ow := fun j hj => by rw [← how]; exact List.mem_append_right _ hj
      have hh : ∀ b ∈ hold, ∃ i, Wr E1 i ∧ i ∈ ow ∧ σ[i]? = some (some (.ref b)) := fun b hb => by
        obtain ⟨i, rfl, wi, ei⟩ := hhold b hb
        exact ⟨i, wi, by rw [← how]; exact List.mem_append_left _ (by simp [Tok.hold]), ei⟩
      have e2 : compL2 (assignT t) ow (ev C ic) (innE C t1 is1 ic1 ie vs1) xs (wipes E1 ow) = some (ys, E2) := e2
      have h0 : B.H0 Dl = none := F1.h0none hD
      have mD1 : ¬ Mn E1 σ Dl := F1.notMn hD
      refine ⟨fun i m Hc => m = xs.length - i ∧ i ≤ xs.length ∧ ∃ G E acc done rest, Frm K B G Hc E (wipe σ vs) ∧ compL2 (assignT t) ow (ev C ic) (innE C t1 is1 ic1 ie vs1) (xs.drop i) E = some (rest, E2) ∧ done ++ rest = ys ∧
        Hc Dl = some (.lst acc) ∧ RpAll K G acc done ∧ G Dl = none ∧ ¬ Mn E (wipe σ vs) Dl ∧ ExtD Dl (wipe σ vs) (wipes E1 ow) E G1 H1 G Hc, ⟨xs.length, by simp, Nat.zero_le _, ?_⟩, ?_⟩
      · have Fa := F1.alloc (.lst []) hD
        have Fw := Fa.wiped (ow := ow) (vs := vs) hv
        exact ⟨G1, _, [], [], ys, Fw, by simpa using e2, rfl, upd_same, .nil, F1.gnone hD, (F1.wiped (ow := ow) hv).notMn hD, (Ext.alloc hD).d Dl⟩
      · rintro i m Hc ⟨rfl, hi, G0, E0, acc, done, rest, F0, ec, ed, hdl, hra, gD, mD, x0⟩
        have wk := w i G0 Hc x0.g F0.sub (fun b hb o e => by
          obtain ⟨j, wj, jo, ej⟩ := hh b hb
          rw [stays_of F1 hv x0 mD1 wj jo ej]; exact e)
        by_cases hlt : i < xs.length
        · have exi : xs[i]? = some xs[i] := List.getElem?_eq_getElem hlt
          obtain ⟨go, yl⟩ := wk.2 _ exi
          rw [List.drop_eq_getElem_cons hlt] at ec
          simp only [compL2, Option.bind_eq_some_iff] at ec
          obtain ⟨Ea, ea, ⟨bd, Eb⟩, eb, ec⟩ := ec
          obtain ⟨la, wa⟩ := assign_wr t ea
          refine .inr ⟨go, fun H' => ∃ m', m' = xs.length - (i + 1) ∧ i + 1 ≤ xs.length ∧ ∃ G E acc done rest, Frm K B G H' E (wipe σ vs) ∧ compL2 (assignT t) ow (ev C ic) (innE C t1 is1 ic1 ie vs1) (xs.drop (i + 1)) E = some (rest, E2) ∧ done ++ rest = ys ∧
            H' Dl = some (.lst acc) ∧ RpAll K G acc done ∧ G Dl = none ∧ ¬ Mn E (wipe σ vs) Dl ∧ ExtD Dl (wipe σ vs) (wipes E1 ow) E G1 H1 G H', fun H' ⟨m', e1, e2, r⟩ => ⟨m', by omega, e1, e2, r⟩, fun xv H' hy => ?_⟩
          have seen : ∃ G', Frm K B G' H' E0 (wipe σ vs) ∧ Rp K G' xv xs[i] ∧ RpAll K G' acc done ∧ G' Dl = none ∧ H' Dl = some (.lst acc) ∧ ExtD Dl (wipe σ vs) (wipes E1 ow) E0 G1 H1 G' H' := by
            rcases yl xv H' hy with ⟨rfl, r⟩ | n
            · exact ⟨G0, F0, r, hra, gD, hdl, x0⟩
            · obtain ⟨G', F', x', r⟩ := n.toE F0
              exact ⟨G', F', r, hra.up x'.g, x'.n _ _ (fun _ z => by cases z) hdl mD gD, x'.h _ _ hdl mD, x0.trans (x'.d Dl)⟩
          obtain ⟨G', F', r', hra', gD', hdl', x'⟩ := seen
          refine ⟨G', E0, _, Ea, F', r', ea, fun σ2 F2 ag => ?_⟩
          have l2 : σ2.length = (wipe σ vs).length := by rw [← F2.len, la, F'.len]
          have hw2 : wipe σ2 vs = wipe σ vs := by
            have q := wipe_agree (σ := wipe σ vs) (σ' := σ2) (vs := vs) l2 fun j hj => ag j fun z => hj (hts j z)
            rw [q]
            refine wipe_agree (by rw [wipe_length]) fun j hj => wipe_ne hj
          have mn2 : ∀ a, Mn Ea σ2 a → Mn E0 (wipe σ vs) a := fun a ⟨j, wj, ej⟩ => by
            obtain ⟨w1, n1⟩ := wa j wj
            rw [ag j n1] at ej
            exact ⟨j, w1, ej⟩
          have fin : ∀ {G3 H3 : Hp} {E3 : Env}, Frm K B G3 H3 E3 σ2 → ExtD Dl σ2 Ea E3 G' H' G3 H3 → ¬ Mn E3 σ2 Dl →
              Frm K B G3 H3 (wipes E3 ow) (wipe σ vs) ∧ ¬ Mn (wipes E3 ow) (wipe σ vs) Dl ∧ ExtD Dl (wipe σ vs) (wipes E1 ow) (wipes E3 ow) G1 H1 G3 H3 := by
            intro G3 H3 E3 F3 x3 m3
            have F4 := F3.wiped (ow := ow) (vs := vs) hv
            rw [hw2] at F4
            have wr3 : ∀ j, Wr (wipes E3 ow) j → Wr E0 j := fun j hj => (wa j (x3.w j (wr_wipes.mp hj).1)).1
            refine ⟨F4, fun m => ?_, ?_⟩
            · rw [← hw2] at m
              obtain ⟨j, wj, _, ej⟩ := mn_wipes F3 hv m
              exact m3 ⟨j, wj, ej⟩
            · exact x'.trans ⟨x3.g, fun b u q e m => x3.h b u q e fun z => m (mn2 b z), fun b u q nt e m g => x3.n b u q nt e (fun z => m (mn2 b z)) g, wr3, x3.t⟩
          have mDa : ¬ Mn Ea σ2 Dl := fun q => mD (mn2 _ q)
          refine ⟨hw2, ?_⟩
          cases bd with
          | bool b =>
            refine ⟨G', Ea, b, Eb, F2, eb, fun G3 H3 F3 x3 => ?_⟩
            have h3 := x3.h _ _ hdl' mDa
            have g3 := x3.n _ _ (fun _ z => by cases z) hdl' mDa gD'
            have m3 := x3.mn mDa
            cases b with
            | true =>
              simp only [if_true]
              simp only [Option.bind_eq_some_iff, Option.map_eq_some_iff] at ec
              obtain ⟨⟨zs, Ed⟩, ez, ⟨rest', E2'⟩, er, eq⟩ := ec
              cases eq
              unfold innE at ez
              simp only [Option.bind_eq_some_iff, Option.map_eq_some_iff] at ez
              obtain ⟨⟨tk1, Ec⟩, ec1, x1, ex1, xs1, ei1, ⟨zs', Ec2⟩, ecl, eq2⟩ := ez
              cases eq2
              refine ⟨G3, Eb, tk1, Ec, x1, xs1, F3, ec1, ex1, ei1, fun J1 G4 H4 hold1 F4 x4 w1 hh1 => ?_⟩
              have h4 := x4.h _ _ h3 m3
              have g4 := x4.n _ _ (fun _ z => by cases z) h3 m3 g3
              have m4 := x4.mn m3
              refine inner_turns F4 (fun j hj => List.mem_append_right _ hj) hts1 h4 (hra'.up (x3.trans x4).g) g4 m4 h0 w1 (fun b hb => ?_) ecl (by
                rw [← ed] at hlen
                simp only [List.length_append] at hlen ⊢
                omega) fun G5 H5 acc5 F5 x5 h5 r5 g5 m5 => ?_
              · obtain ⟨i, rfl, wi, ei⟩ := hh1 b hb
                exact ⟨i, wi, List.mem_append_left _ (by simp [Tok.hold]), ei⟩
              · obtain ⟨f1, f2, f3⟩ := fin F5 (((x3.trans x4).d Dl).trans x5) m5
                exact ⟨_, rfl, hlt, G5, _, acc5, done ++ zs', rest', f1, er, by rw [← ed, List.append_assoc], h5, r5, g5, f2, f3⟩
            | false =>
              simp only [Bool.false_eq_true, if_false]
              obtain ⟨f1, f2, f3⟩ := fin F3 (x3.d Dl) m3
              exact ⟨_, rfl, hlt, G3, _, acc, done, rest, f1, ec, ed, h3, hra'.up x3.g, g3, f2, f3⟩
          | _ => cases ec
        · have e : i = xs.length := by omega
          subst e
          rw [List.drop_length] at ec
          simp only [compL2] at ec
          cases ec
          rw [List.append_nil] at ed
          subst ed
          obtain ⟨Fb, Xb⟩ := F1.backD F0 x0 hv mD1
          refine .inl ⟨wk.1 rfl, ?_⟩
          subst how
          refine k _ G0 Hc Fb (X1.trans (Xb.ext hD)) ?_
          unfold AsgR
          rw [if_pos (show isFr (.comp2 ie t is ic vs t1 is1 ic1 vs1) (.list done) = true from rfl)]
          exact ⟨Dl, rfl, X1.gone hD, gD, h0, Xb.mn mD1, acc, hdl, hra⟩
    · cases e3
  · cases e2
variable {tg iter elt tg1 iter1 : Expr} {ifs ifs1 : List Expr} {scope : Scope} {own : List (Str × Nat)} {pos : Pos}
theorem g_comp2 {vs1 : List Nat} (hc : X.calm = true) (hN : X.N.Nodup) (hi : PI X tg iter (tI X.K B C is)) (ok : BlkOk X.N X.env.scope scope own) (hv : ∀ i ∈ vs1, i ∈ own.map (·.2)) (hts : ∀ j ∈ tgS t, j ∈ own.map (·.2)) (hts1 : ∀ j ∈ tgS t1, j ∈ vs1)
    (hg : ∀ (s : Shared) (H : Hp) (A : Addr) (cl : List (Str × Addr)) (fp : List Addr), PG (X.blk s H scope (compEnvC scope cl A X.env) fp) tg (tG X.K B t)) (ht : ∀ (s : Shared) (H : Hp) (A : Addr) (cl : List (Str × Addr)) (fp : List Addr), PTs (X.blk s H scope (compEnvC scope cl A X.env) fp) ifs (tT X.K B C ic))
    (hi1 : ∀ (s : Shared) (H : Hp) (A : Addr) (cl : List (Str × Addr)) (fp : List Addr), PI (X.blk s H scope (compEnvC scope cl A X.env) fp) tg1 iter1 (tI X.K B C is1))
    (hg1 : ∀ (s : Shared) (H : Hp) (A : Addr) (cl : List (Str × Addr)) (fp : List Addr), PG (X.blk s H scope (compEnvC scope cl A X.env) fp) tg1 (tG X.K B t1)) (ht1 : ∀ (s : Shared) (H : Hp) (A : Addr) (cl : List (Str × Addr)) (fp : List Addr), PTs (X.blk s H scope (compEnvC scope cl A X.env) fp) ifs1 (tT X.K B C ic1))
    (he : ∀ (s : Shared) (H : Hp) (A : Addr) (cl : List (Str × Addr)) (fp : List Addr), PE (X.blk s H scope (compEnvC scope cl A X.env) fp) elt (tE X.K B C ie)) (hs : ∀ x, foldedSetIterable iter X.env x = pure x) (hs1 : ∀ env x, foldedSetIterable iter1 env x = pure x) :
    Good X B C (.ListComp elt [⟨tg, iter, ifs, 0⟩, ⟨tg1, iter1, ifs1, 0⟩] scope pos) (.comp2 ie t is ic (own.map (·.2)) t1 is1 ic1 vs1) :=
  Good.ofA (PE.imp (pe_lc2 hc hN hi ok hv hg ht hi1 hg1 ht1 he hs hs1) fun σ H Q h => comp2_read hts hts1 h) (fun _ z => by cases z)
end
end Pv

set_option Elab.async false
set_option linter.all false
set_option maxRecDepth 100000
set_option maxHeartbeats 2000000
/-! PvN: statements. -/
namespace Pv
open PySem PySem.Spec L2
def OutR (K : PySem.W.Frag) (B : Bs) (G : Hp) (D : Ends) : Out → Prop
  | .nx E' => ∀ σ' G' H', Frm K B G' H' E' σ' → Same G G' → D.nx σ' H'
  | .ret d E' => ∀ v σ' G' H', Frm K B G' H' E' σ' → Same G G' → Rp K G' v d → D.rt v H'
  | .brk E' => ∀ σ' G' H', Frm K B G' H' E' σ' → Same G G' → D.bk σ' H'
  | .ct E' => ∀ σ' G' H', Frm K B G' H' E' σ' → Same G G' → D.ct σ' H'
def tS (K : PySem.W.Frag) (B : Bs) (C : Ctx) (s : SIR) : TS := fun D σ H => ∃ G E o, Frm K B G H E σ ∧ exec C s E = some o ∧ OutR K B G D o
def tSs (K : PySem.W.Frag) (B : Bs) (C : Ctx) (ss : List SIR) : TS := fun D σ H => ∃ G E o, Frm K B G H E σ ∧ execs C ss E = some o ∧ OutR K B G D o
theorem PS.imp {X : Cx} {s : Stmt} {t t' : TS} (h : PS X s t) (m : ∀ D σ H, t' D σ H → t D σ H) : PS X s t' := ⟨fun pins sh σ H D I h' => h.run pins sh σ H D I (m D σ H h')⟩
theorem PSs.imp {X : Cx} {s : List Stmt} {t t' : TS} (h : PSs X s t) (m : ∀ D σ H, t' D σ H → t D σ H) : PSs X s t' := ⟨fun pins sh σ H D I h' => h.run pins sh σ H D I (m D σ H h')⟩
theorem PS.or {X : Cx} {s : Stmt} {t t' : TS} (h : PS X s t) (h' : PS X s t') : PS X s (fun D σ H => t D σ H ∨ t' D σ H) := ⟨fun pins sh σ H D I q => q.elim (h.run pins sh σ H D I) (h'.run pins sh σ H D I)⟩
theorem OutR.up {K : PySem.W.Frag} {B : Bs} {G G' : Hp} {D : Ends} {o : Out} (s : Same G G') (h : OutR K B G D o) : OutR K B G' D o := by
  cases o with
  | nx E' => exact fun σ' G2 H' F s2 => h σ' G2 H' F (s.trans s2)
  | ret d E' => exact fun v σ' G2 H' F s2 r => h v σ' G2 H' F (s.trans s2) r
  | brk E' => exact fun σ' G2 H' F s2 => h σ' G2 H' F (s.trans s2)
  | ct E' => exact fun σ' G2 H' F s2 => h σ' G2 H' F (s.trans s2)
section
variable {K : PySem.W.Frag} {B : Bs} {G G' H H' Gs Hs : Hp} {E E' E1 : Env} {σ σ' : St} {C : Ctx}
/-- a new object is stored: it is the name's own -/
theorem Frm.setOw (F : Frm K B G H E σ) {i : Nat} {v : V} {d : D} (f : FreshR K B Hs G H E σ v d) : Frm K B G H (E.set i (.ow d)) (σ.set i (some v)) := by
  obtain ⟨a, rfl, hs, g, h0, m, o⟩ := f
  by_cases hi : i < E.length
  · have gg : ∀ j, gets (E.set i (.ow d)) j = if j = i then .ow d else gets E j := fun j => gets_set hi
    have ss : ∀ j, j ≠ i → (σ.set i (some (.ref a)))[j]? = σ[j]? := fun j h => List.getElem?_set_ne (Ne.symm h)
    have si : (σ.set i (some (.ref a)))[i]? = some (some (.ref a)) := List.getElem?_set_self (by rw [← F.len]; exact hi)
    have wr : ∀ j, Wr (E.set i (.ow d)) j → j ≠ i → Wr E j := fun j hj q => by
      unfold Wr at hj ⊢
      rw [gg, if_neg q] at hj
      exact hj
    refine ⟨F.sub, by rw [List.length_set, List.length_set]; exact F.len, fun j d' hj => ?_, fun j d' hj => ?_, fun j d' hj => ?_, fun j k b hj hk e1 e2 => ?_, F.keep, F.iok, F.new⟩
    · rw [gg] at hj
      by_cases q : j = i
      · simp [q] at hj
      · rw [if_neg q] at hj; rw [ss j q]; exact F.sh j d' hj
    · rw [gg] at hj
      by_cases q : j = i
      · subst q; simp at hj; subst hj
        exact ⟨a, si, g, h0, o⟩
      · rw [if_neg q] at hj; rw [ss j q]; exact F.ow j d' hj
    · rw [gg] at hj
      by_cases q : j = i
      · simp [q] at hj
      · rw [if_neg q] at hj; rw [ss j q]; exact F.io j d' hj
    · by_cases q1 : j = i
      · by_cases q2 : k = i
        · rw [q1, q2]
        · subst q1
          rw [si] at e1; cases e1
          rw [ss k q2] at e2
          exact absurd ⟨k, wr k hk q2, e2⟩ m
      · by_cases q2 : k = i
        · subst q2
          rw [si] at e2; cases e2
          rw [ss j q1] at e1
          exact absurd ⟨j, wr j hj q1, e1⟩ m
        · rw [ss j q1] at e1
          rw [ss k q2] at e2
          exact F.dj j k b (wr j hj q1) (wr k hk q2) e1 e2
  · rw [List.set_eq_of_length_le (by omega), List.set_eq_of_length_le (by rw [← F.len]; omega)]
    exact F
theorem setV_at {i : Nat} {ow : Bool} {d : D} (h : setV E i ow d = some E') : E' = E.set i (if ow then .ow d else .sh d) := by
  unfold setV at h
  split at h
  · cases h
  · cases h; rfl
theorem Frm.setA {ir : IR} (F : Frm K B G H E σ) {i : Nat} {v : V} {d : D} (a : AsgR K B ir Hs G H E σ v d) (h : setV E i (isFr ir d) d = some E') : Frm K B G H E' (σ.set i (some v)) := by
  rw [setV_at h]
  unfold AsgR at a
  by_cases c : isFr ir d = true
  · rw [if_pos c] at a
    simp only [c, if_true]
    exact F.setOw a
  · rw [if_neg c] at a
    simp only [c, if_false]
    exact F.setSh a
end
section
variable {X : Cx} {B : Bs} {C : Ctx} {e a b c o tg iter elt : Expr} {es : List Expr} {ir ia ib ic io is ie : IR} {irs : List IR} {t : Tg} {pos apos cpos np p : Pos} {x : Str} {i : Nat} {st : Stmt} {rest body orelse : List Stmt} {s : SIR} {ss sb : List SIR}
theorem ss_nil : PSs X [] (tSs X.K B C []) := PSs.imp pss_nil fun D σ H ⟨G, E, ou, F, ee, k⟩ => by
  simp only [execs] at ee
  cases ee
  exact k σ G H F (Same.refl _)
theorem ss_cons (h1 : PS X st (tS X.K B C s)) (h2 : PSs X rest (tSs X.K B C ss)) : PSs X (st :: rest) (tSs X.K B C (s :: ss)) := PSs.imp (pss_cons h1 h2) fun D σ H ⟨G, E, ou, F, ee, k⟩ => by
  simp only [execs] at ee
  cases hx : exec C s E with
  | none => rw [hx] at ee; cases ee
  | some o1 =>
    rw [hx] at ee
    refine ⟨G, E, o1, F, hx, ?_⟩
    cases o1 with
    | nx E1 => exact fun σ1 G1 H1 F1 s1 => ⟨G1, E1, ou, F1, ee, k.up s1⟩
    | ret d E1 => cases ee; exact k
    | brk E1 => cases ee; exact k
    | ct E1 => cases ee; exact k
/-- name = e -/
theorem s_name (he : PS X st (tAsg (tA X.K B C ir) (gName i))) : PS X st (tS X.K B C (.asg (.name i) ir)) := PS.imp he fun D σ H ⟨G, E, ou, F, ee, k⟩ => by
  simp only [exec, Option.bind_eq_some_iff] at ee
  obtain ⟨⟨d, E1⟩, e1, e2⟩ := ee
  simp only [Option.map_eq_some_iff] at e2
  obtain ⟨E2, e2, rfl⟩ := e2
  exact ⟨G, E, d, E1, F, e1, fun v G1 H1 F1 X1 r1 => k _ G1 H1 (F1.setA r1 e2) X1.g⟩
/-- a target of names = e -/
theorem s_tup {ts : List Tg} (he : PS X st (tAsg (tE X.K B C ir) (tG X.K B (.tup ts)))) : PS X st (tS X.K B C (.asg (.tup ts) ir)) := PS.imp he fun D σ H ⟨G, E, ou, F, ee, k⟩ => by
  simp only [exec, Option.bind_eq_some_iff] at ee
  obtain ⟨⟨d, E1⟩, e1, e2⟩ := ee
  simp only [Option.map_eq_some_iff] at e2
  obtain ⟨E2, e2, rfl⟩ := e2
  exact ⟨G, E, d, E1, F, e1, fun v G1 H1 F1 X1 r1 => ⟨G1, E1, d, E2, F1, r1, e2, fun σ' F2 _ => k σ' G1 H1 F2 X1.g⟩⟩
theorem s_ret (he : Good X B C e ir) : PS X (.Return (some e) pos) (tS X.K B C (.ret ir)) := PS.imp (ps_ret he.E) fun D σ H ⟨G, E, ou, F, ee, k⟩ => by
  simp only [exec, Option.map_eq_some_iff] at ee
  obtain ⟨⟨d, E1⟩, e1, rfl⟩ := ee
  exact ⟨G, E, d, E1, F, e1, fun v G1 H1 F1 X1 r1 => k v σ G1 H1 F1 X1.g r1⟩
theorem s_retN : PS X (.Return none pos) (tS X.K B C (.ret (.k .none))) := PS.imp ps_retN fun D σ H ⟨G, E, ou, F, ee, k⟩ => by
  simp only [exec, ev, Option.map_some] at ee
  cases ee
  exact k .non σ G H F (Same.refl _) .non
theorem s_exp (he : Good X B C e ir) (hs : swapsWith e none pos.line X.env = pure false) : PS X (.Expr e pos) (tS X.K B C (.exp ir)) := PS.imp (ps_expr he.E hs) fun D σ H ⟨G, E, ou, F, ee, k⟩ => by
  simp only [exec, Option.map_eq_some_iff] at ee
  obtain ⟨⟨d, E1⟩, e1, rfl⟩ := ee
  exact ⟨G, E, d, E1, F, e1, fun v G1 H1 F1 X1 r1 => k σ G1 H1 F1 X1.g⟩
theorem s_if (hc : PT X c (tT X.K B C ic)) (ha : PSs X body (tSs X.K B C ss)) (hb : PSs X orelse (tSs X.K B C sb)) : PS X (.If c body orelse pos) (tS X.K B C (.ite ic ss sb)) := PS.imp (ps_if hc ha hb) fun D σ H ⟨G, E, ou, F, ee, k⟩ => by
  simp only [exec, Option.bind_eq_some_iff] at ee
  obtain ⟨⟨d, E1⟩, e1, e2⟩ := ee
  simp only at e2
  split at e2
  · exact ⟨G, E, true, E1, F, e1, fun G1 H1 F1 X1 => iteT ⟨G1, E1, ou, F1, e2, k.up X1.g⟩⟩
  · exact ⟨G, E, false, E1, F, e1, fun G1 H1 F1 X1 => iteF ⟨G1, E1, ou, F1, e2, k.up X1.g⟩⟩
  · cases e2
theorem s_pass : PS X (.Pass pos) (tS X.K B C .pass) := PS.imp ps_pass fun D σ H ⟨G, E, ou, F, ee, k⟩ => by
  simp only [exec] at ee; cases ee; exact k σ G H F (Same.refl _)
theorem s_brk : PS X (.Break pos) (tS X.K B C .brk) := PS.imp ps_break fun D σ H ⟨G, E, ou, F, ee, k⟩ => by
  simp only [exec] at ee; cases ee; exact k σ G H F (Same.refl _)
theorem s_ct : PS X (.Continue pos) (tS X.K B C .ct) := PS.imp ps_continue fun D σ H ⟨G, E, ou, F, ee, k⟩ => by
  simp only [exec] at ee; cases ee; exact k σ G H F (Same.refl _)
/-- name op= e -/
def aopOf : Bop → Option Operator
  | .add => some .Add
  | .sub => some .Sub
  | _ => none
theorem aug_ok {o : Bop} {op : Operator} (h : aopOf o = some op) : ∃ r, OpR X (inplaceOp op) r ∧ ∀ (G H : Hp) (v w : V) (x y z : D) (Q : VK), RpC X.K G H v x → RpC X.K G H w y → augop o x y = some z → (∀ u, Rp X.K G u z → Q u H) → r v w H Q := by
  cases o <;> simp [aopOf] at h
  · subst h
    refine ⟨_, iop_add.or iop_add_str, fun G H v w x y z Q hx hy e q => ?_⟩
    unfold augop at e
    split at e <;> first | contradiction | skip
    · cases e; exact .inl ⟨_, _, hx.int, hy.int, q _ (.int _)⟩
    · split at e
      · rename_i hl
        cases e; exact .inr ⟨_, _, hx.str, hy.str, by rw [sl_eq]; exact hl, q _ (.str _)⟩
      · cases e
  · subst h
    refine ⟨_, iop_sub, fun G H v w x y z Q hx hy e q => ?_⟩
    unfold augop at e
    split at e <;> first | contradiction | skip
    cases e; exact ⟨_, _, hx.int, hy.int, q _ (.int _)⟩
theorem augop_flat {o : Bop} {x y z : D} (h : augop o x y = some z) : ∀ (K : PySem.W.Frag) (G H : Hp) (a : Addr), ¬ Own K G H a x := by
  unfold augop at h
  split at h <;> first | exact fun _ _ _ _ z => z | cases h
theorem s_aug {ob : Bop} {op : Operator} {x : Str} {pos' : Pos} (ho : aopOf ob = some op) (hN : X.N.Nodup) (hi : X.N[i]? = some x) (hx : Loc X.env.scope x) (hf : X.fn x = true ∨ X.env.scope.names.lookup x = some .local) (he : Good X B C e ir) :
    PS X (.AugAssign (.Name x pos') op e pos) (tS X.K B C (.aug i ob ir)) := by
  obtain ⟨r, h1, h2⟩ := aug_ok (X := X) ho
  refine PS.imp (ps_aug (ti := r) hN hi hx he.E h1 hf) fun D σ H ⟨G, E, ou, F, ee, k⟩ => ?_
  simp only [exec] at ee
  split at ee
  · rename_i xd ex
    simp only [Option.bind_eq_some_iff, Option.map_eq_some_iff] at ee
    obtain ⟨⟨y, E1⟩, e1, z, ez, E2, e2, rfl⟩ := ee
    have key : ∃ v, σ[i]? = some (some v) ∧ Rp X.K G v xd := by
      cases w : gets E i with
      | un => rw [w] at ex; cases ex
      | sh d => rw [w] at ex; cases ex; exact F.sh i _ w
      | ow d => rw [w] at ex; cases ex; obtain ⟨a, _, _, _, q⟩ := F.ow i _ w; exact absurd q (augop_flat ez _ _ _ _)
      | io d => rw [w] at ex; cases ex; obtain ⟨a, _, _, _, q⟩ := F.io i _ w; exact absurd q (augop_flat ez _ _ _ _)
    obtain ⟨v, ev', rv⟩ := key
    refine ⟨v, ev', G, E, y, E1, F, e1, fun w G1 H1 F1 X1 r1 => h2 G1 H1 v w xd y z _ (.inl (rv.up X1.g)) (.inl r1) ez fun u ru => ?_⟩
    rw [setV_at e2] at k
    exact k _ G1 H1 (F1.setSh ru) X1.g
  · cases ee
theorem item_dict {kvs : List (D × D)} {k old : D} (h : isD (.dict kvs) = true) (e : item (.dict kvs) k = some old) : dlook kvs k = some (some old) := by
  generalize hx : (PyData.dict kvs) = x at e
  unfold item at e
  split at e <;> first | cases hx | skip
  · simp [isD, dOk, tOk] at h
  · rw [Option.bind_eq_some_iff] at e
    obtain ⟨r, e, e2⟩ := e
    cases e2
    exact e
  · cases e
theorem dput_ok {K : PySem.W.Frag} {G H : Hp} (s : Same G H) {l : Addr} {o : HO} {kvs : List (D × D)} {w vv : V} {kd v x3 : D} (hl : H l = some o) (r : DO K G o kvs) (hw : RpC K G H w kd) (rv : Rp K G vv v) (e : setItem (.dict kvs) kd v = some x3) :
    ∃ o' kvs', x3 = .dict kvs' ∧ DPut H l w vv (upd H l o') ∧ DO K G o' kvs' := by
  simp only [setItem] at e
  split at e
  · rename_i hs
    simp only [Bool.and_eq_true, decide_eq_true_eq] at hs
    cases e
    obtain ⟨ks, rfl, r1⟩ := r.k hs.1.2
    obtain ⟨k0, rfl⟩ := isKey_of hs.1.1
    have ew : w = kV k0 := by
      rcases hw with hw | ⟨_, _, hw⟩
      · exact hw.key
      · cases k0 <;> exact False.elim hw
    subst ew
    exact ⟨_, _, rfl, DPut.k hl (by rw [sl_eq, r1.len]; exact hs.2), .inl ⟨_, rfl, r1.put k0 rv⟩⟩
  · split at e
    · rename_i hs
      simp only [Bool.and_eq_true, decide_eq_true_eq] at hs
      cases e
      obtain ⟨ks, q, rfl, rfl, r1⟩ := r.t hs.2.2.1
      obtain ⟨k, b, rfl, rfl, eb⟩ := keyT_of s hs.1 hs.2.1 hw
      exact ⟨_, _, rfl, DPut.t hl eb (by rw [sl_eq, r1.len]; exact hs.2.2.2), .inr ⟨_, _, rfl, rfl, r1.put k rv⟩⟩
    · cases e
/-- l[k] of a list that may be written, by values -/
def rGetO : V → V → Hp → VK → Prop := fun o i H Q => ∃ p xs k j v, o = .ref p ∧ i = .int k ∧ H p = some (.lst xs) ∧ ixN xs.length k = some j ∧ xs[j]? = some v ∧ Q v H
theorem get_listO {X : Cx} : PGet X rGetO := by
  intro pins s σ H o i ov iv Q I ro ri h
  obtain ⟨p, xs, k, j, z, rfl, rfl, hp, hj, hv, q⟩ := h
  cases ro
  obtain ⟨t, rfl⟩ := ri
  obtain ⟨its, n, r, ho, hz⟩ := I.lst hp
  obtain ⟨h1, h2, h3, h4⟩ := ixN_seq hj
  have il : s.heap.IsList p its.toArray := ⟨_, ho, rfl, n, rfl⟩
  obtain ⟨w, ew, rw'⟩ := r.get hv
  have hl := r.length
  have hn := line63
  have fin : EP X pins σ Q w s := ⟨z, H, I, rw', q⟩
  by_cases h0 : 0 ≤ k
  · have hk : k.toNat = j := by
      rw [seqIndex_of h0 h4] at h1
      exact Option.some.inj h1
    exact wpAny_getItem_list il h0 (by omega) (by rw [hk]; simpa using ew) fin
  · have hk : (k + (its.toArray.size : Int)).toNat = j := by
      rw [seqIndex_neg (by omega) h3] at h1
      rw [List.size_toArray, ← hl]
      exact Option.some.inj h1
    exact wpAny_getItem_list_neg il (by omega) (by rw [List.size_toArray] <;> omega) (by omega) (by rw [hk]; simpa using ew) fin
/-- d[k] op= e, l[k] op= e -/
theorem s_augS {ob : Bop} {op : Operator} {tpos : Pos} (hu : X.A.units + 65 < cLine) (ho : aopOf ob = some op) (hv : PE X o (tVar i)) (hi : Good X B C a ia) (he : Good X B C e ir)
    (ha : ∀ ov iv new, augStore a ov iv new = (do holding [new, ov, iv] (PySem.setItem ov iv new); release [new, ov, iv] []; pure .next)) : PS X (.AugAssign (.Subscript o a tpos) op e pos) (tS X.K B C (.augS i ia ob ir)) := by
  obtain ⟨r, h1, h2⟩ := aug_ok (X := X) ho
  have p1 := ps_daug (rd := r) (pos := pos) (tpos := tpos) (by omega) hv hi.E he.E h1 ha
  have p2 := ps_augS (pos := pos) (tpos := tpos) hv hi.E get_listO he.E (tip := r) h1 set_list ha
  refine PS.imp (PS.or p1 p2) fun D σ H ⟨G, E, ou, F, ee, k⟩ => ?_
  simp only [exec, Option.bind_eq_some_iff] at ee
  obtain ⟨x0, ex0, ⟨kd, E1⟩, e1, x1, ex1, ee⟩ := ee
  simp only at ee
  split at ee
  · rename_i hd1
    simp only [Option.bind_eq_some_iff] at ee
    obtain ⟨old, eo, ⟨y, E2⟩, e2, z, ez, x2, ex2, ee⟩ := ee
    simp only at ee
    split at ee
    · rename_i hd2
      simp only [Option.bind_eq_some_iff, Option.map_eq_some_iff] at ee
      obtain ⟨x3, ex3, E3, e3, rfl⟩ := ee
      obtain ⟨l, el, _, _⟩ := F.wr ex0
      cases x1 with
      | dict kvs1 =>
        left
        have hd1 : isD (.dict kvs1) = true := hd1
        refine ⟨_, el, G, E, kd, E1, F, e1, fun w G1 H1 F1 X1 r1 => ?_⟩
        obtain ⟨l1, el1, g1, o1⟩ := F1.wr ex1
        rw [el] at el1; cases el1
        obtain ⟨ks1, hl1, rk1⟩ := o1
        have eo := item_dict hd1 eo
        obtain ⟨l1', ov, el', g, h⟩ := dlook_ok F1.sub (.inr ⟨l, rfl, ks1, hl1, rk1⟩ : RpC X.K G1 H1 (.ref l) (.dict kvs1)) (.inl r1) eo
        cases el'
        rcases h with ⟨rfl, e'⟩ | ⟨v', d', rfl, e', r'⟩
        · cases e'
        · cases e'
          refine ⟨l, v', rfl, g, G1, E1, y, E2, F1, e2, fun w2 G2 H2 F2 X2 r2 => h2 G2 H2 v' w2 _ y z _ (.inl (r'.up X2.g)) (.inl r2) ez fun u ru => ?_⟩
          obtain ⟨l2, el2, g2, o2⟩ := F2.wr ex2
          rw [el] at el2; cases el2
          cases x2 with
          | dict kvs2 =>
            obtain ⟨ks2, hl2, rk2⟩ := o2
            obtain ⟨o', kvs', rfl, dp, r3⟩ := dput_ok F2.sub hl2 rk2 (.inl (r1.up X2.g)) ru ex3
            have hn : Own X.K G2 (upd H2 l o') l (.dict kvs') := ⟨_, upd_same, r3⟩
            obtain ⟨F3, X3⟩ := F2.put (o := o') e3 el hn
            exact ⟨_, dp, k σ G2 _ F3 (X1.g.trans X2.g)⟩
          | _ => cases hd2
      | list xs1 =>
        right
        refine ⟨_, el, G, E, kd, E1, F, e1, fun w G1 H1 F1 X1 r1 => ?_⟩
        obtain ⟨l1, el1, g1, ys1, hl1, rl1⟩ := F1.wr ex1
        rw [el] at el1; cases el1
        cases kd <;> simp only [item] at eo <;> first | cases eo | skip
        rename_i ki
        rw [Option.bind_eq_some_iff] at eo
        obtain ⟨j, ej, eo⟩ := eo
        cases r1
        obtain ⟨v', hv', r'⟩ := rl1.get eo
        refine ⟨l, ys1, ki, j, v', rfl, rfl, hl1, by rw [rl1.len]; exact ej, hv', G1, E1, y, E2, F1, e2, fun w2 G2 H2 F2 X2 r2 => h2 G2 H2 v' w2 _ y z _ (.inl (r'.up X2.g)) (.inl r2) ez fun u ru => ?_⟩
        obtain ⟨l2, el2, g2, o2⟩ := F2.wr ex2
        rw [el] at el2; cases el2
        cases x2 with
        | list xs2 =>
          obtain ⟨ys2, hl2, rl2⟩ := o2
          simp only [setItem] at ex3
          simp only [Option.map_eq_some_iff] at ex3
          obtain ⟨j2, ej2, rfl⟩ := ex3
          have hn : Own X.K G2 (upd H2 l (.lst (ys2.set j2 u))) l (.list (xs2.set j2 z)) := ⟨_, upd_same, rl2.set j2 ru⟩
          obtain ⟨F3, X3⟩ := F2.put (o := .lst (ys2.set j2 u)) e3 el hn
          exact ⟨l, ys2, ki, j2, rfl, rfl, hl2, by rw [rl2.len]; exact ej2, k σ G2 _ F3 (X1.g.trans X2.g)⟩
        | _ => cases hd2
      | _ => cases hd1
    · cases ee
  · cases ee
/-- o[k] = e -/
theorem s_setS {pos' : Pos} (hu : X.A.units + 65 < cLine) (hv : PE X o (tVar i)) (hi : Good X B C a ia) (he : Good X B C e ir) (hs : swapsWith e (some (.Subscript o a pos')) pos.line X.env = pure false)
    (ha : ∀ v, assign (.Subscript o a pos') X.env v = (do
      let ov ← holding [v] (eval o X.env)
      let iv ← holding [v, ov] (eval a X.env)
      standAt pos'
      holding [v, ov, iv] (PySem.setItem ov iv v)
      release [v, ov, iv] [])) :
    PS X (.Assign [.Subscript o a pos'] e pos) (tS X.K B C (.setS i ia ir)) := by
  have p1 := ps_dput (pos := pos) (by omega) hv hi.E he.E hs
  have p2 : PS X (.Assign [.Subscript o a pos'] e pos) (tAsg (tE X.K B C ir) (gSub (tVar i) (tE X.K B C ia) rSetL)) := ps_asg he.E (pg_sub hv hi.E set_list ha) hs
  refine PS.imp (PS.or p1 p2) fun D σ H ⟨G, E, ou, F, ee, k⟩ => ?_
  simp only [exec, Option.bind_eq_some_iff, Option.map_eq_some_iff] at ee
  obtain ⟨⟨v, E1⟩, e1, x0, ex0, ⟨kd, E2⟩, e2, x2, ex2, x3, ex3, E3, e3, rfl⟩ := ee
  cases x2 with
  | list xs =>
    right
    refine ⟨G, E, v, E1, F, e1, fun vv G1 H1 F1 X1 r1 => ?_⟩
    obtain ⟨l, el, _, _⟩ := F1.wr ex0
    refine ⟨_, el, G1, E1, kd, E2, F1, e2, fun w G2 H2 F2 X2 r2 => ?_⟩
    obtain ⟨l2, el2, g2, ys, hl2, rl2⟩ := F2.wr ex2
    rw [el] at el2; cases el2
    cases kd <;> simp only [setItem] at ex3 <;> first | cases ex3 | skip
    rename_i ki
    simp only [Option.map_eq_some_iff] at ex3
    obtain ⟨j, ej, rfl⟩ := ex3
    cases r2
    have hn : Own X.K G2 (upd H2 l (.lst (ys.set j vv))) l (.list (xs.set j v)) := ⟨_, upd_same, rl2.set j (r1.up X2.g)⟩
    obtain ⟨F3, X3⟩ := F2.put (o := .lst (ys.set j vv)) e3 el hn
    exact ⟨l, ys, ki, j, rfl, rfl, hl2, by rw [rl2.len]; exact ej, k σ G2 _ F3 (X1.g.trans X2.g)⟩
  | dict kvs =>
    left
    refine ⟨G, E, v, E1, F, e1, fun vv G1 H1 F1 X1 r1 => ?_⟩
    obtain ⟨l, el, _, _⟩ := F1.wr ex0
    refine ⟨_, el, G1, E1, kd, E2, F1, e2, fun w G2 H2 F2 X2 r2 => ?_⟩
    obtain ⟨l2, el2, g2, ks, hl2, rk2⟩ := F2.wr ex2
    rw [el] at el2; cases el2
    obtain ⟨o', kvs', rfl, dp, r3⟩ := dput_ok F2.sub hl2 rk2 (.inl r2) (r1.up X2.g) ex3
    have hn : Own X.K G2 (upd H2 l o') l (.dict kvs') := ⟨_, upd_same, r3⟩
    obtain ⟨F3, X3⟩ := F2.put (o := o') e3 el hn
    exact ⟨l, _, rfl, dp, k σ G2 _ F3 (X1.g.trans X2.g)⟩
  | _ => simp [setItem] at ex3

/-! ### loops -/
theorem s_while (hp : PassesOwn (model X.prog X.w) X.A X.env X.xe) (hc : PT X c (tT X.K B C ic)) (hb : PSs X body (tSs X.K B C ss)) : PS X (.While c body [] pos) (tS X.K B C (.while ic ss)) := PS.imp (ps_while hp hc hb) fun D σ H ⟨G0, E0, ou, F0, ee, k⟩ => by
  simp only [exec] at ee
  refine ⟨fun m σ H => ∃ G E, Frm X.K B G H E σ ∧ whileL (ev C ic) (execs C ss) m E = some ou ∧ Same G0 G, ⟨WF, G0, E0, F0, ee, Same.refl _⟩, ?_⟩
  rintro m σ H ⟨G, E, F, ew, s0⟩
  cases m with
  | zero => simp [whileL] at ew
  | succ m =>
    simp only [whileL] at ew
    cases hx : ev C ic E with
    | none => rw [hx] at ew; cases ew
    | some r =>
      obtain ⟨d, E1⟩ := r
      rw [hx] at ew
      cases d with
      | bool b =>
        refine ⟨G, E, b, E1, F, hx, fun G1 H1 F1 X1 => ?_⟩
        cases b with
        | false =>
          cases ew
          exact iteF (k σ G1 H1 F1 (s0.trans X1.g))
        | true =>
          refine iteT ⟨fun σ' H' => ∃ G E, Frm X.K B G H' E σ' ∧ whileL (ev C ic) (execs C ss) m E = some ou ∧ Same G0 G, fun σ' H' h => ⟨m, Nat.lt_succ_self m, h⟩, G1, E1, ?_⟩
          simp only at ew
          cases hb : execs C ss E1 with
          | none => rw [hb] at ew; cases ew
          | some o1 =>
            rw [hb] at ew
            refine ⟨o1, F1, rfl, ?_⟩
            have s1 := s0.trans X1.g
            cases o1 with
            | nx E2 => exact fun σ2 G2 H2 F2 s2 => ⟨G2, E2, F2, ew, s1.trans s2⟩
            | ct E2 => exact fun σ2 G2 H2 F2 s2 => ⟨G2, E2, F2, ew, s1.trans s2⟩
            | brk E2 => cases ew; exact fun σ2 G2 H2 F2 s2 => k σ2 G2 H2 F2 (s1.trans s2)
            | ret d E2 => cases ew; exact fun v σ2 G2 H2 F2 s2 r => k v σ2 G2 H2 F2 (s1.trans s2) r
      | _ => cases ew
theorem s_for (hp : PassesOwn (model X.prog X.w) X.A X.env X.xe) (hc : X.calm = true) (hi : PI X tg iter (tIe X.K B C is)) (hg : PG X tg (tG X.K B t)) (hb : PSs X body (tSs X.K B C ss)) (hs : ∀ x, foldedSetIterable iter X.env x = pure x) :
    PS X (.For tg iter body [] pos) (tS X.K B C (.for t is ss)) := PS.imp (ps_for hp hc hi hg hb hs) fun D σ H ⟨G0, E0, ou, F0, ee, k⟩ => by
  simp only [exec, Option.bind_eq_some_iff] at ee
  obtain ⟨⟨x, E1⟩, e1, xs, ei, ee⟩ := ee
  refine ⟨G0, E0, x, E1, xs, F0, e1, ei, fun J G1 H1 F1 X1 w => ?_⟩
  refine ⟨fun i m σ H => m = xs.length - i ∧ i ≤ xs.length ∧ ∃ G E, Frm X.K B G H E σ ∧ forL (assignT t) (execs C ss) (xs.drop i) E = some ou ∧ Same G1 G, ⟨xs.length, by simp, Nat.zero_le _, G1, E1, F1, by simpa using ee, Same.refl _⟩, ?_⟩
  rintro i m σ H ⟨rfl, hi, G, E, F, ef, s1⟩
  have wk := w i G H s1 F.sub (fun b hb => by simp at hb)
  by_cases hlt : i < xs.length
  · have ex : xs[i]? = some xs[i] := List.getElem?_eq_getElem hlt
    obtain ⟨go, yl⟩ := wk.2 _ ex
    rw [List.drop_eq_getElem_cons hlt] at ef
    simp only [forL, Option.bind_eq_some_iff] at ef
    obtain ⟨Ea, ea, ef⟩ := ef
    refine .inr ⟨go, fun σ' H' => ∃ m', m' = xs.length - (i + 1) ∧ i + 1 ≤ xs.length ∧ ∃ G E, Frm X.K B G H' E σ' ∧ forL (assignT t) (execs C ss) (xs.drop (i + 1)) E = some ou ∧ Same G1 G, fun σ' H' ⟨m', e1, e2, r⟩ => ⟨m', by omega, e1, e2, r⟩, fun xv H' hy => ?_⟩
    have seen : ∃ G', Frm X.K B G' H' E σ ∧ Rp X.K G' xv xs[i] ∧ Same G G' := by
      rcases yl xv H' hy with ⟨rfl, r⟩ | n
      · exact ⟨G, F, r, Same.refl _⟩
      · obtain ⟨G', F', x', r⟩ := n.toE F
        exact ⟨G', F', r, x'.g⟩
    obtain ⟨G', F', r', s'⟩ := seen
    refine ⟨G', E, _, Ea, F', r', ea, fun σ2 F2 _ => ⟨G', Ea, ?_⟩⟩
    cases hb : execs C ss Ea with
    | none => rw [hb] at ef; cases ef
    | some o1 =>
      rw [hb] at ef
      refine ⟨o1, F2, rfl, ?_⟩
      have s2 := (s1.trans s')
      cases o1 with
      | nx E2 => exact fun σ3 G3 H3 F3 s3 => ⟨_, rfl, hlt, G3, E2, F3, ef, s2.trans s3⟩
      | ct E2 => exact fun σ3 G3 H3 F3 s3 => ⟨_, rfl, hlt, G3, E2, F3, ef, s2.trans s3⟩
      | brk E2 => cases ef; exact fun σ3 G3 H3 F3 s3 => k σ3 G3 H3 F3 (X1.g.trans (s2.trans s3))
      | ret d E2 => cases ef; exact fun v σ3 G3 H3 F3 s3 r => k v σ3 G3 H3 F3 (X1.g.trans (s2.trans s3)) r
  · have e : i = xs.length := by omega
    subst e
    rw [List.drop_length] at ef
    simp only [forL] at ef
    cases ef
    exact .inl ⟨wk.1 rfl, k σ G H F (X1.g.trans s1)⟩
end
end Pv

set_option Elab.async false
set_option linter.all false
set_option maxRecDepth 100000
set_option maxHeartbeats 2000000
/-! PvMk: a dict's keys are walked: the dict is locked meanwhile. -/
namespace Pv
open PySem PySem.Spec L2
/-- what stands in the one stands in the other, dicts locked or not -/
structure Lk (G G' : Hp) : Prop where
  l : ∀ b xs, G b = some (.lst xs) → G' b = some (.lst xs)
  t : ∀ b xs, G b = some (.tup xs) → G' b = some (.tup xs)
  r : ∀ b u, (∀ o w, u ≠ .frz o w) → Rd G b u → Rd G' b u
/-- a dict -/
def DU (u : HO) : Prop := (∃ ks, u = .dK ks) ∨ ∃ ks, u = .dT ks
theorem DU.nl {u : HO} (h : DU u) (xs : List V) : u ≠ .lst xs := by rcases h with ⟨_, rfl⟩ | ⟨_, rfl⟩ <;> exact fun z => by cases z
theorem DU.nt {u : HO} (h : DU u) (xs : List V) : u ≠ .tup xs := by rcases h with ⟨_, rfl⟩ | ⟨_, rfl⟩ <;> exact fun z => by cases z
theorem DU.nf {u : HO} (h : DU u) (o : Obj) (w : HO) : u ≠ .frz o w := by rcases h with ⟨_, rfl⟩ | ⟨_, rfl⟩ <;> exact fun z => by cases z
section
variable {K : PySem.W.Frag} {G G' H H' : Hp}
theorem Lk.sqT {a : Addr} {xs : List V} (s : Lk G G') (h : SqT K G a xs) : SqT K G' a xs := h.imp (s.r _ _ (fun _ _ z => by cases z)) id
theorem Lk.sqL {a : Addr} {xs : List V} (s : Lk G G') (h : SqL K G a xs) : SqL K G' a xs := h.imp (s.r _ _ (fun _ _ z => by cases z)) id
mutual
theorem Rp.lk' (s : Lk G G') : ∀ (d : D) (v : V), Rp K G v d → Rp K G' v d
  | .none, _, h => by cases h; exact .non
  | .bool _, _, h => by cases h; exact .bl _
  | .int _, _, h => by cases h; exact .int _
  | .str _, _, h => by cases h; exact .str _
  | .list ds, _, h => by
    cases h with
    | lst h1 h2 => exact .lst (s.l _ _ h1) (RpAll.lk' s ds _ h2)
  | .tuple ds, _, h => by
    cases h with
    | tup h1 h2 => exact .tup (h1.imp (s.t _ _) fun h => ⟨s.sqT h.1, h.2⟩) (RpAll.lk' s ds _ h2)
  | .dict kvs, _, h => by
    cases h with
    | dK h1 h2 => exact .dK (s.r _ _ (fun _ _ z => by cases z) h1) (RpKV.lk' s kvs _ h2)
    | @frz a xs ds h1 h2 => exact .frz (s.sqL h1) (RpAll.lk' s ds _ h2)
    | @dT a ks r h1 h2 => exact .dT (s.r _ _ (fun _ _ z => by cases z) h1) (RpKT.lk' s r _ h2)
theorem RpAll.lk' (s : Lk G G') : ∀ (ds : List D) (vs : List V), RpAll K G vs ds → RpAll K G' vs ds
  | [], _, h => by cases h; exact .nil
  | d :: ds, _, h => by
    cases h with
    | cons h1 h2 => exact .cons (Rp.lk' s d _ h1) (RpAll.lk' s ds _ h2)
theorem RpKV.lk' (s : Lk G G') : ∀ (kvs : List (D × D)) (ks : List (Key × V)), RpKV K G ks kvs → RpKV K G' ks kvs
  | [], _, h => by cases h; exact .nil
  | (k, d) :: kvs, _, h => by
    cases h with
    | cons h1 h2 => exact .cons (Rp.lk' s d _ h1) (RpKV.lk' s kvs _ h2)
theorem RpKT.lk' (s : Lk G G') : ∀ (kvs : List (D × D)) (ks : List (List Key × V)), RpKT K G ks kvs → RpKT K G' ks kvs
  | [], _, h => by cases h; exact .nil
  | (k, d) :: kvs, _, h => by
    cases h with
    | cons h1 h2 => exact .cons (Rp.lk' s d _ h1) (RpKT.lk' s kvs _ h2)
end
theorem Rp.lk (s : Lk G G') {d : D} {v : V} (h : Rp K G v d) : Rp K G' v d := Rp.lk' s d v h
theorem RpAll.lk (s : Lk G G') {ds : List D} {vs : List V} (h : RpAll K G vs ds) : RpAll K G' vs ds := RpAll.lk' s ds vs h
theorem RpKV.lk (s : Lk G G') {kvs : List (D × D)} {ks : List (Key × V)} (h : RpKV K G ks kvs) : RpKV K G' ks kvs := RpKV.lk' s kvs ks h
theorem DO.lk (s : Lk G G') {o : HO} {kvs : List (D × D)} (h : DO K G o kvs) : DO K G' o kvs := by
  rcases h with ⟨ks, e, r⟩ | ⟨ks, r, e, e2, h⟩
  · exact .inl ⟨ks, e, r.lk s⟩
  · exact .inr ⟨ks, r, e, e2, RpKT.lk' s r ks h⟩
theorem Own.lk (s : Lk G G') {a : Addr} {d : D} (e : H' a = H a) (h : Own K G H a d) : Own K G' H' a d := by
  cases d <;> first | exact False.elim h | skip
  · obtain ⟨x, e1, r⟩ := h; exact ⟨x, by rw [e]; exact e1, r.lk s⟩
  · obtain ⟨x, e1, r⟩ := h; exact ⟨x, by rw [e]; exact e1, r.lk s⟩
theorem lk_lock {a : Addr} {u : HO} {od : Obj} (hu : DU u) (h : G a = some u) : Lk G (upd G a (.frz od u)) where
  l := fun b xs e => by
    have : b ≠ a := fun z => by rw [z, h] at e; cases e; exact hu.nl xs rfl
    rw [upd_ne this]; exact e
  t := fun b xs e => by
    have : b ≠ a := fun z => by rw [z, h] at e; cases e; exact hu.nt xs rfl
    rw [upd_ne this]; exact e
  r := fun b v hv e => by
    by_cases c : b = a
    · subst c
      rcases e with e | ⟨o, e⟩
      · rw [h] at e; cases e; exact .inr ⟨od, upd_same⟩
      · rw [h] at e; cases e; exact absurd rfl (hu.nf _ _)
    · rcases e with e | ⟨o, e⟩
      · exact .inl (by rw [upd_ne c]; exact e)
      · exact .inr ⟨o, by rw [upd_ne c]; exact e⟩
theorem lk_unl {a : Addr} {u : HO} {od : Obj} (h : G a = some (.frz od u)) : Lk G (upd G a u) where
  l := fun b xs e => by
    have : b ≠ a := fun z => by rw [z, h] at e; cases e
    rw [upd_ne this]; exact e
  t := fun b xs e => by
    have : b ≠ a := fun z => by rw [z, h] at e; cases e
    rw [upd_ne this]; exact e
  r := fun b u hu e => by
    by_cases c : b = a
    · subst c
      rcases e with e | ⟨o, e⟩
      · rw [h] at e; cases e; exact absurd rfl (hu _ _)
      · rw [h] at e; cases e; exact .inl upd_same
    · rcases e with e | ⟨o, e⟩
      · exact .inl (by rw [upd_ne c]; exact e)
      · exact .inr ⟨o, by rw [upd_ne c]; exact e⟩
end
/-- a def's entry, the dict locked -/
def lkB (B : Bs) (a : Addr) (o : HO) : Bs := { B with H0 := match B.H0 a with
  | none => B.H0
  | some _ => upd B.H0 a o }
theorem lkB_ne {B : Bs} {a b : Addr} {o : HO} (h : b ≠ a) : (lkB B a o).H0 b = B.H0 b := by
  unfold lkB
  cases q : B.H0 a with
  | none => rfl
  | some u => show upd B.H0 a o b = _; rw [upd_ne h]
theorem lkB_none {B : Bs} {a b : Addr} {o : HO} : (lkB B a o).H0 b = none ↔ B.H0 b = none := by
  by_cases h : b = a
  · subst h
    unfold lkB
    cases q : B.H0 b with
    | none => show B.H0 b = none ↔ _; rw [q]
    | some u => show upd B.H0 b o b = none ↔ _; rw [upd_same]; simp
  · rw [lkB_ne h]
section
variable {K : PySem.W.Frag} {B : Bs} {G G' H H' : Hp} {E E' : Env} {σ : St} {a : Addr} {u : HO} {ks : List (Key × V)} {od : Obj}
theorem Frm.lock (F : Frm K B G H E σ) (hu : DU u) (h : G a = some u) (od : Obj) : Frm K (lkB B a (.frz od u)) (upd G a (.frz od u)) (upd H a (.frz od u)) E σ where
  sub := fun b o e => by
    by_cases c : b = a
    · subst c; rw [upd_same] at e ⊢; exact e
    · rw [upd_ne c] at e ⊢; exact F.sub b o e
  len := F.len
  sh := fun i d w => by
    obtain ⟨v, e, r⟩ := F.sh i d w
    exact ⟨v, e, r.lk (lk_lock hu h)⟩
  ow := fun i d w => by
    obtain ⟨b, e, g, h0, o⟩ := F.ow i d w
    have c : b ≠ a := fun z => by rw [z, h] at g; cases g
    exact ⟨b, e, by rw [upd_ne c]; exact g, lkB_none.mpr h0, o.lk (lk_lock hu h) (upd_ne c)⟩
  io := fun i d w => by
    obtain ⟨b, e0, e, g, o⟩ := F.io i d w
    have c : b ≠ a := fun z => by rw [z, h] at g; cases g
    exact ⟨b, e0, e, by rw [upd_ne c]; exact g, o.lk (lk_lock hu h) (upd_ne c)⟩
  dj := F.dj
  keep := fun b o e m => by
    by_cases c : b = a
    · subst c
      unfold lkB at e
      cases q : B.H0 b with
      | none => rw [q] at e; have e : B.H0 b = some o := e; rw [q] at e; cases e
      | some u => rw [q] at e; have e : upd B.H0 b _ b = some o := e; rw [upd_same] at e ⊢; exact e
    · rw [lkB_ne c] at e; rw [upd_ne c]; exact F.keep b o e m
  iok := fun b m => by
    by_cases c : b = a
    · subst c; exact ⟨_, upd_same⟩
    · rw [upd_ne c]; exact F.iok b m
  new := fun b o nt e => by
    by_cases c : b = a
    · subst c; exact (F.new b _ (fun xs => hu.nt xs) h).imp id lkB_none.mpr
    · rw [upd_ne c] at e; exact (F.new b o nt e).imp id lkB_none.mpr
theorem Frm.unlock (F : Frm K (lkB B a (.frz od u)) G H E σ) (h : G a = some (.frz od u)) (hB : ∀ o, B.H0 a = some o → a ∉ B.ioa → o = u) : Frm K B (upd G a u) (upd H a u) E σ where
  sub := fun b o e => by
    by_cases c : b = a
    · subst c; rw [upd_same] at e ⊢; exact e
    · rw [upd_ne c] at e ⊢; exact F.sub b o e
  len := F.len
  sh := fun i d w => by
    obtain ⟨v, e, r⟩ := F.sh i d w
    exact ⟨v, e, r.lk (lk_unl h)⟩
  ow := fun i d w => by
    obtain ⟨b, e, g, h0, o⟩ := F.ow i d w
    have c : b ≠ a := fun z => by rw [z, h] at g; cases g
    exact ⟨b, e, by rw [upd_ne c]; exact g, lkB_none.mp h0, o.lk (lk_unl h) (upd_ne c)⟩
  io := fun i d w => by
    obtain ⟨b, e0, e, g, o⟩ := F.io i d w
    have c : b ≠ a := fun z => by rw [z, h] at g; cases g
    exact ⟨b, e0, e, by rw [upd_ne c]; exact g, o.lk (lk_unl h) (upd_ne c)⟩
  dj := F.dj
  keep := fun b o e m => by
    by_cases c : b = a
    · subst c; rw [upd_same, hB o e m]
    · rw [upd_ne c]; exact F.keep b o (by rw [lkB_ne c]; exact e) m
  iok := fun b m => by
    by_cases c : b = a
    · subst c; exact ⟨_, upd_same⟩
    · rw [upd_ne c]; exact F.iok b m
  new := fun b o nt e => by
    by_cases c : b = a
    · subst c; exact (F.new b _ (fun _ z => by cases z) h).imp id lkB_none.mp
    · rw [upd_ne c] at e; exact (F.new b o nt e).imp id lkB_none.mp
theorem same_unl (h : G a = some u) (s : Same (upd G a (.frz od u)) G') : Same G (upd G' a u) := fun b o e => by
  by_cases c : b = a
  · subst c; rw [h] at e; rw [upd_same]; exact e
  · rw [upd_ne c]; exact s b o (by rw [upd_ne c]; exact e)
theorem lock_there (s : Same (upd G a (.frz od u)) G') : G' a = some (.frz od u) := s a _ upd_same
/-- a name's own value, let go -/
theorem Frm.varE {i : Nat} {d : D} (F : Frm K B G H E σ) (e : varE E i = some (d, E')) : ∃ G1 v, Frm K B G1 H E' σ ∧ Ext σ E E' G H G1 H ∧ σ[i]? = some (some v) ∧ Rp K G1 v d := by
  unfold Pv.varE at e
  split at e
  · rename_i d' w
    cases e
    obtain ⟨v, e1, r⟩ := F.sh i _ w
    exact ⟨G, v, F, Ext.refl, e1, r⟩
  · rename_i d' w
    cases e
    obtain ⟨a, e1, g, h0, o⟩ := F.ow i _ w
    obtain ⟨y, ey⟩ := o.there
    obtain ⟨F', x', r⟩ := F.freeze w e1 g h0 o ey
    exact ⟨_, _, F', x', e1, r⟩
  · cases e
theorem RpKV.key_at : ∀ {ks : List (Key × V)} {kvs : List (D × D)} {i : Nat} {d : D}, RpKV K G ks kvs → (kvs.map Prod.fst)[i]? = some d → ∃ k v, ks[i]? = some (k, v) ∧ d = keyD k
  | _, _, i, _, .nil, e => by simp at e
  | _, _, 0, _, .cons (k := k) (v := v) _ _, e => by
    simp at e; exact ⟨k, v, rfl, e.symm⟩
  | _, _, i + 1, _, .cons _ r, e => by
    obtain ⟨k, v, e1, e2⟩ := r.key_at (i := i) (by simpa using e)
    exact ⟨k, v, by simpa using e1, e2⟩
theorem walk_keys {kvs : List (D × D)} (h : G a = some (.frz od (.dK ks))) (r : RpKV K G ks kvs) : Walk K (Itk a od ks) [] G H (kvs.map Prod.fst) := fun i G2 H2 s2 s3 _ => by
  have q : H2 a = some (.frz od (.dK ks)) := s3 _ _ (s2 _ _ h)
  have l := r.len
  refine ⟨fun e => ⟨q, by rw [e, List.length_map]; omega⟩, fun d e => ?_⟩
  obtain ⟨k, v, e1, rfl⟩ := r.key_at e
  have hi : i < ks.length := by
    rw [List.getElem?_eq_some_iff] at e1
    exact e1.1
  refine ⟨⟨q, hi⟩, fun v' H' y => ?_⟩
  obtain ⟨rfl, k', v2, e2, rfl⟩ := y
  rw [e1] at e2; cases e2
  refine .inl ⟨rfl, ?_⟩
  cases k with
  | inl i => exact .int i
  | inr s => exact .str s
theorem RpKT.key_at : ∀ {ks : List (List Key × V)} {kvs : List (D × D)} {i : Nat} {d : D}, RpKT K G ks kvs → (kvs.map Prod.fst)[i]? = some d → ∃ k v, ks[i]? = some (k, v) ∧ d = keyTD k
  | _, _, i, _, .nil, e => by simp at e
  | _, _, 0, _, .cons (k := k) (v := v) _ _, e => by
    simp at e; exact ⟨k, v, rfl, e.symm⟩
  | _, _, i + 1, _, .cons _ r, e => by
    obtain ⟨k, v, e1, e2⟩ := r.key_at (i := i) (by simpa using e)
    exact ⟨k, v, by simpa using e1, e2⟩
theorem RpKT.len' : ∀ {ks : List (List Key × V)} {kvs : List (D × D)}, RpKT K G ks kvs → ks.length = kvs.length
  | _, _, .nil => rfl
  | _, _, .cons _ r => congrArg (· + 1) r.len'
theorem walk_keysT {ks : List (List Key × V)} {kvs : List (D × D)} (h : G a = some (.frz od (.dT ks))) (r : RpKT K G ks kvs) : Walk K (Itkt a od ks) [] G H (kvs.map Prod.fst) := fun i G2 H2 s2 s3 _ => by
  have q : H2 a = some (.frz od (.dT ks)) := s3 _ _ (s2 _ _ h)
  have l := r.len'
  refine ⟨fun e => ⟨q, by rw [e, List.length_map]; omega⟩, fun d e => ?_⟩
  obtain ⟨k, v, e1, rfl⟩ := r.key_at e
  have hi : i < ks.length := by
    rw [List.getElem?_eq_some_iff] at e1
    exact e1.1
  refine ⟨⟨q, hi⟩, fun v' H' y => ?_⟩
  obtain ⟨rfl, k', v2, b, e2, rfl, hb⟩ := y
  rw [e1] at e2; cases e2
  exact .inr (.inr ⟨rfl, b, k, rfl, hb, rfl⟩)
/-- a dict with its keys -/
inductive KU (K : PySem.W.Frag) (G : Hp) : HO → List D → Prop
  | k {ks : List (Key × V)} {kvs : List (D × D)} : RpKV K G ks kvs → KU K G (.dK ks) (kvs.map Prod.fst)
  | t {ks : List (List Key × V)} {kvs : List (D × D)} : RpKT K G ks kvs → KU K G (.dT ks) (kvs.map Prod.fst)
def Ju (a : Addr) (od : Obj) : HO → It
  | .dK ks => Itk a od ks
  | .dT ks => Itkt a od ks
  | _ => Itk a od []
theorem KU.du {zs : List D} (h : KU K G u zs) : DU u := by
  cases h with
  | k _ => exact .inl ⟨_, rfl⟩
  | t _ => exact .inr ⟨_, rfl⟩
theorem KU.lk (s : Lk G G') {zs : List D} (h : KU K G u zs) : KU K G' u zs := by
  cases h with
  | k r => exact .k (r.lk s)
  | t r => exact .t (RpKT.lk' s _ _ r)
theorem KU.walk {zs : List D} (h : KU K G u zs) (e : G a = some (.frz od u)) : Walk K (Ju a od u) [] G H zs := by
  cases h with
  | k r => exact walk_keys e r
  | t r => exact walk_keysT e r
theorem KU.it {zs : List D} (h : KU K G u zs) {H1 : Hp} (e : H1 a = some (.frz od u)) {R : It → Hp → Prop} (q : R (Ju a od u) H1) : (∃ kvs, H1 a = some (.frz od (.dK kvs)) ∧ R (Itk a od kvs) H1) ∨ ∃ kvs, H1 a = some (.frz od (.dT kvs)) ∧ R (Itkt a od kvs) H1 := by
  cases h with
  | k r => exact .inl ⟨_, e, q⟩
  | t r => exact .inr ⟨_, e, q⟩
end
section
variable {X : Cx} {B : Bs} {C : Ctx} {e a b c o tg iter elt : Expr} {ss : List SIR} {body : List Stmt} {ir is ic ie : IR} {pos : Pos} {x : Str} {i : Nat} {t : Tg}
def tKy (i : Nat) : TI := fun σ H R => ∃ v, σ[i]? = some (some v) ∧ ∃ a od, v = .ref a ∧ ((∃ kvs, H a = some (.frz od (.dK kvs)) ∧ R (Itk a od kvs) H) ∨ ∃ kvs, H a = some (.frz od (.dT kvs)) ∧ R (Itkt a od kvs) H)
theorem pi_ky (hv : PE X iter (tVar i)) : PI X tg iter (tKy i) := pi_keys hv
theorem KU.tk {K : PySem.W.Frag} {G H1 : Hp} {σ : St} {a : Addr} {od : Obj} {u : HO} {zs : List D} {R : It → Hp → Prop} (h : KU K G u zs) (eσ : σ[i]? = some (some (.ref a))) (e : H1 a = some (.frz od u)) (q : R (Ju a od u) H1) : tKy i σ H1 R :=
  ⟨_, eσ, a, od, rfl, h.it e q⟩
/-- the turns of a for -/
theorem for_turns {K : PySem.W.Frag} {G1 H1 : Hp} {E1 : Env} {σ : St} {xs : List D} {ou : Out} {D : Ends} {J : It} (F1 : Frm K B G1 H1 E1 σ) (ee : forL (assignT t) (execs C ss) xs E1 = some ou) (k : OutR K B G1 D ou) (w : Walk K J [] G1 H1 xs) :
    ∃ W : Nat → Nat → St → Hp → Prop, (∃ m, W 0 m σ H1) ∧ ∀ (i m : Nat) (σ : St) (H : Hp), W i m σ H → J.stop i H ∧ D.nx σ H ∨ J.go i H ∧ ∃ N : St → Hp → Prop, (∀ σ' H', N σ' H' → ∃ m', m' < m ∧ W (i + 1) m' σ' H') ∧
      ∀ (x : V) (H' : Hp), J.yld i H x H' → tG K B t x σ H' fun σ2 H2 => tSs K B C ss { nx := N, rt := D.rt, bk := D.nx, ct := N } σ2 H2 := by
  refine ⟨fun i m σ H => m = xs.length - i ∧ i ≤ xs.length ∧ ∃ G E, Frm K B G H E σ ∧ forL (assignT t) (execs C ss) (xs.drop i) E = some ou ∧ Same G1 G, ⟨xs.length, by simp, Nat.zero_le _, G1, E1, F1, by simpa using ee, Same.refl _⟩, ?_⟩
  rintro i m σ H ⟨rfl, hi, G, E, F, ef, s1⟩
  have wk := w i G H s1 F.sub (fun b hb => by simp at hb)
  by_cases hlt : i < xs.length
  · have ex : xs[i]? = some xs[i] := List.getElem?_eq_getElem hlt
    obtain ⟨go, yl⟩ := wk.2 _ ex
    rw [List.drop_eq_getElem_cons hlt] at ef
    simp only [forL, Option.bind_eq_some_iff] at ef
    obtain ⟨Ea, ea, ef⟩ := ef
    refine .inr ⟨go, fun σ' H' => ∃ m', m' = xs.length - (i + 1) ∧ i + 1 ≤ xs.length ∧ ∃ G E, Frm K B G H' E σ' ∧ forL (assignT t) (execs C ss) (xs.drop (i + 1)) E = some ou ∧ Same G1 G, fun σ' H' ⟨m', e1, e2, r⟩ => ⟨m', by omega, e1, e2, r⟩, fun xv H' hy => ?_⟩
    have seen : ∃ G', Frm K B G' H' E σ ∧ Rp K G' xv xs[i] ∧ Same G G' := by
      rcases yl xv H' hy with ⟨rfl, r⟩ | n
      · exact ⟨G, F, r, Same.refl _⟩
      · obtain ⟨G', F', x', r⟩ := n.toE F
        exact ⟨G', F', r, x'.g⟩
    obtain ⟨G', F', r', s'⟩ := seen
    refine ⟨G', E, _, Ea, F', r', ea, fun σ2 F2 _ => ⟨G', Ea, ?_⟩⟩
    cases hb : execs C ss Ea with
    | none => rw [hb] at ef; cases ef
    | some o1 =>
      rw [hb] at ef
      refine ⟨o1, F2, rfl, ?_⟩
      have s2 := (s1.trans s')
      cases o1 with
      | nx E2 => exact fun σ3 G3 H3 F3 s3 => ⟨_, rfl, hlt, G3, E2, F3, ef, s2.trans s3⟩
      | ct E2 => exact fun σ3 G3 H3 F3 s3 => ⟨_, rfl, hlt, G3, E2, F3, ef, s2.trans s3⟩
      | brk E2 => cases ef; exact fun σ3 G3 H3 F3 s3 => k σ3 G3 H3 F3 (s2.trans s3)
      | ret d E2 => cases ef; exact fun v σ3 G3 H3 F3 s3 r => k v σ3 G3 H3 F3 (s2.trans s3) r
  · have e : i = xs.length := by omega
    subst e
    rw [List.drop_length] at ef
    simp only [forL] at ef
    cases ef
    exact .inl ⟨wk.1 rfl, k σ G H F s1⟩
/-- what is read of a name whose dict's keys are walked -/
theorem kys_read {K : PySem.W.Frag} {G H : Hp} {E E1 : Env} {σ : St} {z : D} (F : Frm K B G H E σ) (e : ev C (.kys i) E = some (z, E1)) : ∃ G1 a u zs, Frm K B G1 H E1 σ ∧ Ext σ E E1 G H G1 H ∧ σ[i]? = some (some (.ref a)) ∧ z = .list zs ∧ zs.length ≤ LIM ∧ KU K G1 u zs ∧ Rd G1 a u := by
  simp only [ev, Option.bind_eq_some_iff, Option.map_eq_some_iff] at e
  obtain ⟨⟨d, E2⟩, e1, z', e2, eq⟩ := e
  cases eq
  obtain ⟨G1, v, F1, x1, ev', r⟩ := F.varE e1
  cases d <;> simp only [keysD] at e2 <;> first | contradiction | skip
  rename_i kvs
  split at e2
  · rename_i hk
    rw [Bool.and_eq_true, decide_eq_true_eq] at hk
    cases e2
    obtain ⟨a, ks, rfl, rd, q⟩ := RpC.dict (K := K) (Same.refl G1) (show RpC K G1 G1 v (.dict kvs) from .inl r) hk.1
    exact ⟨G1, a, _, _, F1, x1, ev', rfl, by rw [List.length_map]; exact hk.2, .k q, rd⟩
  · split at e2
    · rename_i hk
      rw [Bool.and_eq_true, decide_eq_true_eq] at hk
      cases e2
      obtain ⟨a, ks, q0, rfl, rfl, rd, q⟩ := RpC.dictT (K := K) (Same.refl G1) (show RpC K G1 G1 v (.dict kvs) from .inl r) hk.1
      exact ⟨G1, a, _, _, F1, x1, ev', rfl, by rw [List.length_map]; exact hk.2, .t q, rd⟩
    · cases e2
def xG (K : PySem.W.Frag) (t : Tg) : TG := fun v σ H Q => ∃ B, tG K B t v σ H Q
def xSs (K : PySem.W.Frag) (C : Ctx) (ss : List SIR) : TS := fun D σ H => ∃ B, tSs K B C ss D σ H
def xT (K : PySem.W.Frag) (C : Ctx) (ir : IR) : TT := fun σ H Q => ∃ B, tT K B C ir σ H Q
def xE (K : PySem.W.Frag) (C : Ctx) (ir : IR) : TE := fun σ H Q => ∃ B, tE K B C ir σ H Q
theorem pg_x (h : ∀ B, PG X tg (tG X.K B t)) : PG X tg (xG X.K t) := ⟨fun pins s σ H v u Q I r ⟨B, q⟩ => (h B).run pins s σ H v u Q I r q⟩
theorem pss_x (h : ∀ B, PSs X body (tSs X.K B C ss)) : PSs X body (xSs X.K C ss) := ⟨fun pins sh σ H D I ⟨B, q⟩ => (h B).run pins sh σ H D I q⟩
theorem pe_x (h : ∀ B, PE X e (tE X.K B C ir)) : PE X e (xE X.K C ir) := ⟨fun pins s σ H Q I ⟨B, q⟩ => (h B).run pins s σ H Q I q⟩
theorem pts_x {es : List Expr} (h : ∀ B, PTs X es (tT X.K B C ir)) : PTs X es (xT X.K C ir) := ⟨fun pins s σ H Q I ⟨B, q⟩ => (h B).run pins s σ H Q I q⟩
theorem h0_there {K : PySem.W.Frag} {B : Bs} {G H : Hp} {E : Env} {σ : St} {a : Addr} {u : HO} (F : Frm K B G H E σ) (h : G a = some u) : ∀ o, B.H0 a = some o → a ∉ B.ioa → o = u := fun o e m => by
  have e1 := F.keep a o e m
  rw [F.sub a u h] at e1; cases e1; rfl
theorem s_forK (hp : PassesOwn (model X.prog X.w) X.A X.env X.xe) (hc : X.calm = true) (hv : PE X iter (tVar i)) (hg : ∀ B, PG X tg (tG X.K B t)) (hb : ∀ B, PSs X body (tSs X.K B C ss)) (hs : ∀ x, foldedSetIterable iter X.env x = pure x) :
    PS X (.For tg iter body [] pos) (tS X.K B C (.for t (.kys i) ss)) := ⟨fun pins sh σ H D I ⟨G0, E0, ou, F0, ee, k⟩ => by
  simp only [exec, Option.bind_eq_some_iff] at ee
  obtain ⟨⟨z, E1⟩, e1, xs, ei, ee⟩ := ee
  obtain ⟨G1, a, u, zs, F1, x1, eσ, rfl, hl, q, rd⟩ := kys_read F0 e1
  cases ei
  have hu := q.du
  have k1 := k.up x1.g
  have core := ps_for (pos := pos) hp hc (pi_ky hv) (pg_x hg) (pss_x hb) hs
  rcases rd with rd | ⟨od, rd⟩
  · refine (ps_lock core).run pins sh σ H D I ⟨a, u, F1.sub _ _ rd, by rcases hu with ⟨_, rfl⟩ | ⟨_, rfl⟩ <;> trivial, fun od => ?_⟩
    have FL := F1.lock hu rd od
    have hB := h0_there F1 rd
    refine q.tk eσ upd_same ?_
    obtain ⟨W, w0, w1⟩ := for_turns (D := { nx := fun σ' H' => H' a = some (.frz od u) ∧ D.nx σ' (upd H' a u), rt := fun v H' => H' a = some (.frz od u) ∧ D.rt v (upd H' a u), bk := fun σ' H' => H' a = some (.frz od u) ∧ D.bk σ' (upd H' a u), ct := fun σ' H' => H' a = some (.frz od u) ∧ D.ct σ' (upd H' a u) }) FL ee (by
      cases ou with
      | nx E' => exact fun σ' G' H' F' s => ⟨F'.sub _ _ (lock_there s), k1 σ' _ _ (F'.unlock (lock_there s) hB) (same_unl rd s)⟩
      | ct E' => exact fun σ' G' H' F' s => ⟨F'.sub _ _ (lock_there s), k1 σ' _ _ (F'.unlock (lock_there s) hB) (same_unl rd s)⟩
      | brk E' => exact fun σ' G' H' F' s => ⟨F'.sub _ _ (lock_there s), k1 σ' _ _ (F'.unlock (lock_there s) hB) (same_unl rd s)⟩
      | ret d E' => exact fun v σ' G' H' F' s r => ⟨F'.sub _ _ (lock_there s), k1 v σ' _ _ (F'.unlock (lock_there s) hB) (same_unl rd s) (r.lk (lk_unl (lock_there s)))⟩) ((q.lk (lk_lock hu rd)).walk upd_same)
    refine ⟨W, w0, fun i m σ H h => (w1 i m σ H h).imp id fun ⟨go, N, h1, h2⟩ => ⟨go, N, h1, fun x H' y => ?_⟩⟩
    obtain ⟨G, E, d, E', F, r, e, h3⟩ := h2 x H' y
    exact ⟨_, G, E, d, E', F, r, e, fun σ' F' hj => ⟨_, h3 σ' F' hj⟩⟩
  · refine core.run pins sh σ H D I ?_
    refine q.tk eσ (F1.sub _ _ rd) ?_
    obtain ⟨W, w0, w1⟩ := for_turns (D := D) F1 ee k1 (q.walk rd)
    refine ⟨W, w0, fun i m σ H h => (w1 i m σ H h).imp id fun ⟨go, N, h1, h2⟩ => ⟨go, N, h1, fun x H' y => ?_⟩⟩
    obtain ⟨G, E, d, E', F, r, e, h3⟩ := h2 x H' y
    exact ⟨_, G, E, d, E', F, r, e, fun σ' F' hj => ⟨_, h3 σ' F' hj⟩⟩⟩
theorem ext_unl {σ : St} {E1 E2 : Env} {G1 H1 G2 H2 : Hp} {a : Addr} {u : HO} {od : Obj} (hg : G1 a = some u) (hh : H1 a = some u) (x : Ext σ E1 E2 (upd G1 a (.frz od u)) (upd H1 a (.frz od u)) G2 H2) : Ext σ E1 E2 G1 H1 (upd G2 a u) (upd H2 a u) where
  g := same_unl hg x.g
  h := fun b o e m => by
    by_cases c : b = a
    · subst c; rw [hh] at e; rw [upd_same]; exact e
    · rw [upd_ne c]; exact x.h b o (by rw [upd_ne c]; exact e) m
  n := fun b o nt e m g => by
    have c : b ≠ a := fun z => by rw [z, hg] at g; cases g
    rw [upd_ne c]; exact x.n b o nt (by rw [upd_ne c]; exact e) m (by rw [upd_ne c]; exact g)
  w := x.w
  t := fun b o e => by
    by_cases c : b = a
    · subst c; exact ⟨_, upd_same⟩
    · rw [upd_ne c]; exact x.t b o (by rw [upd_ne c]; exact e)
theorem turns_x {K : PySem.W.Frag} {σ : St} {vs : List Nat} {Dl : Addr} {J : It} {Qs : Hp → Prop} {H1 : Hp} (h : ∃ W : Nat → Nat → Hp → Prop, (∃ m, W 0 m (upd H1 Dl (.lst []))) ∧ ∀ i m H, W i m H →
      (J.stop i H ∧ Qs H) ∨ (J.go i H ∧ ∃ Nx : Hp → Prop, (∀ H', Nx H' → ∃ m', m' < m ∧ W (i + 1) m' H') ∧ ∀ x H', J.yld i H x H' → tG K B t x (wipe σ vs) H' fun σ2 H2 => wipe σ2 vs = wipe σ vs ∧ tT K B C ic σ2 H2 fun b H3 =>
        if b = true then tE K B C ie σ2 H3 fun y H4 => ∃ acc, H4 Dl = some (.lst acc) ∧ acc.length < sizeLine ∧ Nx (upd H4 Dl (.lst (acc ++ [y]))) else Nx H3)) : ∃ W : Nat → Nat → Hp → Prop, (∃ m, W 0 m (upd H1 Dl (.lst []))) ∧ ∀ i m H, W i m H →
      (J.stop i H ∧ Qs H) ∨ (J.go i H ∧ ∃ Nx : Hp → Prop, (∀ H', Nx H' → ∃ m', m' < m ∧ W (i + 1) m' H') ∧ ∀ x H', J.yld i H x H' → xG K t x (wipe σ vs) H' fun σ2 H2 => wipe σ2 vs = wipe σ vs ∧ xT K C ic σ2 H2 fun b H3 =>
        if b = true then xE K C ie σ2 H3 fun y H4 => ∃ acc, H4 Dl = some (.lst acc) ∧ acc.length < sizeLine ∧ Nx (upd H4 Dl (.lst (acc ++ [y]))) else Nx H3) := by
  obtain ⟨W, w0, w1⟩ := h
  refine ⟨W, w0, fun i m H h => (w1 i m H h).imp id fun ⟨go, Nx, h1, h2⟩ => ⟨go, Nx, h1, fun x H' y => ?_⟩⟩
  obtain ⟨G, E, d, E', F, r, e, h3⟩ := h2 x H' y
  refine ⟨B, G, E, d, E', F, r, e, fun σ' F' hj => ?_⟩
  obtain ⟨hw, G3, E3, b, E4, F3, e3, h4⟩ := h3 σ' F' hj
  refine ⟨hw, B, G3, E3, b, E4, F3, e3, fun G' H' F4 x4 => ?_⟩
  have h5 := h4 G' H' F4 x4
  cases b with
  | true =>
    simp only [if_true] at h5 ⊢
    exact ⟨B, h5⟩
  | false =>
    simp only [Bool.false_eq_true, if_false] at h5 ⊢
    exact h5
theorem g_compK {ifs : List Expr} {scope : Scope} {own : List (Str × Nat)} (hc : X.calm = true) (hN : X.N.Nodup) (hv : PE X iter (tVar i)) (ok : BlkOk X.N X.env.scope scope own) (hts : ∀ j ∈ tgS t, j ∈ own.map (·.2))
    (hg : ∀ B (s : Shared) (H : Hp) (A : Addr) (cl : List (Str × Addr)) (fp : List Addr), PG (X.blk s H scope (compEnvC scope cl A X.env) fp) tg (tG X.K B t)) (ht : ∀ B (s : Shared) (H : Hp) (A : Addr) (cl : List (Str × Addr)) (fp : List Addr), PTs (X.blk s H scope (compEnvC scope cl A X.env) fp) ifs (tT X.K B C ic))
    (he : ∀ B (s : Shared) (H : Hp) (A : Addr) (cl : List (Str × Addr)) (fp : List Addr), PE (X.blk s H scope (compEnvC scope cl A X.env) fp) elt (tE X.K B C ie)) (hs : ∀ x, foldedSetIterable iter X.env x = pure x) :
    Good X B C (.ListComp elt [⟨tg, iter, ifs, 0⟩] scope pos) (.comp ie t (.kys i) ic (own.map (·.2))) := by
  refine Good.ofA ⟨fun pins s σ H Q I ⟨G, E, d, E', F, ee, k⟩ => ?_⟩ (fun _ z => by cases z)
  have core := pe_lc (pos := pos) (g := xG X.K t) (tt := xT X.K C ic) (te := xE X.K C ie) hc hN (pi_ky hv) ok (fun s H A cl fp => pg_x (X := X.blk s H scope (compEnvC scope cl A X.env) fp) fun B => hg B s H A cl fp) (fun s H A cl fp => pts_x (X := X.blk s H scope (compEnvC scope cl A X.env) fp) fun B => ht B s H A cl fp) (fun s H A cl fp => pe_x (X := X.blk s H scope (compEnvC scope cl A X.env) fp) fun B => he B s H A cl fp) hs
  simp only [ev, Option.bind_eq_some_iff] at ee
  obtain ⟨⟨tk, E1⟩, e0, x, ex, xs, ei, e2⟩ := ee
  simp only at e2
  split at e2
  · rename_i hl
    simp only [Option.map_eq_some_iff] at e2
    obtain ⟨⟨ys, E2⟩, e2, eq⟩ := e2
    cases eq
    have e1 : (ev C (.kys i) E).map (fun p => (Tok.val p.1, p.2)) = some (tk, E1) := by
      simp only [ev]; exact e0
    clear e0
    simp only [Option.map_eq_some_iff] at e1
    obtain ⟨⟨z, E3⟩, e3, eq⟩ := e1
    cases eq
    cases ex
    obtain ⟨G1, a, u, zs, F1, x1, eσ, rfl, hl2, q, rd⟩ := kys_read F e3
    have hu := q.du
    cases ei
    have e2 : compL (assignT t) (own.map (·.2)) (ev C ic) (ev C ie) _ (wipes E3 (own.map (·.2))) = some (ys, E2) := e2
    rcases rd with rd | ⟨od, rd⟩
    · refine (pe_lock core).run pins s σ H Q I ⟨a, u, F1.sub _ _ rd, by rcases hu with ⟨_, rfl⟩ | ⟨_, rfl⟩ <;> trivial, fun od => ?_⟩
      have FL := F1.lock hu rd od
      have hB := h0_there F1 rd
      refine q.tk eσ upd_same (fun Dl hD => turns_x (comp_turns FL (fun j hj => hj) hts hD ((q.lk (lk_lock hu rd)).walk upd_same) (fun b hb => by simp at hb) e2 hl fun G2 H2 acc F2 X2 h2 r2 g2 m2 => ?_))
      have ha : Dl ≠ a := fun z => by rw [z, upd_same] at hD; cases hD
      have hD' : H Dl = none := by rw [upd_ne ha] at hD; exact hD
      refine ⟨F2.sub _ _ (lock_there X2.g), k _ _ _ (F2.unlock (lock_there X2.g) hB) (x1.trans (ext_unl rd (F1.sub _ _ rd) X2)) ?_⟩
      unfold AsgR
      rw [if_pos (show isFr (.comp ie t (.kys i) ic (own.map (·.2))) (.list ys) = true from rfl)]
      exact ⟨Dl, rfl, hD', by rw [upd_ne ha]; exact g2, F1.h0none hD', m2, acc, by rw [upd_ne ha]; exact h2, r2.lk (lk_unl (lock_there X2.g))⟩
    · refine core.run pins s σ H Q I ?_
      refine q.tk eσ (F1.sub _ _ rd) (fun Dl hD => turns_x (comp_turns F1 (fun j hj => hj) hts hD (q.walk rd) (fun b hb => by simp at hb) e2 hl fun G2 H2 acc F2 X2 h2 r2 g2 m2 => ?_))
      refine k _ G2 H2 F2 (x1.trans X2) ?_
      unfold AsgR
      rw [if_pos (show isFr (.comp ie t (.kys i) ic (own.map (·.2))) (.list ys) = true from rfl)]
      exact ⟨Dl, rfl, hD, g2, F1.h0none hD, m2, acc, h2, r2⟩
  · cases e2
end
end Pv

set_option Elab.async false
set_option linter.all false
set_option maxRecDepth 100000
set_option maxHeartbeats 2000000
/-! PvO: a, b = x, y. -/
namespace Pv
open PySem PySem.Spec L2
section
variable {K : PySem.W.Frag} {B : Bs} {G G' H H' Gs Hs : Hp} {E E' E1 : Env} {σ σ' : St} {C : Ctx}
inductive AsgRs (K : PySem.W.Frag) (B : Bs) (G H : Hp) (E : Env) (σ : St) : List IR → List V → List D → List Addr → Prop
  | nil : AsgRs K B G H E σ [] [] [] []
  | fr {ir : IR} {irs : List IR} {a : Addr} {vs : List V} {d : D} {ds : List D} {fr : List Addr} : isFr ir d = true → G a = none → B.H0 a = none → ¬ Mn E σ a → Own K G H a d → a ∉ fr → AsgRs K B G H E σ irs vs ds fr →
      AsgRs K B G H E σ (ir :: irs) (.ref a :: vs) (d :: ds) (a :: fr)
  | sh {ir : IR} {irs : List IR} {v : V} {vs : List V} {d : D} {ds : List D} {fr : List Addr} : isFr ir d = false → Rp K G v d → AsgRs K B G H E σ irs vs ds fr → AsgRs K B G H E σ (ir :: irs) (v :: vs) (d :: ds) fr
def tAs (K : PySem.W.Frag) (B : Bs) (C : Ctx) (irs : List IR) : TA := fun σ H Q => ∃ G E ds E', Frm K B G H E σ ∧ evs C irs E = some (ds, E') ∧ ∀ vs G' H' fr, Frm K B G' H' E' σ → Ext σ E E' G H G' H' → AsgRs K B G' H' E' σ irs vs ds fr → (∀ b ∈ fr, H b = none) → Q vs H'
theorem AsgRs.len {irs : List IR} {vs : List V} {ds : List D} {fr : List Addr} (h : AsgRs K B G H E σ irs vs ds fr) : vs.length = ds.length ∧ irs.length = ds.length := by
  induction h with
  | nil => exact ⟨rfl, rfl⟩
  | fr _ _ _ _ _ _ _ ih => simp [ih.1, ih.2]
  | sh _ _ _ ih => simp [ih.1, ih.2]
/-- to a state in which more may be seen, and the new ones stand as they stood -/
theorem AsgRs.move {irs : List IR} {vs : List V} {ds : List D} {fr : List Addr} (h : AsgRs K B G H E σ irs vs ds fr) (s : Same G G') (k : ∀ a ∈ fr, G' a = none ∧ H' a = H a ∧ ¬ Mn E' σ' a) : AsgRs K B G' H' E' σ' irs vs ds fr := by
  induction h with
  | nil => exact .nil
  | fr h1 h2 h3 h4 h5 h6 _ ih =>
    obtain ⟨k1, k2, k3⟩ := k _ List.mem_cons_self
    exact .fr h1 k1 h3 k3 (h5.up s k2) h6 (ih fun a m => k a (List.mem_cons_of_mem _ m))
  | sh h1 h2 _ ih => exact .sh h1 (h2.up s) (ih k)
theorem AsgRs.at {irs : List IR} {vs : List V} {ds : List D} {fr : List Addr} (h : AsgRs K B G H E σ irs vs ds fr) : ∀ a ∈ fr, G a = none ∧ (∃ o, H a = some o) ∧ ¬ Mn E σ a := by
  induction h with
  | nil => intro a m; simp at m
  | fr h1 h2 h3 h4 h5 h6 _ ih =>
    intro a m
    rcases List.mem_cons.mp m with rfl | m
    · exact ⟨h2, h5.there, h4⟩
    · exact ih a m
  | sh _ _ _ ih => exact ih
def setN (σ : St) : List Nat → List V → St
  | i :: is, v :: vs => setN (σ.set i (some v)) is vs
  | _, _ => σ
theorem par_fin : ∀ {is : List Nat} {irs : List IR} {vs : List V} {ds : List D} {fr : List Addr} {E : Env} {σ : St}, Frm K B G H E σ → AsgRs K B G H E σ irs vs ds fr → parL is irs ds E = some E' → Frm K B G H E' (setN σ is vs)
  | [], _, _, _, _, E, σ, F, h, e => by
    cases h <;> simp only [parL] at e <;> cases e
    exact F
  | i :: is, [], vs, ds, fr, E, σ, F, h, e => by
    cases h
    simp [parL] at e
  | i :: is, ir :: irs, vs, ds, fr, E, σ, F, h, e => by
    cases h with
    | @fr _ _ a vs' d ds' fr' h1 h2 h3 h4 h5 h6 t =>
      simp only [parL, Option.bind_eq_some_iff] at e
      obtain ⟨E1, e1, e2⟩ := e
      have ea := setV_at e1
      simp only [h1, if_true] at ea
      have F1 : Frm K B G H E1 (σ.set i (some (.ref a))) := by rw [ea]; exact F.setOw (Hs := fun _ => none) ⟨a, rfl, rfl, h2, h3, h4, h5⟩
      show Frm K B G H E' (setN (σ.set i (some (.ref a))) is vs')
      refine par_fin F1 (t.move (Same.refl _) fun b m => ?_) e2
      obtain ⟨k1, k2, k3⟩ := t.at b m
      refine ⟨k1, rfl, ?_⟩
      rintro ⟨j, wj, ej⟩
      by_cases q : j = i
      · subst q
        by_cases l : j < σ.length
        · rw [List.getElem?_set_self l] at ej
          cases ej
          exact h6 m
        · rw [List.getElem?_eq_none (by rw [List.length_set]; omega)] at ej
          cases ej
      · rw [List.getElem?_set_ne (Ne.symm q)] at ej
        refine k3 ⟨j, ?_, ej⟩
        rw [ea] at wj
        by_cases l : i < E.length
        · unfold Wr at wj ⊢
          rw [gets_set l, if_neg q] at wj
          exact wj
        · rw [List.set_eq_of_length_le (by omega)] at wj
          exact wj
    | @sh _ _ v vs' d ds' fr' h1 h2 t =>
      simp only [parL, Option.bind_eq_some_iff] at e
      obtain ⟨E1, e1, e2⟩ := e
      have ea := setV_at e1
      simp only [h1, Bool.false_eq_true, if_false] at ea
      have F1 : Frm K B G H E1 (σ.set i (some v)) := by rw [ea]; exact F.setSh h2
      show Frm K B G H E' (setN (σ.set i (some v)) is vs')
      refine par_fin F1 (t.move (Same.refl _) fun b m => ?_) e2
      obtain ⟨k1, k2, k3⟩ := t.at b m
      refine ⟨k1, rfl, ?_⟩
      rintro ⟨j, wj, ej⟩
      rw [ea] at wj
      by_cases l : i < E.length
      · unfold Wr at wj
        rw [gets_set l] at wj
        by_cases q : j = i
        · simp [q] at wj
        · rw [if_neg q] at wj
          rw [List.getElem?_set_ne (Ne.symm q)] at ej
          exact k3 ⟨j, wj, ej⟩
      · rw [List.set_eq_of_length_le (by omega)] at wj
        rw [List.set_eq_of_length_le (by rw [← F.len]; omega)] at ej
        exact k3 ⟨j, wj, ej⟩
end
section
variable {X : Cx} {B : Bs} {C : Ctx} {e a b c o tg iter elt : Expr} {es : List Expr} {ir ia ib ic io is ie : IR} {irs : List IR} {ns : List Nat} {t : Tg} {pos apos cpos np p : Pos} {x : Str} {i : Nat} {st : Stmt} {rest body orelse : List Stmt} {s : SIR} {ss sb : List SIR}
theorem ga_nil : PA X [] (tAs X.K B C []) := PA.imp pa_nil fun σ H Q ⟨G, E, ds, E', F, ee, k⟩ => by
  simp only [evs] at ee
  cases ee
  exact k [] G H [] F Ext.refl .nil fun _ h => by simp at h
theorem ga_cons (ha : Good X B C e ir) (hs : PA X es (tAs X.K B C irs)) (ns : notStar e = true) : PA X (e :: es) (tAs X.K B C (ir :: irs)) := PA.imp (pa_cons ha.A hs (star_cons ns)) fun σ H Q ⟨G, E, ds, E', F, ee, k⟩ => by
  simp only [evs, Option.bind_eq_some_iff, Option.map_eq_some_iff] at ee
  obtain ⟨⟨d, E1⟩, e1, ⟨ds', E2⟩, e2, eq⟩ := ee
  cases eq
  refine ⟨G, E, d, E1, F, e1, fun v G1 H1 F1 X1 r1 => ⟨G1, E1, ds', _, F1, e2, fun vs G2 H2 fr F2 X2 r2 hf => ?_⟩⟩
  unfold AsgR at r1
  by_cases c : isFr ir d = true
  · rw [if_pos c] at r1
    obtain ⟨a, rfl, hs, g, h0, m, ow⟩ := r1
    obtain ⟨y, ey, nt⟩ := ow.thereN
    have q1 := X2.h a y ey m
    have q2 := X2.n a y nt ey m g
    refine k _ G2 H2 (a :: fr) F2 (X1.trans X2) (.fr c q2 h0 (X2.mn m) (ow.up X2.g (q1.trans ey.symm)) (fun z => ?_) r2) fun b hb => ?_
    · rw [hf a z] at ey; cases ey
    · rcases List.mem_cons.mp hb with rfl | hb
      · exact hs
      · exact X1.gone (hf b hb)
  · rw [if_neg c] at r1
    exact k _ G2 H2 fr F2 (X1.trans X2) (.sh (by simpa using c) (r1.up X2.g) r2) fun b hb => X1.gone (hf b hb)
theorem par_core {D : Ends} {σ : St} {H : Hp} (h : tS X.K B C (.par ns irs) D σ H) : tAs X.K B C irs σ H fun vs H1 => vs.length = irs.length ∧ ns.length = irs.length ∧ D.nx (setN σ ns vs) H1 ∧ ∀ p, H1 p = none → D.nx (setN σ ns vs) (upd H1 p (.tup vs)) := by
  obtain ⟨G, E, ou, F, ee, k⟩ := h
  simp only [exec, Option.bind_eq_some_iff, Option.map_eq_some_iff] at ee
  obtain ⟨⟨ds, E1⟩, e1, E2, e2, rfl⟩ := ee
  have pl : ∀ {ns : List Nat} {irs : List IR} {ds : List Pv.D} {E E' : Env}, parL ns irs ds E = some E' → ns.length = irs.length := by
    intro ns
    induction ns with
    | nil => intro irs ds E E' h; cases irs <;> simp [parL] at h ⊢
    | cons i r ih =>
      intro irs ds E E' h
      cases irs with
      | nil => simp [parL] at h
      | cons a r' =>
        cases ds with
        | nil => simp [parL] at h
        | cons d r'' =>
          simp only [parL, Option.bind_eq_some_iff] at h
          obtain ⟨E1, _, h2⟩ := h
          simp [ih h2]
  refine ⟨G, E, ds, E1, F, e1, fun vs G1 H1 fr F1 X1 r1 hf => ⟨by rw [r1.len.1, r1.len.2], pl e2, k _ G1 H1 (par_fin F1 r1 e2) X1.g, fun p hp => ?_⟩⟩
  have r2 : AsgRs X.K B G1 (upd H1 p (.tup vs)) E1 σ irs vs ds fr := r1.move (Same.refl _) fun b m => by
    obtain ⟨k1, ⟨y, ey⟩, k3⟩ := r1.at b m
    exact ⟨k1, upd_ne (ne_of_none ey hp), k3⟩
  exact k _ G1 _ (par_fin (F1.alloc _ hp) r2 e2) X1.g
theorem s_par2 {i j : Nat} {ia ib : IR} (he : PS X st (tPar i j (tAs X.K B C [ia, ib]))) : PS X st (tS X.K B C (.par [i, j] [ia, ib])) := PS.imp he fun D σ H h => by
  have q := par_core h
  obtain ⟨G, E, ds, E', F, ee, k⟩ := q
  refine ⟨G, E, ds, E', F, ee, fun vs G1 H1 fr F1 X1 r1 hf => ?_⟩
  obtain ⟨l, _, n, _⟩ := k vs G1 H1 fr F1 X1 r1 hf
  match vs, l with
  | [v, w], _ => exact ⟨v, w, rfl, n⟩
theorem s_par3 {i j l : Nat} {ia ib ic : IR} (he : PS X st (tPar3 i j l (tAs X.K B C [ia, ib, ic]))) : PS X st (tS X.K B C (.par [i, j, l] [ia, ib, ic])) := PS.imp he fun D σ H h => by
  have q := par_core h
  obtain ⟨G, E, ds, E', F, ee, k⟩ := q
  refine ⟨G, E, ds, E', F, ee, fun vs G1 H1 fr F1 X1 r1 hf => ?_⟩
  obtain ⟨l, _, n, _⟩ := k vs G1 H1 fr F1 X1 r1 hf
  match vs, l with
  | [u, v, w], _ => exact ⟨u, v, w, rfl, n⟩
def gNs : List Nat → TGs
  | [] => gNil
  | i :: r => gCons (gName i) (gNs r)
theorem gNs_set : ∀ {ns : List Nat} {vs : List V} {σ : St} {H : Hp} {Q : St → Hp → Prop}, vs.length = ns.length → Q (setN σ ns vs) H → gNs ns vs σ H Q
  | [], [], _, _, _, _, q => ⟨rfl, q⟩
  | [], _ :: _, _, _, _, l, _ => by simp at l
  | _ :: _, [], _, _, _, l, _ => by simp at l
  | i :: r, v :: vs, σ, H, Q, l, q => ⟨v, vs, rfl, gNs_set (ns := r) (vs := vs) (σ := σ.set i (some v)) (by simpa using l) q⟩
theorem s_parT {k1 n : Nat} {ts : List Expr} {ps : Pos} (hc : X.calm = true) (ha : PA X es (tAs X.K B C irs)) (hg : PG X (.Tuple ts k1 np) (gTup X.K n (gNs ns))) (hl : es.length = n) (hl2 : es.length = irs.length) (hz : es.length ≤ 1000) {x1 : Nat}
    (hs : swapsWithSole [.Tuple ts k1 np] (.Tuple es x1 ps) pos.line X.env = pure false) (hw : swappedStores [.Tuple ts k1 np] (.Tuple es x1 ps) X.env = pure none) :
    PS X (.Assign [.Tuple ts k1 np] (.Tuple es x1 ps) pos) (tS X.K B C (.par ns irs)) := PS.imp (ps_asg (pe_tup ha) hg hs hw) fun D σ H h => by
  have q := par_core h
  obtain ⟨G, E, ds, E', F, ee, k⟩ := q
  refine ⟨G, E, ds, E', F, ee, fun vs G1 H1 fr F1 X1 r1 hf => ?_⟩
  obtain ⟨l, l2, _, m⟩ := k vs G1 H1 fr F1 X1 r1 hf
  exact ⟨by rw [sl_eq]; show vs.length ≤ 16777216; omega, fun p hp => ⟨p, vs, rfl, SqT.of upd_same, by omega, gNs_set (by omega) (m p hp)⟩⟩
/-- x, l[k] = (a, b), ints in a list -/
theorem s_parS {i j k1 : Nat} {t1 t2 a1 a2 : Expr} {ra rb : IR} {ps : Pos} (hc : X.calm = true) (ha : PA X [a1, a2] (tAs X.K B C [ra, rb])) (hg : PG X (.Tuple [t1, t2] k1 np) (gTup X.K 2 (gCons (gName i) (gCons (gSub (tVar j) (tE X.K B C ia) rSetL) gNil)))) {x1 : Nat}
    (hs : swapsWithSole [.Tuple [t1, t2] k1 np] (.Tuple [a1, a2] x1 ps) pos.line X.env = pure false) (hw : swappedStores [.Tuple [t1, t2] k1 np] (.Tuple [a1, a2] x1 ps) X.env = pure none) :
    PS X (.Assign [.Tuple [t1, t2] k1 np] (.Tuple [a1, a2] x1 ps) pos) (tS X.K B C (.parS i j ia ra rb)) := PS.imp (ps_asg (pe_tup ha) hg hs hw) fun D σ H ⟨G, E, ou, F, ee, k⟩ => by
  simp only [exec, Option.bind_eq_some_iff, Option.map_eq_some_iff] at ee
  obtain ⟨⟨ds, E1⟩, e1, ⟨a, b⟩, e2, E2, e3, x0, ex0, ⟨kd, E3⟩, e4, x2, ex2, xs, exs, x3, ex3, E4, e5, rfl⟩ := ee
  have ed : ds = [.int a, .int b] := by
    unfold ii2 at e2
    split at e2
    · rename_i he; cases e2; exact he
    · cases e2
  have el : x2 = .list xs := by
    unfold lsM at exs
    split at exs
    · cases exs; first | rfl | assumption
    · cases exs
  subst ed el
  refine ⟨G, E, [.int a, .int b], E1, F, e1, fun vs G1 H1 fr F1 X1 r1 hf => ?_⟩
  have ev2 : vs = [.int a, .int b] := by
    cases r1 with
    | fr _ _ _ _ o _ _ => exact o.elim
    | sh _ r t =>
      cases r
      cases t with
      | fr _ _ _ _ o _ _ => exact o.elim
      | sh _ r t => cases r; cases t; rfl
  subst ev2
  refine ⟨by rw [sl_eq]; show (2 : Nat) ≤ 16777216; omega, fun p hp => ⟨p, _, rfl, SqT.of upd_same, rfl, ?_⟩⟩
  refine ⟨_, _, rfl, ?_⟩
  refine ⟨_, _, rfl, ?_⟩
  have F1' := F1.alloc (o := .tup [.int a, .int b]) hp
  have F2 := F1'.setSh (i := i) (v := .int a) (d := .int a) (.int a)
  rw [show E1.set i (.sh (.int a)) = E2 from (setV_at e3).symm] at F2
  obtain ⟨l, el, _, _⟩ := F2.wr ex0
  refine ⟨_, el, G1, E2, kd, E3, F2, e4, fun w G2 H2 F3 X2 r2 => ?_⟩
  obtain ⟨l2, el2, g2, ys, hl2, rl2⟩ := F3.wr ex2
  rw [el] at el2; cases el2
  cases kd <;> simp only [setItem] at ex3 <;> first | cases ex3 | skip
  rename_i ki
  simp only [Option.map_eq_some_iff] at ex3
  obtain ⟨m, em, rfl⟩ := ex3
  cases r2
  have hn : Own X.K G2 (upd H2 l (.lst (ys.set m (.int b)))) l (.list (xs.set m (.int b))) := ⟨_, upd_same, rl2.set m (.int b)⟩
  obtain ⟨F4, X4⟩ := F3.put (o := .lst (ys.set m (.int b))) e5 el hn
  exact ⟨l, ys, ki, m, rfl, rfl, hl2, by rw [rl2.len]; exact em, rfl, k _ G2 _ F4 ((X1.g.trans X2.g).trans X4.g)⟩
end
end Pv

set_option Elab.async false
set_option linter.all false
set_option maxRecDepth 100000
set_option maxHeartbeats 4000000
/-! PvP: is this IR what this syntax says? Once proved sound. -/
namespace Pv
open PySem PySem.Spec L2
structure Sc where
  N : List Str
  sc : Scope
  fn : Str → Bool
structure GE where
  fs : List (Str × Nat × Nat)
  cs : List (Str × Nat)
  free : List Str
def visB (sc : Scope) (x : Str) : Bool := match sc.names.lookup x with
  | some .local => true
  | some .cell => true
  | some .free => true
  | _ => false
def slotB (S : Sc) (x : Str) (i : Nat) : Bool := decide (S.N[i]? = some x) && visB S.sc x && decide ((x == ("__debug__" : Str)) = false) && decide ((x == ("__classdict__" : Str)) = false)
def locB (S : Sc) (x : Str) (i : Nat) : Bool := decide (S.N[i]? = some x) && (match S.sc.names.lookup x with
  | some .local => true
  | some .cell => S.fn x
  | _ => false)
def globB (S : Sc) (x : Str) : Bool := decide (S.sc.names.lookup x = some .globalImplicit) && decide ((x == ("__debug__" : Str)) = false)
def notSet : Expr → Bool
  | .Set _ _ _ => false
  | _ => true
def notSlice : Expr → Bool
  | .Slice _ _ _ _ => false
  | _ => true
def noneK : IR → Bool
  | .k .none => true
  | _ => false
def varK : IR → Option Nat
  | .var i => some i
  | _ => none
def chkL (f : IR → Expr → Bool) : List IR → List Expr → Bool
  | [], [] => true
  | a :: r, e :: s => f a e && notStar e && chkL f r s
  | _, _ => false
def chkIo (S : Sc) : List Nat → List Expr → Bool
  | [], [] => true
  | i :: r, e :: s => (match e with | .Name x _ => slotB S x i | _ => false) && chkIo S r s
  | _, _ => false
def chkD (f : IR → Expr → Bool) : List (IR × IR) → List (Option Expr) → List Expr → Bool
  | [], [], [] => true
  | (a, b) :: r, some k :: ks, v :: vs => f a k && f b v && chkD f r ks vs
  | _, _, _ => false
def unflat : List IR → List (IR × IR)
  | a :: b :: r => (a, b) :: unflat r
  | _ => []
def chkO (f : IR → Expr → Bool) (ir : IR) : Option Expr → Bool
  | none => noneK ir
  | some e => !noneK ir && f ir e
mutual
def chkT (S : Sc) : Tg → Expr → Bool
  | .name i, e => match e with
    | .Name x _ => locB S x i
    | _ => false
  | .tup ts, e => match e with
    | .Tuple es _ _ => chkTs S ts es
    | _ => false
def chkTs (S : Sc) : List Tg → List Expr → Bool
  | [], es => match es with
    | [] => true
    | _ => false
  | t :: r, es => match es with
    | e :: s => chkT S t e && notStar e && chkTs S r s
    | [] => false
end
/-- may it be asked as a test -/
def tst : Nat → Expr → Bool
  | 0, _ => false
  | n + 1, e => match e with
    | .UnaryOp .Not x _ => tst n x
    | .BoolOp op vs pos => match vs with
      | [] => false
      | [x] => tst n x
      | x :: r => tst n x && tst n (.BoolOp op r pos)
    | .IfExp .. => false
    | _ => true
def relSc (S : Sc) (scope : Scope) : Sc := ⟨S.N, relS scope S.sc, fun x => scope.names.lookup x == some .cell⟩
def ownOf (N : List Str) (scope : Scope) (vs : List Nat) : List (Str × Nat) := vs.map fun i => (N.getD i "", i)
/-- what a loop walks -/
def isTupE : Expr → Bool
  | .Tuple .. => true
  | _ => false
def chkS (g : GE) (S : Sc) (f : IR → Expr → Bool) (tg : Expr) (is : IR) (it : Expr) : Bool := match is, it with
  | .zip a b, .Call (.Name x _) [ea, eb] [] _ => decide (x = ("zip" : Str)) && globB S x && decide (x ∈ g.free) && notStar ea && notStar eb && f a ea && f b eb && isTupE tg
  | .rng [a], .Call (.Name x _) [ea] [] _ => decide (x = ("range" : Str)) && globB S x && decide (x ∈ g.free) && notStar ea && f a ea
  | .rgs [a, b, c], .Call (.Name x _) [ea, eb, ec] [] _ => decide (x = ("range" : Str)) && globB S x && decide (x ∈ g.free) && notStar ea && notStar eb && notStar ec && f a ea && f b eb && f c ec
  | .rng [a, b], .Call (.Name x _) [ea, eb] [] _ => decide (x = ("range" : Str)) && globB S x && decide (x ∈ g.free) && notStar ea && notStar eb && f a ea && f b eb
  | .kys i, it => (match it with
    | .Name x _ => slotB S x i
    | _ => false)
  | is, it => f is it
def notK : IR → Bool
  | .kys _ => false
  | _ => true
def chkRg (g : GE) (S : Sc) (f : IR → Expr → Bool) (irs : List IR) (e : Expr) : Bool := match irs, e with
  | [a], .Call (.Name x _) [ea] [] _ => decide (x = ("range" : Str)) && globB S x && decide (x ∈ g.free) && notStar ea && f a ea
  | [a, b], .Call (.Name x _) [ea, eb] [] _ => decide (x = ("range" : Str)) && globB S x && decide (x ∈ g.free) && notStar ea && notStar eb && f a ea && f b eb
  | _, _ => false
def chkIf (f : Expr → Bool) (h : IR → Expr → Bool) (ic : IR) (ifs : List Expr) : Bool := match ifs with
  | [] => (match ic with | .k (.bool true) => true | _ => false)
  | [c] => f c && h ic c
  | _ => false
def chk (g : GE) : Nat → Sc → IR → Expr → Bool
  | 0, _, _, _ => false
  | n + 1, S, ir, e => match ir, e with
    | .fz a, e => chk g n S a e
    | .k d, .Constant c _ _ => match d, c with
      | .none, .none => true
      | .bool b, .bool b' => b == b'
      | .int i, .int i' => i == i'
      | .str x, .str x' => decide (x = x')
      | _, _ => false
    | .var i, .Name x _ => slotB S x i
    | .glb k, .Name x _ => globB S x && decide (g.cs.lookup x = some k)
    | .bin o a b, .BinOp ea op eb _ => decide (op = opOf o) && chk g n S a ea && chk g n S b eb
    | .neg a, .UnaryOp .USub ea _ => chk g n S a ea
    | .not a, .UnaryOp .Not ea _ => chk g n S a ea
    | .cmp o a b, .Compare ea [op] [eb] _ => decide (op = copOf o) && notSet eb && chk g n S a ea && chk g n S b eb
    | .chain o1 o2 a b c, .Compare ea [p1, p2] [eb, ec] _ => decide (p1 = copOf o1) && decide (p2 = copOf o2) && notSet ec && chk g n S a ea && chk g n S b eb && chk g n S c ec
    | .chn3 o1 o2 o3 a b c d, .Compare ea [p1, p2, p3] [eb, ec, ed] _ => decide (p1 = copOf o1) && decide (p2 = copOf o2) && decide (p3 = copOf o3) && notSet ed && chk g n S a ea && chk g n S b eb && chk g n S c ec && chk g n S d ed
    | .and a b, .BoolOp .And (x :: y :: r) pos => chk g n S a x && chk g n S b (.BoolOp .And (y :: r) pos)
    | .or a b, .BoolOp .Or (x :: y :: r) pos => chk g n S a x && chk g n S b (.BoolOp .Or (y :: r) pos)
    | ir, .BoolOp _ [x] _ => chk g n S ir x
    | .ite c a b, .IfExp ec ea eb _ => tst n ec && chk g n S c ec && chk g n S a ea && chk g n S b eb
    | .tup xs, .Tuple es _ _ => chkL (chk g n S) xs es
    | .lst xs, .List es _ => chkL (chk g n S) xs es
    | .dctT, .Dict [] [] _ => true
    | .dct xs, .Dict ks vs _ => decide (ks.length ≤ 15) && decide (xs.length = 2 * ks.length) && chkD (chk g n S) (unflat xs) ks vs
    | .idx a i, .Subscript x y _ => notSlice y && chk g n S a x && chk g n S i y
    | .slc a lo hi, .Subscript x (.Slice l h none _) _ => chk g n S a x && chkO (chk g n S) lo l && chkO (chk g n S) hi h
    | .rev a, .Subscript x (.Slice none none (some (.UnaryOp .USub (.Constant (.int 1) _ _) _)) _) _ => chk g n S a x
    | .call f ios args, .Call (.Name x _) es [] _ => globB S x && decide (g.fs.lookup x = some (f, ios.length + args.length)) && chkIo S ios (es.take ios.length) && chkL (chk g n S) args (es.drop ios.length) && decide ios.Nodup
    | .callB f is, .Call (.Name x _) es [] _ => globB S x && decide (g.fs.lookup x = some (f, is.length)) && chkIo S is es && !es.isEmpty
    | .blt b args, .Call (.Name x _) (e0 :: es) [] _ => decide (x = Str.ofString (bltS b)) && globB S x && decide (x ∈ g.free) && chkL (chk g n S) args (e0 :: es)
    | .srs a, .Call (.Name x _) [.Call (.Name y _) [ea] [] _] [] _ => decide (x = ("sorted" : Str)) && decide (y = ("set" : Str)) && globB S x && globB S y && decide (x ∈ g.free) && decide (y ∈ g.free) && notStar ea && chk g n S a ea
    | .lix o a, .Call (.Attribute eo m apos) [ea] [] cpos => decide (m = ("index" : Str)) && notCall0 eo && notStar ea && (apos.endLine == cpos.line) && chk g n S o eo && chk g n S a ea
    | .cnt o a, .Call (.Attribute eo m apos) [ea] [] cpos => decide (m = ("count" : Str)) && notCall0 eo && notStar ea && (apos.endLine == cpos.line) && chk g n S o eo && chk g n S a ea
    | .mth .get1 o [a], .Call (.Attribute eo m apos) [ea] [] cpos => decide (m = ("get" : Str)) && notCall0 eo && notStar ea && (apos.endLine == cpos.line) && chk g n S o eo && chk g n S a ea
    | .mth .get2 o [a, b], .Call (.Attribute eo m apos) [ea, eb] [] cpos => decide (m = ("get" : Str)) && notCall0 eo && notStar ea && notStar eb && (apos.endLine == cpos.line) && chk g n S o eo && chk g n S a ea && chk g n S b eb
    | .mut m i args, .Call (.Attribute (.Name x _) nm apos) es [] cpos => decide (nm = mutN m) && slotB S x i && (apos.endLine == cpos.line) && decide (es.length < 30) && (match m with | .pop => args.isEmpty && es.isEmpty | _ => !es.isEmpty) && chkL (chk g n S) args es
    | .upd i a, .Call (.Attribute (.Name x _) nm apos) [ea] [] cpos => decide (nm = ("update" : Str)) && slotB S x i && (apos.endLine == cpos.line) && notStar ea && chk g n S a ea
    | .comp ie t is ic vs, .ListComp elt [⟨tg, it, ifs, 0⟩] scope _ =>
      blkC S.N S.sc scope (ownOf S.N scope vs) && (tgS t).all (fun j => vs.contains j) && notSet it && chkS g S (chk g n S) tg is it &&
      chkT (relSc S scope) t tg && (match ifs with
        | [] => (match ic with | .k (.bool true) => true | _ => false)
        | [c] => tst n c && chk g n (relSc S scope) ic c
        | _ => false) && chk g n (relSc S scope) ie elt
    | .lrg args, .Call (.Name x _) [er] [] _ => decide (x = ("list" : Str)) && globB S x && decide (x ∈ g.free) && chkRg g S (chk g n S) args er
    | .lrs [a, b, c], .Call (.Name x _) [.Call (.Name y _) [ea, eb, ec] [] _] [] _ => decide (x = ("list" : Str)) && decide (y = ("range" : Str)) && globB S x && globB S y && decide (x ∈ g.free) && decide (y ∈ g.free) && notStar ea && notStar eb && notStar ec && chk g n S a ea && chk g n S b eb && chk g n S c ec
    | .lzp [a, b], .Call (.Name x _) [.Call (.Name y _) [ea, eb] [] _] [] _ => decide (x = ("list" : Str)) && decide (y = ("zip" : Str)) && globB S x && globB S y && decide (x ∈ g.free) && decide (y ∈ g.free) && notStar ea && notStar eb && chk g n S a ea && chk g n S b eb
    | .trg args, .Call (.Name x _) [er] [] _ => decide (x = ("tuple" : Str)) && globB S x && decide (x ∈ g.free) && chkRg g S (chk g n S) args er
    | .inr b a args, .Compare ea [op] [er] _ => decide (op = if b then .NotIn else .In) && chk g n S a ea && chkRg g S (chk g n S) args er
    | .isi a t, .Call (.Name x _) [ea, .Name y _] [] _ => decide (x = ("isinstance" : Str)) && decide (y = Str.ofString (tyN t)) && globB S x && globB S y && decide (x ∈ g.free) && decide (y ∈ g.free) && notStar ea && chk g n S a ea
    | .comp2 ie t is ic vs t1 is1 ic1 vs1, .ListComp elt [⟨tg, it, ifs, 0⟩, ⟨tg1, it1, ifs1, 0⟩] scope _ =>
      blkC S.N S.sc scope (ownOf S.N scope vs) && (tgS t).all (fun j => vs.contains j) && (tgS t1).all (fun j => vs1.contains j) && vs1.all (fun j => vs.contains j) && notSet it && notSet it1 && chkS g S (chk g n S) tg is it &&
      chkS g (relSc S scope) (chk g n (relSc S scope)) tg1 is1 it1 && chkT (relSc S scope) t tg && chkT (relSc S scope) t1 tg1 &&
      chkIf (tst n) (chk g n (relSc S scope)) ic ifs && chkIf (tst n) (chk g n (relSc S scope)) ic1 ifs1 && chk g n (relSc S scope) ie elt && notK is && notK is1
    | _, _ => false
structure XOk (g : GE) (C : Ctx) (X : Cx) (S : Sc) : Prop where
  N : X.N = S.N
  sc : X.env.scope = S.sc
  fn : X.fn = S.fn
  calm : X.calm = true
  nd : X.N.Nodup
  hu : X.A.units + 65 < cLine
  fs : ∀ x id np, g.fs.lookup x = some (id, np) → ∃ k f fd ps, FnOk X.prog X.w X.K X.mg X.base CX0 k f fd ps (spF X.K C.cf id np) ∧ Room k X.A ∧ X.mg x = some (.ref f) ∧ PySem.W.keepIn X.K (.ref f) = true ∧ Binds X.K fd ps []
  fr : ∀ x ∈ g.free, X.mg x = none
  cs : ∀ x k, g.cs.lookup x = some k → ∃ u v d, X.mg x = some u ∧ RelV v u ∧ C.gl[k]? = some d ∧ ∀ G, Rp X.K G v d
section
variable {g : GE} {C : Ctx} {X : Cx} {S : Sc} {B : Bs}
theorem XOk.blk (h : XOk g C X S) (s : Shared) (H : Hp) (scope : Scope) (A : Addr) (cl : List (Str × Addr)) (fp : List Addr) : XOk g C (X.blk s H scope (compEnvC scope cl A X.env) fp) (relSc S scope) where
  N := h.N
  sc := by
    show relS scope X.env.scope = relS scope S.sc
    rw [h.sc]
  fn := rfl
  calm := h.calm
  nd := h.nd
  hu := h.hu
  fs := h.fs
  fr := h.fr
  cs := h.cs
theorem vis_of (h : XOk g C X S) {x : Str} (v : visB S.sc x = true) : Vis X.env.scope x := by
  unfold visB at v
  unfold Vis
  rw [h.sc]
  split at v
  · exact .inl (by assumption)
  · exact .inr (.inl (by assumption))
  · exact .inr (.inr (by assumption))
  · cases v
theorem slot_pe (h : XOk g C X S) {x : Str} {i : Nat} {pos : Pos} (v : slotB S x i = true) : PE X (.Name x pos) (tVar i) := by
  unfold slotB at v
  simp only [Bool.and_eq_true, decide_eq_true_eq] at v
  obtain ⟨⟨⟨v1, v2⟩, v3⟩, v4⟩ := v
  exact pe_var (by rw [h.N]; exact v1) (vis_of h v2) v3 v4
theorem loc_pg (h : XOk g C X S) {x : Str} {i : Nat} {pos : Pos} (v : locB S x i = true) : PG X (.Name x pos) (gName i) ∧ X.N[i]? = some x ∧ L2.Loc X.env.scope x ∧ (X.fn x = true ∨ X.env.scope.names.lookup x = some .local) := by
  unfold locB at v
  simp only [Bool.and_eq_true, decide_eq_true_eq] at v
  obtain ⟨v1, v2⟩ := v
  have hi : X.N[i]? = some x := by rw [h.N]; exact v1
  have key : L2.Loc X.env.scope x ∧ (X.fn x = true ∨ X.env.scope.names.lookup x = some .local) := by
    unfold L2.Loc
    rw [h.sc]
    split at v2
    · rename_i e; exact ⟨.inl e, .inr e⟩
    · rename_i e; exact ⟨.inr e, .inl (by rw [h.fn]; exact v2)⟩
    · cases v2
  exact ⟨pg_name h.nd hi key.1 key.2, hi, key.1, key.2⟩
theorem glob_of (h : XOk g C X S) {x : Str} (v : globB S x = true) : Gl X x ∧ (x == ("__debug__" : Str)) = false := by
  unfold globB at v
  simp only [Bool.and_eq_true, decide_eq_true_eq] at v
  exact ⟨by show X.env.scope.names.lookup x = _; rw [h.sc]; exact v.1, v.2⟩
mutual
theorem chkT_ok (h : XOk g C X S) : ∀ (t : Tg) (e : Expr), chkT S t e = true → PG X e (tG X.K B t)
  | .name i, e, v => by
    simp only [chkT] at v
    split at v
    · exact tg_name (loc_pg h v).1
    · cases v
  | .tup ts, e, v => by
    simp only [chkT] at v
    split at v
    · obtain ⟨h1, h2, h3⟩ := chkTs_ok h ts _ v
      exact tg_tup h.calm h1 h2 h3
    · cases v
theorem chkTs_ok (h : XOk g C X S) : ∀ (ts : List Tg) (es : List Expr), chkTs S ts es = true → PGs X es (tGs X.K B ts) ∧ es.length = ts.length ∧ es.all notStar = true
  | [], es, v => by
    cases es with
    | nil => exact ⟨tgs_nil, rfl, rfl⟩
    | cons => simp [chkTs] at v
  | t :: ts, es, v => by
    cases es with
    | nil => simp [chkTs] at v
    | cons e es =>
      simp only [chkTs, Bool.and_eq_true] at v
      obtain ⟨h1, h2, h3⟩ := chkTs_ok h ts es v.2
      exact ⟨tgs_cons (chkT_ok h t e v.1.1) h1 v.1.2, by simp [h2], by simp [v.1.2, h3]⟩
end
end
end Pv

set_option Elab.async false
set_option linter.all false
set_option maxRecDepth 100000
set_option maxHeartbeats 8000000
/-! PvQ: the check is sound: expressions. -/
namespace Pv
open PySem PySem.Spec L2
section
variable {g : GE} {C : Ctx} {X : Cx} {S : Sc} {B : Bs}
theorem nomk {op : CmpOp} {e : Expr} (h : notSet e = true) : behindInMarks op e = false := by
  cases e <;> first | rfl | simp [notSet] at h
theorem lastmk {o o' : CmpOp} {b c : Expr} (h : notSet c = true) : lastMarks [o, o'] [b, c] = false := by
  show behindInMarks o' c = false
  exact nomk h
theorem lastmk3 {o o' o'' : CmpOp} {b c d : Expr} (h : notSet d = true) : lastMarks [o, o', o''] [b, c, d] = false := by
  show behindInMarks o'' d = false
  exact nomk h
theorem foldset {e : Expr} {env : PySem.Env} (h : notSet e = true) : ∀ x, foldedSetIterable e env x = pure x := fun x => by
  cases e <;> first | rfl | simp [notSet] at h
theorem plainIx {e : Expr} (h : notSlice e = true) : PlainIx e := fun o i => by
  cases e <;> first | rfl | simp [notSlice] at h
theorem noneK_eq {ir : IR} (h : noneK ir = true) : ir = .k .none := by
  cases ir <;> simp [noneK] at h
  rename_i d
  cases d <;> simp [noneK] at h
  rfl
theorem noneK_ne {ir : IR} (h : (!noneK ir) = true) : ir ≠ .k .none := fun z => by subst z; simp [noneK] at h
theorem g_fz {a : IR} {e : Expr} (h : Good X B C e a) : Good X B C e (.fz a) := by
  refine Good.ofE (PE.imp h.E fun σ H Q ⟨G, E, d, E', F, ee, k⟩ => ?_) (fun _ z => by cases z) rfl
  simp only [ev] at ee
  exact ⟨G, E, d, E', F, ee, k⟩
theorem chkL_ok {f : IR → Expr → Bool} (hf : ∀ ir e, f ir e = true → Good X B C e ir) : ∀ (irs : List IR) (es : List Expr), chkL f irs es = true → PA X es (tEs X.K B C irs) ∧ PA X es (tOs X.K B C irs) ∧ PA X es (tAs X.K B C irs) ∧ es.all notStar = true ∧ es.length = irs.length
  | [], [], _ => ⟨g_nil, go_nil, ga_nil, rfl, rfl⟩
  | [], _ :: _, v => by simp [chkL] at v
  | _ :: _, [], v => by simp [chkL] at v
  | a :: r, e :: s, v => by
    simp only [chkL, Bool.and_eq_true] at v
    obtain ⟨h1, h2, h3, h4, h5⟩ := chkL_ok hf r s v.2
    have q := hf a e v.1.1
    exact ⟨g_cons q h1 v.1.2, go_cons q h2 v.1.2, ga_cons q h3 v.1.2, by simp [v.1.2, h4], by simp [h5]⟩
theorem chkIo_ok (h : XOk g C X S) {irs : List IR} : ∀ (ios : List Nat) (es rest : List Expr), chkIo S ios es = true → PA X rest (tEs X.K B C irs) → PA X (es ++ rest) (tArgs X.K B C ios irs) ∧ es.all notStar = true ∧ es.length = ios.length
  | [], [], rest, _, q => ⟨a_base q, rfl, rfl⟩
  | [], _ :: _, _, v, _ => by simp [chkIo] at v
  | _ :: _, [], _, v, _ => by simp [chkIo] at v
  | i :: r, e :: s, rest, v, q => by
    simp only [chkIo, Bool.and_eq_true] at v
    obtain ⟨v1, v2⟩ := v
    obtain ⟨h1, h2, h3⟩ := chkIo_ok h r s rest v2 q
    split at v1
    · exact ⟨a_io (slot_pe h v1) h1 rfl, by simp [notStar, h2], by simp [h3]⟩
    · cases v1
theorem chkVs_ok (h : XOk g C X S) : ∀ (is : List Nat) (es : List Expr), chkIo S is es = true → PA X es (tVars is) ∧ es.all notStar = true
  | [], [], _ => ⟨av_nil, rfl⟩
  | [], _ :: _, v => by simp [chkIo] at v
  | _ :: _, [], v => by simp [chkIo] at v
  | i :: r, e :: s, v => by
    simp only [chkIo, Bool.and_eq_true] at v
    obtain ⟨v1, v2⟩ := v
    obtain ⟨h1, h2⟩ := chkVs_ok h r s v2
    split at v1
    · exact ⟨av_cons (slot_pe h v1) h1 rfl, by simp [notStar, h2]⟩
    · cases v1
theorem chkD_ok {f : IR → Expr → Bool} (hf : ∀ ir e, f ir e = true → Good X B C e ir) : ∀ (ps : List (IR × IR)) (ks : List (Option Expr)) (vs : List Expr), chkD f ps ks vs = true → DctR X B C ks vs ps
  | [], [], [], _ => .nil
  | [], [], _ :: _, v => by simp [chkD] at v
  | [], _ :: _, _, v => by simp [chkD] at v
  | (a, b) :: r, [], _, v => by simp [chkD] at v
  | (a, b) :: r, none :: _, _, v => by simp [chkD] at v
  | (a, b) :: r, some k :: ks, [], v => by simp [chkD] at v
  | (a, b) :: r, some k :: ks, w :: vs, v => by
    simp only [chkD, Bool.and_eq_true] at v
    exact .cons (hf _ _ v.1.1) (hf _ _ v.1.2) (chkD_ok hf r ks vs v.2)
theorem unflat_eq : ∀ (xs : List IR) (n : Nat), xs.length = 2 * n → flatP (unflat xs) = xs ∧ (unflat xs).length = n
  | [], n, h => ⟨rfl, by simp [unflat] at h ⊢; omega⟩
  | [a], n, h => by simp at h; omega
  | a :: b :: r, n, h => by
    obtain ⟨h1, h2⟩ := unflat_eq r (n - 1) (by simp at h; omega)
    refine ⟨by simp [unflat, flatP, h1], ?_⟩
    simp [unflat, h2]
    simp at h
    omega
theorem chkO_ok {f : IR → Expr → Bool} (hf : ∀ ir e, f ir e = true → Good X B C e ir) {ir : IR} {o : Option Expr} (h : chkO f ir o = true) : PO X o (tP X.K B C ir) := by
  cases o with
  | none =>
    rw [noneK_eq h]
    exact p_none
  | some e =>
    simp only [chkO, Bool.and_eq_true] at h
    exact p_some (hf _ _ h.2) (noneK_ne h.1)
/-- a test that is nothing but its value -/
theorem t_plain {e : Expr} {ir : IR} (h : Good X B C e ir) (he : ∀ whole, isTrue e X.env whole = (do let v ← whole; standAt e.pos; holding [v] (truthy v))) : PT X e (tT X.K B C ir) := t_val h he
theorem own_map (N : List Str) (scope : Scope) (vs : List Nat) : (ownOf N scope vs).map (·.2) = vs := by
  unfold ownOf
  rw [List.map_map]
  exact List.map_id' vs
abbrev Both (X : Cx) (B : Bs) (C : Ctx) (e : Expr) (ir : IR) : Prop := Good X B C e ir ∧ ∀ m, tst m e = true → PT X e (tT X.K B C ir)
theorem kys_or (is : IR) : (∃ i, is = .kys i) ∨ notK is = true := by cases is <;> first | exact .inl ⟨_, rfl⟩ | exact .inr rfl
theorem chkS_kys {f : IR → Expr → Bool} {tg it : Expr} {i : Nat} (v : chkS g S f tg (.kys i) it = true) : ∃ x p, it = .Name x p ∧ slotB S x i = true := by
  unfold chkS at v
  simp only at v
  split at v
  · exact ⟨_, _, rfl, v⟩
  · cases v
theorem src_ok (h : XOk g C X S) {n : Nat} (ih : ∀ (S : Sc) (X : Cx) (ir : IR) (e : Expr), XOk g C X S → chk g n S ir e = true → Both X B C e ir) {tg : Expr} {is : IR} {it : Expr}
    (v : chkS g S (chk g n S) tg is it = true) (hnk : notK is = true) : PI X tg it (tI X.K B C is) ∧ PI X tg it (tIe X.K B C is) := by
  unfold chkS at v
  split at v
  · simp only [Bool.and_eq_true, decide_eq_true_eq] at v
    obtain ⟨⟨⟨⟨⟨⟨⟨rfl, v2⟩, v3⟩, v4⟩, v4'⟩, v5⟩, v6⟩, v7⟩ := v
    have q := (ih S X _ _ h v5).1
    have q' := (ih S X _ _ h v6).1
    cases tg <;> first | (cases v7; done) | skip
    exact ⟨tI_of (fun i z => by cases z) (w_zip (glob_of h v2).1 (h.fr _ v3) q q' v4 v4'), w_zip (glob_of h v2).1 (h.fr _ v3) q q' v4 v4'⟩
  · simp only [Bool.and_eq_true, decide_eq_true_eq] at v
    obtain ⟨⟨⟨⟨rfl, v2⟩, v3⟩, v4⟩, v5⟩ := v
    have q := (ih S X _ _ h v5).1
    exact ⟨tI_of (fun i z => by cases z) (w_rng1 (glob_of h v2).1 (h.fr _ v3) (g_cons q g_nil v4) v4), w_rng1 (glob_of h v2).1 (h.fr _ v3) (g_cons q g_nil v4) v4⟩
  · simp only [Bool.and_eq_true, decide_eq_true_eq] at v
    obtain ⟨⟨⟨⟨⟨⟨⟨⟨rfl, v2⟩, v3⟩, v4⟩, v4'⟩, v4''⟩, v5⟩, v6⟩, v7⟩ := v
    have q := (ih S X _ _ h v5).1
    have q' := (ih S X _ _ h v6).1
    have q'' := (ih S X _ _ h v7).1
    have ha := g_cons q (g_cons q' (g_cons q'' g_nil v4'') v4') v4
    exact ⟨tI_of (fun i z => by cases z) (w_rgs (glob_of h v2).1 (h.fr _ v3) ha v4 v4' v4''), w_rgs (glob_of h v2).1 (h.fr _ v3) ha v4 v4' v4''⟩
  · simp only [Bool.and_eq_true, decide_eq_true_eq] at v
    obtain ⟨⟨⟨⟨⟨⟨rfl, v2⟩, v3⟩, v4⟩, v4'⟩, v5⟩, v6⟩ := v
    have q := (ih S X _ _ h v5).1
    have q' := (ih S X _ _ h v6).1
    have ha := g_cons q (g_cons q' g_nil v4') v4
    exact ⟨tI_of (fun i z => by cases z) (w_rng2 (glob_of h v2).1 (h.fr _ v3) ha v4 v4'), w_rng2 (glob_of h v2).1 (h.fr _ v3) ha v4 v4'⟩
  · cases hnk
  · have q := (ih S X _ _ h v).1
    exact ⟨w_seq q, w_seqE q⟩
theorem all_split {α : Type} {p : α → Bool} {k : Nat} {es : List α} (h1 : (es.take k).all p = true) (h2 : (es.drop k).all p = true) : es.all p = true := by
  rw [← List.take_append_drop k es, List.all_append, h1, h2]
  rfl
/-- what a block's parts give -/
theorem comp_parts {n : Nat} (h : XOk g C X S) (ih : ∀ (S : Sc) (X : Cx) (ir : IR) (e : Expr), XOk g C X S → chk g n S ir e = true → Both X B C e ir) {ie : IR} {t : Tg} {ic : IR} {vs : List Nat} {elt tg : Expr} {ifs : List Expr} {scope : Scope}
    (v0 : blkC S.N S.sc scope (ownOf S.N scope vs) = true) (v3 : chkT (relSc S scope) t tg = true)
    (v4 : (match ifs with
        | [] => (match ic with | .k (.bool true) => true | _ => false)
        | [c] => tst n c && chk g n (relSc S scope) ic c
        | _ => false) = true) (v5 : chk g n (relSc S scope) ie elt = true) :
    BlkOk X.N X.env.scope scope (ownOf S.N scope vs) ∧ (∀ (s : Shared) (H : Hp) (A : Addr) (cl : List (Str × Addr)) (fp : List Addr), PG (X.blk s H scope (compEnvC scope cl A X.env) fp) tg (tG X.K B t)) ∧
    (∀ (s : Shared) (H : Hp) (A : Addr) (cl : List (Str × Addr)) (fp : List Addr), PTs (X.blk s H scope (compEnvC scope cl A X.env) fp) ifs (tT X.K B C ic)) ∧
    (∀ (s : Shared) (H : Hp) (A : Addr) (cl : List (Str × Addr)) (fp : List Addr), PE (X.blk s H scope (compEnvC scope cl A X.env) fp) elt (tE X.K B C ie)) := by
  refine ⟨by rw [h.N, h.sc]; exact blkOk_by v0, fun s H A cl fp => chkT_ok (h.blk s H scope A cl fp) t tg v3, fun s H A cl fp => ?_, fun s H A cl fp => (ih _ _ _ _ (h.blk s H scope A cl fp) v5).1.E⟩
  split at v4
  · split at v4
    · exact pts_none _
    · cases v4
  · simp only [Bool.and_eq_true] at v4
    exact pts_one ((ih _ _ _ _ (h.blk s H scope A cl fp) v4.2).2 _ v4.1)
  · cases v4
theorem comp_good {n : Nat} (h : XOk g C X S) (ih : ∀ (S : Sc) (X : Cx) (ir : IR) (e : Expr), XOk g C X S → chk g n S ir e = true → Both X B C e ir) {ie is : IR} {t : Tg} {ic : IR} {vs : List Nat} {elt tg it : Expr} {ifs : List Expr} {scope : Scope} {pos : Pos}
    (v0 : blkC S.N S.sc scope (ownOf S.N scope vs) = true) (v1 : ∀ j ∈ tgS t, j ∈ vs) (v2 : notSet it = true) (v2' : chkS g S (chk g n S) tg is it = true) (hn : notK is = true) (v3 : chkT (relSc S scope) t tg = true)
    (v4 : (match ifs with
        | [] => (match ic with | .k (.bool true) => true | _ => false)
        | [c] => tst n c && chk g n (relSc S scope) ic c
        | _ => false) = true) (v5 : chk g n (relSc S scope) ie elt = true) : Good X B C (.ListComp elt [⟨tg, it, ifs, 0⟩] scope pos) (.comp ie t is ic vs) := by
  obtain ⟨p1, p2, p3, p4⟩ := comp_parts h ih v0 v3 v4 v5
  have q := g_comp (pos := pos) (is := is) (t := t) (ie := ie) (ic := ic) h.calm h.nd (src_ok h ih v2' hn).1 p1 (by rw [own_map]; exact v1) p2 p3 p4 (foldset v2)
  rw [own_map] at q
  exact q
theorem pw_of {op : BoolOp} {vs : List Expr} {pos : Pos} {t : TT} (h : PT X (.BoolOp op vs pos) t) : PW X (.BoolOp op vs pos) t := ⟨fun whole pins s σ H Q I q => h.run pins s σ H Q I q⟩
theorem rg_ok (h : XOk g C X S) {n : Nat} (ih : ∀ (S : Sc) (X : Cx) (ir : IR) (e : Expr), XOk g C X S → chk g n S ir e = true → Both X B C e ir) {irs : List IR} {e : Expr} (v : chkRg g S (chk g n S) irs e = true) :
    PRg X e (tRg X.K B C irs) ∧ PE X e (tRo X.K B C irs) ∧ notStar e = true ∧ notSet e = true := by
  unfold chkRg at v
  split at v
  · simp only [Bool.and_eq_true, decide_eq_true_eq] at v
    obtain ⟨⟨⟨⟨rfl, v2⟩, v3⟩, v4⟩, v5⟩ := v
    have q := (ih S X _ _ h v5).1
    exact ⟨prg_a1 (glob_of h v2).1 (h.fr _ v3) q v4, pe_ro (glob_of h v2).1 (h.fr _ v3) (g_cons q g_nil v4) v4 rfl, rfl, rfl⟩
  · simp only [Bool.and_eq_true, decide_eq_true_eq] at v
    obtain ⟨⟨⟨⟨⟨⟨rfl, v2⟩, v3⟩, v4⟩, v4'⟩, v5⟩, v6⟩ := v
    have q := (ih S X _ _ h v5).1
    have q' := (ih S X _ _ h v6).1
    exact ⟨prg_a2 (glob_of h v2).1 (h.fr _ v3) q q' v4 v4', pe_ro (glob_of h v2).1 (h.fr _ v3) (g_cons q (g_cons q' g_nil v4') v4) v4 (by simp [v4']), rfl, rfl⟩
  · cases v
theorem if_parts {n : Nat} (ih : ∀ (S : Sc) (X : Cx) (ir : IR) (e : Expr), XOk g C X S → chk g n S ir e = true → Both X B C e ir) {S' : Sc} {X' : Cx} (h' : XOk g C X' S') {ic : IR} {ifs : List Expr} (v : chkIf (tst n) (chk g n S') ic ifs = true) : PTs X' ifs (tT X'.K B C ic) := by
  unfold chkIf at v
  split at v
  · split at v
    · exact pts_none _
    · cases v
  · simp only [Bool.and_eq_true] at v
    exact pts_one ((ih _ _ _ _ h' v.2).2 _ v.1)
  · cases v
theorem comp2_good {n : Nat} (h : XOk g C X S) (ih : ∀ (S : Sc) (X : Cx) (ir : IR) (e : Expr), XOk g C X S → chk g n S ir e = true → Both X B C e ir) {ie is is1 : IR} {t t1 : Tg} {ic ic1 : IR} {vs vs1 : List Nat} {elt tg it tg1 it1 : Expr} {ifs ifs1 : List Expr} {scope : Scope} {pos : Pos}
    (v : chk g (n + 1) S (.comp2 ie t is ic vs t1 is1 ic1 vs1) (.ListComp elt [⟨tg, it, ifs, 0⟩, ⟨tg1, it1, ifs1, 0⟩] scope pos) = true) : Good X B C (.ListComp elt [⟨tg, it, ifs, 0⟩, ⟨tg1, it1, ifs1, 0⟩] scope pos) (.comp2 ie t is ic vs t1 is1 ic1 vs1) ∧
      ∀ {i : Nat} {y : Str} {py spos : Pos}, X.N[i]? = some y → X.env.scope.names.lookup y = some .local → swapsWith (.ListComp elt [⟨tg, it, ifs, 0⟩, ⟨tg1, it1, ifs1, 0⟩] scope pos) (some (.Name y py)) spos.line X.env = pure true →
        PS X (.Assign [.Name y py] (.ListComp elt [⟨tg, it, ifs, 0⟩, ⟨tg1, it1, ifs1, 0⟩] scope pos) spos) (tAsg (tLc2 (tI X.K B C is) (tG X.K B t) (tT X.K B C ic) (tI X.K B C is1) (tG X.K B t1) (tT X.K B C ic1) (tE X.K B C ie) vs vs1) (gName i)) ∧ (∀ j ∈ tgS t, j ∈ vs) ∧ ∀ j ∈ tgS t1, j ∈ vs1 := by
  unfold chk at v
  simp only [Bool.and_eq_true, List.all_eq_true, List.contains_iff_mem] at v
  obtain ⟨⟨⟨⟨⟨⟨⟨⟨⟨⟨⟨⟨⟨⟨v0, v1⟩, v1'⟩, vv⟩, v2⟩, v2'⟩, v3⟩, v3'⟩, v4⟩, v4'⟩, v5⟩, v5'⟩, v6⟩, hk0⟩, hk1⟩ := v
  have ok : BlkOk X.N X.env.scope scope (ownOf S.N scope vs) := by rw [h.N, h.sc]; exact blkOk_by v0
  have hx := fun s H A cl fp => h.blk s H scope A cl fp
  have p1 : ∀ (s : Shared) (H : Hp) (A : Addr) (cl : List (Str × Addr)) (fp : List Addr), PG (X.blk s H scope (compEnvC scope cl A X.env) fp) tg (tG X.K B t) := fun s H A cl fp => chkT_ok (B := B) (hx s H A cl fp) t tg v4
  have p2 : ∀ (s : Shared) (H : Hp) (A : Addr) (cl : List (Str × Addr)) (fp : List Addr), PG (X.blk s H scope (compEnvC scope cl A X.env) fp) tg1 (tG X.K B t1) := fun s H A cl fp => chkT_ok (B := B) (hx s H A cl fp) t1 tg1 v4'
  have p3 : ∀ (s : Shared) (H : Hp) (A : Addr) (cl : List (Str × Addr)) (fp : List Addr), PTs (X.blk s H scope (compEnvC scope cl A X.env) fp) ifs (tT X.K B C ic) := fun s H A cl fp => if_parts ih (hx s H A cl fp) v5
  have p4 : ∀ (s : Shared) (H : Hp) (A : Addr) (cl : List (Str × Addr)) (fp : List Addr), PTs (X.blk s H scope (compEnvC scope cl A X.env) fp) ifs1 (tT X.K B C ic1) := fun s H A cl fp => if_parts ih (hx s H A cl fp) v5'
  have p5 : ∀ (s : Shared) (H : Hp) (A : Addr) (cl : List (Str × Addr)) (fp : List Addr), PI (X.blk s H scope (compEnvC scope cl A X.env) fp) tg1 it1 (tI X.K B C is1) := fun s H A cl fp => (src_ok (hx s H A cl fp) ih v3' hk1).1
  have p6 : ∀ (s : Shared) (H : Hp) (A : Addr) (cl : List (Str × Addr)) (fp : List Addr), PE (X.blk s H scope (compEnvC scope cl A X.env) fp) elt (tE X.K B C ie) := fun s H A cl fp => (ih _ _ _ _ (hx s H A cl fp) v6).1.E
  refine ⟨?_, fun hi yl hs => ⟨?_, v1, v1'⟩⟩
  · have q := g_comp2 (pos := pos) (is := is) (t := t) (ie := ie) (ic := ic) (is1 := is1) (t1 := t1) (ic1 := ic1) (vs1 := vs1) h.calm h.nd (src_ok h ih v3 hk0).1 ok (by rw [own_map]; exact vv) (by rw [own_map]; exact v1) v1' p1 p3 p5 p2 p4 p6 (foldset v2) (fun _ => foldset v2')
    rw [own_map] at q
    exact q
  · have q := ps_setLc2 (vs1 := vs1) h.calm h.nd hi yl hs (src_ok h ih v3 hk0).1 ok (by rw [own_map]; exact vv) p1 p3 p5 p2 p4 p6 (foldset v2) (fun _ => foldset v2')
    rw [own_map] at q
    exact q
theorem chk_okB : ∀ (n : Nat) (S : Sc) (X : Cx) (ir : IR) (e : Expr), XOk g C X S → chk g n S ir e = true → ∀ B : Bs, Both X B C e ir
  | 0, _, _, _, _, _, v, _ => by simp [chk] at v
  | n + 1, S, X, ir, e, h, v, B => by
    have ihB := fun S X ir e h v => chk_okB n S X ir e h v
    have ih := fun S X ir e h v => ihB S X ir e h v B
    have pl : ∀ {e : Expr} {ir : IR}, Good X B C e ir → (∀ whole, isTrue e X.env whole = (do let v ← whole; standAt e.pos; holding [v] (truthy v))) → Both X B C e ir := fun q he => ⟨q, fun _ _ => t_val q he⟩
    unfold chk at v
    split at v
    · -- fz
      obtain ⟨q, t⟩ := ih S X _ _ h v
      refine ⟨g_fz q, fun m w => PT.imp (t m w) fun σ H Q ⟨G, E, d, E', F, ee, k⟩ => ?_⟩
      simp only [ev] at ee
      exact ⟨G, E, d, E', F, ee, k⟩
    · -- k
      split at v <;> first | cases v | skip
      · exact pl (g_const pe_non fun G => .non) fun _ => rfl
      · obtain rfl := eq_of_beq v
        exact pl (g_const pe_bl fun G => .bl _) fun _ => rfl
      · obtain rfl := eq_of_beq v
        exact pl (g_const pe_int fun G => .int _) fun _ => rfl
      · obtain rfl := of_decide_eq_true v
        exact pl (g_const pe_str fun G => .str _) fun _ => rfl
    · exact pl (g_var (slot_pe h v)) fun _ => rfl
    · -- glb
      simp only [Bool.and_eq_true, decide_eq_true_eq] at v
      obtain ⟨hg, hdb⟩ := glob_of h v.1
      obtain ⟨u, w, d, hm, r, eg, hr⟩ := h.cs _ _ v.2
      refine pl (Good.ofE (PE.imp (pe_glob hg hm r hdb) fun σ H Q ⟨G, E, d', E', F, ee, k⟩ => ?_) (fun _ z => by cases z) rfl) fun _ => rfl
      simp only [ev, eg, Option.map_some] at ee
      cases ee
      exact k w G H F Ext.refl (hr G)
    · -- bin
      simp only [Bool.and_eq_true, decide_eq_true_eq] at v
      obtain ⟨⟨rfl, v1⟩, v2⟩ := v
      exact pl (g_bin _ (ih S X _ _ h v1).1 (ih S X _ _ h v2).1) fun _ => rfl
    · exact pl (g_neg (ih S X _ _ h v).1) fun _ => rfl
    · obtain ⟨q, t⟩ := ih S X _ _ h v
      refine ⟨g_not q, fun m w => ?_⟩
      cases m with
      | zero => simp [tst] at w
      | succ m => exact t_not (t m (by simpa [tst] using w))
    · simp only [Bool.and_eq_true, decide_eq_true_eq] at v
      obtain ⟨⟨⟨rfl, v0⟩, v1⟩, v2⟩ := v
      exact ⟨g_cmp h.hu _ (ih S X _ _ h v1).1 (ih S X _ _ h v2).1 (nomk v0), fun _ _ => t_cmp h.hu _ (ih S X _ _ h v1).1 (ih S X _ _ h v2).1 (nomk v0)⟩
    · simp only [Bool.and_eq_true, decide_eq_true_eq] at v
      obtain ⟨⟨⟨⟨⟨rfl, rfl⟩, v0⟩, v1⟩, v2⟩, v3⟩ := v
      exact ⟨g_chain h.hu _ _ (ih S X _ _ h v1).1 (ih S X _ _ h v2).1 (ih S X _ _ h v3).1 (lastmk v0), fun _ _ => t_chain h.hu _ _ (ih S X _ _ h v1).1 (ih S X _ _ h v2).1 (ih S X _ _ h v3).1 (lastmk v0)⟩
    · simp only [Bool.and_eq_true, decide_eq_true_eq] at v
      obtain ⟨⟨⟨⟨⟨⟨⟨rfl, rfl⟩, rfl⟩, v0⟩, v1⟩, v2⟩, v3⟩, v4⟩ := v
      exact ⟨g_chn3 h.hu _ _ _ (ih S X _ _ h v1).1 (ih S X _ _ h v2).1 (ih S X _ _ h v3).1 (ih S X _ _ h v4).1 (lastmk3 v0), fun _ _ => t_chn3 h.hu _ _ _ (ih S X _ _ h v1).1 (ih S X _ _ h v2).1 (ih S X _ _ h v3).1 (ih S X _ _ h v4).1 (lastmk3 v0)⟩
    · simp only [Bool.and_eq_true] at v
      obtain ⟨q1, t1⟩ := ih S X _ _ h v.1
      obtain ⟨q2, t2⟩ := ih S X _ _ h v.2
      refine ⟨g_and q1 q2, fun m w => ?_⟩
      cases m with
      | zero => simp [tst] at w
      | succ m =>
        simp only [tst, Bool.and_eq_true] at w
        exact (w_and (t1 m w.1) (pw_of (t2 m w.2))).pt
    · simp only [Bool.and_eq_true] at v
      obtain ⟨q1, t1⟩ := ih S X _ _ h v.1
      obtain ⟨q2, t2⟩ := ih S X _ _ h v.2
      refine ⟨g_or q1 q2, fun m w => ?_⟩
      cases m with
      | zero => simp [tst] at w
      | succ m =>
        simp only [tst, Bool.and_eq_true] at w
        exact (w_or (t1 m w.1) (pw_of (t2 m w.2))).pt
    · rename_i op x pos _
      obtain ⟨q, t⟩ := ih S X _ _ h v
      refine ⟨g_one q, fun m w => ?_⟩
      cases m with
      | zero => simp [tst] at w
      | succ m =>
        simp only [tst] at w
        cases op
        · exact (pw_and1 (t m w)).pt
        · exact (pw_or1 (t m w)).pt
    · simp only [Bool.and_eq_true] at v
      obtain ⟨⟨⟨v0, v1⟩, v2⟩, v3⟩ := v
      exact ⟨g_ite ((ih S X _ _ h v1).2 _ v0) (ih S X _ _ h v2).1 (ih S X _ _ h v3).1, fun m w => by cases m <;> simp [tst] at w⟩
    · obtain ⟨h1, _, _, _, _⟩ := chkL_ok (fun ir e v => (ih S X ir e h v).1) _ _ v
      exact pl (g_tup h1) fun _ => rfl
    · obtain ⟨h1, _, _, _, _⟩ := chkL_ok (fun ir e v => (ih S X ir e h v).1) _ _ v
      exact pl (g_lst h1) fun _ => rfl
    · exact pl g_dctT fun _ => rfl
    · -- dct
      simp only [Bool.and_eq_true, decide_eq_true_eq] at v
      obtain ⟨⟨v1, v2⟩, v3⟩ := v
      have hd := chkD_ok (fun ir e v => (ih S X ir e h v).1) _ _ _ v3
      obtain ⟨u1, u2⟩ := unflat_eq _ _ v2
      rename_i xs ks vs pos
      by_cases k0 : ks = []
      · subst k0
        simp at v2
        subst v2
        cases vs with
        | nil => exact pl g_dct0 fun _ => rfl
        | cons => simp [chkD, unflat] at v3
      · have q := g_dct (pos := pos) hd k0 v1
        rw [u1] at q
        exact pl q fun _ => rfl
    · simp only [Bool.and_eq_true] at v
      obtain ⟨⟨v0, v1⟩, v2⟩ := v
      exact pl (g_idx h.hu (ih S X _ _ h v1).1 (ih S X _ _ h v2).1 (plainIx v0)) fun _ => rfl
    · simp only [Bool.and_eq_true] at v
      obtain ⟨⟨v0, v1⟩, v2⟩ := v
      exact pl (g_slc (ih S X _ _ h v0).1 (chkO_ok (fun ir e v => (ih S X ir e h v).1) v1) (chkO_ok (fun ir e v => (ih S X ir e h v).1) v2)) fun _ => rfl
    · exact pl (g_rev (ih S X _ _ h v).1) fun _ => rfl
    · -- call
      simp only [Bool.and_eq_true, decide_eq_true_eq] at v
      obtain ⟨⟨⟨⟨v0, v1⟩, v2⟩, v3⟩, v4⟩ := v
      obtain ⟨k, f, fd, ps, F, hr, hm, hk, hb⟩ := h.fs _ _ _ v1
      obtain ⟨hg, hdb⟩ := glob_of h v0
      obtain ⟨h1, _, _, h4, h5⟩ := chkL_ok (fun ir e v => (ih S X ir e h v).1) _ _ v3
      obtain ⟨a1, a2, a3⟩ := chkIo_ok h _ _ _ v2 h1
      rw [List.take_append_drop] at a1
      refine pl (g_call F hr hg hm hk hb hdb a1 (all_split a2 h4) v4 rfl fun e0 => ?_) fun _ => rfl
      subst e0
      simp at a3 h5
      exact ⟨List.length_eq_zero_iff.mp a3.symm, List.length_eq_zero_iff.mp h5.symm⟩
    · -- a call that its lists are lent to
      simp only [Bool.and_eq_true, decide_eq_true_eq, Bool.not_eq_true', List.isEmpty_eq_false_iff] at v
      obtain ⟨⟨⟨v0, v1⟩, v2⟩, v3⟩ := v
      obtain ⟨k, f, fd, ps, F, hr, hm, hk, hb⟩ := h.fs _ _ _ v1
      obtain ⟨hg, hdb⟩ := glob_of h v0
      obtain ⟨a1, a2⟩ := chkVs_ok h _ _ v2
      exact pl (g_callB F hr hg hm hk hb hdb a1 a2 rfl v3) fun _ => rfl
    · -- blt
      simp only [Bool.and_eq_true, decide_eq_true_eq] at v
      obtain ⟨⟨⟨rfl, v1⟩, v2⟩, v3⟩ := v
      obtain ⟨_, h2, _, h4, _⟩ := chkL_ok (fun ir e v => (ih S X ir e h v).1) _ _ v3
      simp only [List.all_cons, Bool.and_eq_true] at h4
      exact pl (g_blt h.calm h.hu _ (glob_of h v1).1 (h.fr _ v2) h2 h4.1 h4.2) fun _ => rfl
    · simp only [Bool.and_eq_true, decide_eq_true_eq] at v
      obtain ⟨⟨⟨⟨⟨⟨⟨rfl, rfl⟩, v1⟩, v2⟩, v3⟩, v4⟩, v5⟩, v6⟩ := v
      exact pl (g_srs h.hu h.calm (glob_of h v1).1 (h.fr _ v3) (glob_of h v2).1 (h.fr _ v4) (ih S X _ _ h v6).1 v5) fun _ => rfl
    · simp only [Bool.and_eq_true, decide_eq_true_eq] at v
      obtain ⟨⟨⟨⟨⟨rfl, v1⟩, v2⟩, v3⟩, v4⟩, v5⟩ := v
      exact pl (g_lix (ih S X _ _ h v4).1 (ih S X _ _ h v5).1 v1 v2 v3) fun _ => rfl
    · simp only [Bool.and_eq_true, decide_eq_true_eq] at v
      obtain ⟨⟨⟨⟨⟨rfl, v1⟩, v2⟩, v3⟩, v4⟩, v5⟩ := v
      exact pl (g_cnt h.hu (ih S X _ _ h v4).1 (ih S X _ _ h v5).1 v1 v2 v3) fun _ => rfl
    · simp only [Bool.and_eq_true, decide_eq_true_eq] at v
      obtain ⟨⟨⟨⟨⟨rfl, v1⟩, v2⟩, v3⟩, v4⟩, v5⟩ := v
      exact pl (g_get1 h.hu (ih S X _ _ h v4).1 (ih S X _ _ h v5).1 v1 v2 v3) fun _ => rfl
    · simp only [Bool.and_eq_true, decide_eq_true_eq] at v
      obtain ⟨⟨⟨⟨⟨⟨⟨rfl, v1⟩, v2⟩, v2'⟩, v3⟩, v4⟩, v5⟩, v6⟩ := v
      exact pl (g_get2 h.hu (ih S X _ _ h v4).1 (ih S X _ _ h v5).1 (ih S X _ _ h v6).1 v1 v2 v2' v3) fun _ => rfl
    · -- mut
      simp only [Bool.and_eq_true, decide_eq_true_eq] at v
      obtain ⟨⟨⟨⟨⟨rfl, v1⟩, v2⟩, v3⟩, v4⟩, v5⟩ := v
      obtain ⟨h1, _, _, h4, _⟩ := chkL_ok (fun ir e v => (ih S X ir e h v).1) _ _ v5
      refine pl (g_mut _ (slot_pe h v1) h1 ?_ ?_ h4 v3 v2) fun _ => rfl
      · split at v4
        · exact .inl rfl
        · refine .inr fun z => ?_
          subst z
          simp at v4
      · rintro rfl
        simp only [Bool.and_eq_true, List.isEmpty_iff] at v4
        exact ⟨v4.2, v4.1⟩
    · -- upd
      simp only [Bool.and_eq_true, decide_eq_true_eq] at v
      obtain ⟨⟨⟨⟨rfl, v1⟩, v2⟩, v3⟩, v4⟩ := v
      exact pl (g_upd h.hu (slot_pe h v1) (ih S X _ _ h v4).1 v3 v2) fun _ => rfl
    · -- comp
      simp only [Bool.and_eq_true, List.all_eq_true, List.contains_iff_mem] at v
      obtain ⟨⟨⟨⟨⟨⟨v0, v1⟩, v2⟩, v2'⟩, v3⟩, v4⟩, v5⟩ := v
      rename_i ie t is ic vs elt tg it ifs scope pos
      rcases kys_or is with ⟨i, rfl⟩ | hn
      · obtain ⟨x, xp, rfl, vx⟩ := chkS_kys v2'
        have pp := fun B => comp_parts (B := B) h (fun S X ir e h v => ihB S X ir e h v B) v0 v3 v4 v5
        have q := g_compK (B := B) (pos := pos) (t := t) (ie := ie) (ic := ic) (iter := .Name x xp) h.calm h.nd (slot_pe h vx) (pp B).1 (by rw [own_map]; exact v1) (fun B => (pp B).2.1) (fun B => (pp B).2.2.1) (fun B => (pp B).2.2.2) (foldset rfl)
        rw [own_map] at q
        exact ⟨q, fun m w => t_val q fun _ => rfl⟩
      refine ⟨comp_good h (fun S X ir e h v => ih S X ir e h v) v0 v1 v2 v2' hn v3 v4 v5, fun m w => ?_⟩
      exact t_val (comp_good h (fun S X ir e h v => ih S X ir e h v) v0 v1 v2 v2' hn v3 v4 v5) fun _ => rfl
    · simp only [Bool.and_eq_true, decide_eq_true_eq] at v
      obtain ⟨⟨⟨rfl, v1⟩, v2⟩, v3⟩ := v
      obtain ⟨r1, _, r3, _⟩ := rg_ok h (fun S X ir e h v => ih S X ir e h v) v3
      exact pl (g_lrg h.calm (glob_of h v1).1 (h.fr _ v2) r1 r3) fun _ => rfl
    · simp only [Bool.and_eq_true, decide_eq_true_eq] at v
      obtain ⟨⟨⟨⟨⟨⟨⟨⟨⟨⟨⟨rfl, rfl⟩, v1⟩, v2⟩, v3⟩, v4⟩, n1⟩, n2⟩, n3⟩, v5⟩, v6⟩, v7⟩ := v
      have ha := g_cons (ih S X _ _ h v5).1 (g_cons (ih S X _ _ h v6).1 (g_cons (ih S X _ _ h v7).1 g_nil n3) n2) n1
      exact pl (g_lrs h.calm (glob_of h v1).1 (h.fr _ v3) (glob_of h v2).1 (h.fr _ v4) ha n1 n2 n3) fun _ => rfl
    · simp only [Bool.and_eq_true, decide_eq_true_eq] at v
      obtain ⟨⟨⟨⟨⟨⟨⟨⟨⟨rfl, rfl⟩, v1⟩, v2⟩, v3⟩, v4⟩, n1⟩, n2⟩, v5⟩, v6⟩ := v
      have ha := g_cons (ih S X _ _ h v5).1 (g_cons (ih S X _ _ h v6).1 g_nil n2) n1
      exact pl (g_lzp h.calm (glob_of h v1).1 (h.fr _ v3) (glob_of h v2).1 (h.fr _ v4) ha n1 n2) fun _ => rfl
    · simp only [Bool.and_eq_true, decide_eq_true_eq] at v
      obtain ⟨⟨⟨rfl, v1⟩, v2⟩, v3⟩ := v
      obtain ⟨r1, _, r3, _⟩ := rg_ok h (fun S X ir e h v => ih S X ir e h v) v3
      exact pl (g_trg h.calm (glob_of h v1).1 (h.fr _ v2) r1 r3) fun _ => rfl
    · simp only [Bool.and_eq_true, decide_eq_true_eq] at v
      obtain ⟨⟨rfl, v1⟩, v2⟩ := v
      obtain ⟨_, r2, _, r4⟩ := rg_ok h (fun S X ir e h v => ih S X ir e h v) v2
      exact ⟨g_inr _ (ih S X _ _ h v1).1 r2 (nomk r4), fun _ _ => t_inr _ (ih S X _ _ h v1).1 r2 (nomk r4)⟩
    · simp only [Bool.and_eq_true, decide_eq_true_eq] at v
      obtain ⟨⟨⟨⟨⟨⟨⟨rfl, rfl⟩, v1⟩, v2⟩, v3⟩, v4⟩, v5⟩, v6⟩ := v
      exact pl (g_isi _ (ih S X _ _ h v6).1 (glob_of h v1).1 (h.fr _ v3) (glob_of h v2).1 (h.fr _ v4) v5) fun _ => rfl
    · refine pl ?_ fun _ => rfl
      exact (comp2_good (n := n) h (fun S X ir e h v => ih S X ir e h v) (by unfold chk; exact v)).1
    · cases v
theorem chk_ok (n : Nat) (S : Sc) (X : Cx) (ir : IR) (e : Expr) (h : XOk g C X S) (v : chk g n S ir e = true) : Both X B C e ir := chk_okB n S X ir e h v B
end
end Pv

set_option Elab.async false
set_option linter.all false
set_option maxRecDepth 100000
set_option maxHeartbeats 8000000
/-! PvR: the check of statements. -/
namespace Pv
open PySem PySem.Spec L2
def isComp : Expr → Bool
  | .ListComp .. => true
  | .SetComp .. => true
  | .DictComp .. => true
  | _ => false
theorem sw_plain {e : Expr} (h : isComp e = false) (t : Option Expr) (l : Nat) (env : PySem.Env) : swapsWith e t l env = pure false := by
  cases e <;> first | rfl | simp [isComp] at h
theorem sw_notName {e : Expr} {t : Expr} (h : ∀ x p, t ≠ .Name x p) (l : Nat) (env : PySem.Env) : swapsWith e (some t) l env = pure false := by
  cases e <;> first | rfl | (cases t <;> first | rfl | exact absurd rfl (h _ _))
/-- does a comprehension's list go into its name within the comprehension's frame -/
def swLc (sc : Scope) (y : Str) (py : Pos) (scope : Scope) (pos : Pos) : Bool := decide (sc.names.lookup y = some .local) && (py.line == pos.line) && !(scope.names.any fun (n, k) => n == y && (k == .local || k == .cell))
theorem swLc_true {elt : Expr} {gs : List Comprehension} {scope : Scope} {pos py : Pos} {y : Str} {l : Nat} {env : PySem.Env} (hk : env.scope.kind = .function) (h : swLc env.scope y py scope pos = true) : swapsWith (.ListComp elt gs scope pos) (some (.Name y py)) l env = pure true := by
  unfold swLc at h
  simp only [Bool.and_eq_true, decide_eq_true_eq, Bool.not_eq_true'] at h
  exact sw_true hk h.1.1 h.1.2 h.2
theorem swLc_false {elt : Expr} {gs : List Comprehension} {scope : Scope} {pos py : Pos} {y : Str} {l : Nat} {env : PySem.Env} (hk : env.scope.kind = .function) (h : swLc env.scope y py scope pos = false) : swapsWith (.ListComp elt gs scope pos) (some (.Name y py)) l env = pure false := by
  have hb : env.blockKind = .function := by unfold PySem.Env.blockKind; rw [hk]; rfl
  have e : swapsWith (.ListComp elt gs scope pos) (some (.Name y py)) l env = pure (env.blockKind == .function && env.kindOf y == some .local && py.line == pos.line && !(scope.names.any fun (n, k) => n == y && (k == .local || k == .cell))) := rfl
  rw [e]
  congr 1
  rw [← h]
  unfold swLc PySem.Env.kindOf
  rw [hb]
  cases hq : (env.scope.names.lookup y) with
  | none => rfl
  | some k => cases k <;> rfl
def nmF (sc : Scope) (line : Nat) : Expr → Option Str
  | .Name id pos => if sc.names.lookup id == some .local && pos.line == line then some id else none
  | _ => none
def swNames (sc : Scope) (ts : List Expr) : List Str := ts.filterMap (nmF sc ((ts.head?.map (·.pos.line)).getD 0))
def swC (sc : Scope) (ts vs : List Expr) : Bool :=
  (ts.length == 2 || ts.length == 3) && !(vs.length != ts.length) && !(vs.any fun | .Starred .. => true | _ => false) && !((swNames sc ts).length != ts.length || (swNames sc ts).eraseDups.length != (swNames sc ts).length) && !vs.all (foldedForSure 8)
theorem sw_unf {ts vs : List Expr} {k k2 : Nat} {p p2 : Pos} {env : PySem.Env} : swappedStores [.Tuple ts k p] (.Tuple vs k2 p2) env =
    if (!(ts.length == 2 || ts.length == 3) || vs.length != ts.length || env.blockKind != .function) = true then pure none
    else if (vs.any fun | .Starred .. => true | _ => false) = true then pure none
    else if ((swNames env.scope ts).length != ts.length || (swNames env.scope ts).eraseDups.length != (swNames env.scope ts).length) = true then pure none
    else if vs.all (foldedForSure 8) = true then pure none
    else if vs.all (constantsAlone 8) = true then (do
      let _ : Unit ← unsupported "assign.tuple-of-constant-expressions:order-of-the-stores"
      pure (some (swNames env.scope ts)))
    else pure (some (swNames env.scope ts)) := by
  with_unfolding_all rfl
theorem sw_eq {ts vs : List Expr} {k k2 : Nat} {p p2 : Pos} {env : PySem.Env} (hk : env.scope.kind = .function) (hb : (swC env.scope ts vs && vs.all (constantsAlone 8)) = false) : swappedStores [.Tuple ts k p] (.Tuple vs k2 p2) env =
    if swC env.scope ts vs = true then pure (some (swNames env.scope ts)) else pure none := by
  have hb' : env.blockKind = .function := by unfold PySem.Env.blockKind; rw [hk]; rfl
  have e : swC env.scope ts vs = ((ts.length == 2 || ts.length == 3) && !(vs.length != ts.length) && !(vs.any fun | .Starred .. => true | _ => false) && !((swNames env.scope ts).length != ts.length || (swNames env.scope ts).eraseDups.length != (swNames env.scope ts).length) && !vs.all (foldedForSure 8)) := rfl
  rw [sw_unf, hb', e]
  rw [e] at hb
  revert hb
  generalize swNames env.scope ts = N
  generalize (ts.length == 2 || ts.length == 3) = a
  generalize (vs.length != ts.length) = b
  generalize (vs.any fun x => match x with | .Starred .. => true | _ => false) = c
  generalize (N.length != ts.length || N.eraseDups.length != N.length) = d
  generalize vs.all (foldedForSure 8) = f
  generalize vs.all (constantsAlone 8) = q
  intro hb
  cases a <;> cases b <;> cases c <;> cases d <;> cases f <;> cases q <;> first | rfl | simp at hb
def chkNs (S : Sc) : List Nat → List Expr → Bool
  | [], [] => true
  | i :: r, e :: s => (match e with | .Name x _ => locB S x i | _ => false) && chkNs S r s
  | _, _ => false
def nameOf : Expr → Str
  | .Name x _ => x
  | _ => ""
def lcOk : IR → Expr → Bool
  | .comp _ _ is _ _, .ListComp _ [⟨_, _, _, 0⟩] _ _ => notK is
  | .comp2 .., .ListComp _ [⟨_, _, _, 0⟩, ⟨_, _, _, 0⟩] _ _ => true
  | _, _ => false
theorem lcOk_inv {ir : IR} {e : Expr} (h : lcOk ir e = true) : (∃ ie t is ic vs elt tg it ifs scope pos, ir = .comp ie t is ic vs ∧ e = .ListComp elt [⟨tg, it, ifs, 0⟩] scope pos ∧ notK is = true) ∨
    ∃ ie t is ic vs t1 is1 ic1 vs1 elt tg it ifs tg1 it1 ifs1 scope pos, ir = .comp2 ie t is ic vs t1 is1 ic1 vs1 ∧ e = .ListComp elt [⟨tg, it, ifs, 0⟩, ⟨tg1, it1, ifs1, 0⟩] scope pos := by
  unfold lcOk at h
  split at h
  · exact .inl ⟨_, _, _, _, _, _, _, _, _, _, _, rfl, rfl, h⟩
  · exact .inr ⟨_, _, _, _, _, _, _, _, _, _, _, _, _, _, _, _, _, _, rfl, rfl⟩
  · cases h
def chkSs (f : SIR → Stmt → Bool) : List SIR → List Stmt → Bool
  | [], [] => true
  | a :: r, e :: s => f a e && chkSs f r s
  | _, _ => false
def F0 : Nat := 59 + 1
def chkA (g : GE) (S : Sc) (ir : IR) (e : Expr) : Bool := chk g F0 S ir e
def isTup : Expr → Bool
  | .Tuple .. => true
  | _ => false
def chkSt (g : GE) (S : Sc) : Nat → SIR → Stmt → Bool
  | 0, _, _ => false
  | n + 1, s, st => match s, st with
    | .asg (.name i) ir, .Assign [.Name y py] e spos => locB S y i && chkA g S ir e && (!isComp e || lcOk ir e)
    | .asg (.tup ts) ir, .Assign [.Tuple es k tp] e spos => !isTup e && chkT S (.tup ts) (.Tuple es k tp) && chkA g S ir e
    | .par is irs, .Assign [.Tuple ts k tp] (.Tuple vs k2 p2) spos => chkNs S is ts && chkL (chkA g S) irs vs && decide is.Nodup && decide (ts.length = vs.length) && decide (vs.length ≤ 1000) && !(swC S.sc ts vs && vs.all (constantsAlone 8))
    | .aug i o ir, .AugAssign (.Name x _) op e _ => locB S x i && decide (aopOf o = some op) && chkA g S ir e
    | .augS i ix o ir, .AugAssign (.Subscript (.Name x _) a _) op e _ => slotB S x i && decide (aopOf o = some op) && notSlice a && chkA g S ix a && chkA g S ir e
    | .setS i ix ir, .Assign [.Subscript (.Name x _) a _] e _ => slotB S x i && notSlice a && chkA g S ix a && chkA g S ir e
    | .parS i j ix ra rb, .Assign [.Tuple [.Name x px, .Subscript (.Name y py) a sp] k tp] (.Tuple [va, vb] k2 p2) spos => locB S x i && slotB S y j && notSlice a && chkA g S ix a && chkL (chkA g S) [ra, rb] [va, vb] && !(swC S.sc [.Name x px, .Subscript (.Name y py) a sp] [va, vb])
    | .exp ir, .Expr e _ => !isComp e && chkA g S ir e
    | .ret ir, .Return (some e) _ => chkA g S ir e
    | .ret ir, .Return none _ => noneK ir
    | .ite ic a b, .If c ea eb _ => tst F0 c && chkA g S ic c && chkSs (chkSt g S n) a ea && chkSs (chkSt g S n) b eb
    | .for t is b, .For tg it eb [] _ => notSet it && chkS g S (chkA g S) tg is it && chkT S t tg && chkSs (chkSt g S n) b eb
    | .while ic b, .While c eb [] _ => tst F0 c && chkA g S ic c && chkSs (chkSt g S n) b eb
    | .brk, .Break _ => true
    | .ct, .Continue _ => true
    | .pass, .Pass _ => true
    | _, _ => false
section
variable {g : GE} {C : Ctx} {X : Cx} {S : Sc} {B : Bs}
theorem names_pgs (h : XOk g C X S) : ∀ (is : List Nat) (ts : List Expr), chkNs S is ts = true → PGs X ts (gNs is) ∧ ts.all notStar = true ∧ ts.length = is.length
  | [], [], _ => ⟨pgs_nil, rfl, rfl⟩
  | [], _ :: _, v => by simp [chkNs] at v
  | _ :: _, [], v => by simp [chkNs] at v
  | i :: r, e :: s, v => by
    simp only [chkNs, Bool.and_eq_true] at v
    obtain ⟨v1, v2⟩ := v
    obtain ⟨h1, h2, h3⟩ := names_pgs h r s v2
    split at v1
    · exact ⟨pgs_cons (loc_pg h v1).1 h1 (asg_cons rfl), by simp [notStar, h2], by simp [h3]⟩
    · cases v1
theorem swNames_of {sc : Scope} {ts vs : List Expr} (h : swC sc ts vs = true) : (swNames sc ts).length = ts.length ∧ (ts.length = 2 ∨ ts.length = 3) ∧ vs.length = ts.length := by
  unfold swC at h
  generalize swNames sc ts = N at h ⊢
  simp only [Bool.and_eq_true, Bool.not_eq_true', Bool.or_eq_true, Bool.or_eq_false_iff, bne_eq_false_iff_eq, beq_iff_eq] at h
  obtain ⟨⟨⟨⟨h1, h2⟩, _⟩, h4, _⟩, _⟩ := h
  exact ⟨h4, h1, h2⟩
theorem nm_local {sc : Scope} {line : Nat} : ∀ {ts : List Expr}, (ts.filterMap (nmF sc line)).length = ts.length → ts.filterMap (nmF sc line) = ts.map nameOf ∧ ∀ e ∈ ts, ∃ x p, e = .Name x p ∧ sc.names.lookup x = some .local
  | [], _ => ⟨rfl, fun e m => by simp at m⟩
  | e :: r, h => by
    have gr : (r.filterMap (nmF sc line)).length ≤ r.length := List.length_filterMap_le _ _
    rw [List.filterMap_cons] at h ⊢
    cases hy : nmF sc line e with
    | none => rw [hy] at h; simp at h; omega
    | some y =>
      rw [hy] at h
      obtain ⟨h1, h2⟩ := nm_local (ts := r) (by simpa using h)
      have : ∃ x p, e = .Name x p ∧ sc.names.lookup x = some .local ∧ y = x := by
        unfold nmF at hy
        split at hy
        · split at hy
          · rename_i hq
            cases hy
            simp only [Bool.and_eq_true, beq_iff_eq] at hq
            exact ⟨_, _, rfl, hq.1, rfl⟩
          · cases hy
        · cases hy
      obtain ⟨x, p, rfl, hl, rfl⟩ := this
      refine ⟨by simp only [h1]; rfl, fun e m => ?_⟩
      rcases List.mem_cons.mp m with rfl | m
      · exact ⟨_, _, rfl, hl⟩
      · exact h2 e m
theorem chkSs_ok {f : SIR → Stmt → Bool} (hf : ∀ s st, f s st = true → PS X st (tS X.K B C s)) : ∀ (ss : List SIR) (sts : List Stmt), chkSs f ss sts = true → PSs X sts (tSs X.K B C ss)
  | [], [], _ => ss_nil
  | [], _ :: _, v => by simp [chkSs] at v
  | _ :: _, [], v => by simp [chkSs] at v
  | a :: r, e :: s, v => by
    simp only [chkSs, Bool.and_eq_true] at v
    exact ss_cons (hf _ _ v.1) (chkSs_ok hf r s v.2)
theorem chkA_ok (h : XOk g C X S) {ir : IR} {e : Expr} (v : chkA g S ir e = true) : Both X B C e ir := chk_ok F0 S X ir e h v
theorem assign_sub {o a : Expr} {pos : Pos} {env : PySem.Env} (h : notSlice a = true) : ∀ v, assign (.Subscript o a pos) env v = (do
      let ov ← holding [v] (eval o env)
      let iv ← holding [v, ov] (eval a env)
      standAt pos
      holding [v, ov, iv] (PySem.setItem ov iv v)
      release [v, ov, iv] []) := fun v => by
  cases a <;> first | rfl | simp [notSlice] at h
theorem aug_sub {a : Expr} (h : notSlice a = true) : ∀ ov iv new, augStore a ov iv new = (do holding [new, ov, iv] (PySem.setItem ov iv new); release [new, ov, iv] []; pure .next) := fun ov iv new => by
  cases a <;> first | rfl | simp [notSlice] at h
theorem st_lc (h : XOk g C X S) {i : Nat} {y : Str} {py : Pos} {elt tg it : Expr} {ifs : List Expr} {scope : Scope} {cpos pos : Pos} {ie is ic : IR} {t : Tg} {vs : List Nat} (hk : X.env.scope.kind = .function) (hi : X.N[i]? = some y) (yl : X.env.scope.names.lookup y = some .local)
    (hs : swLc X.env.scope y py scope cpos = true) (hn : notK is = true) {n : Nat} (v : chk g (n + 1) S (.comp ie t is ic vs) (.ListComp elt [⟨tg, it, ifs, 0⟩] scope cpos) = true) :
    PS X (.Assign [.Name y py] (.ListComp elt [⟨tg, it, ifs, 0⟩] scope cpos) pos) (tS X.K B C (.asg (.name i) (.comp ie t is ic vs))) := by
  unfold chk at v
  simp only [Bool.and_eq_true, List.all_eq_true, List.contains_iff_mem] at v
  obtain ⟨⟨⟨⟨⟨⟨v0, v1⟩, v2⟩, v2'⟩, v3⟩, v4⟩, v5⟩ := v
  have ih : ∀ (S : Sc) (X : Cx) (ir : IR) (e : Expr), XOk g C X S → chk g n S ir e = true → Both X B C e ir := fun S X ir e h v => chk_ok n S X ir e h v
  obtain ⟨p1, p2, p3, p4⟩ := comp_parts h ih v0 v3 v4 v5
  have q := ps_setLc (spos := pos) h.calm h.nd hi yl (swLc_true hk hs) (src_ok h ih v2' hn).1 p1 p2 p3 p4 (foldset v2)
  rw [own_map] at q
  exact s_name (PS.imp q fun D σ H hh => comp_read v1 hh)
theorem st_name (h : XOk g C X S) (hk : X.env.scope.kind = .function) {i : Nat} {y : Str} {py : Pos} {e : Expr} {ir : IR} {pos : Pos} (v1 : locB S y i = true) (v2 : chkA g S ir e = true) (v3 : (!isComp e || lcOk ir e) = true) :
    PS X (.Assign [.Name y py] e pos) (tS X.K B C (.asg (.name i) ir)) := by
  obtain ⟨_, hi, hx, hf⟩ := loc_pg (pos := py) h v1
  have q := (chkA_ok (B := B) h v2).1
  by_cases hc : isComp e = true
  · rw [hc] at v3
    simp only [Bool.not_true, Bool.false_or] at v3
    rcases lcOk_inv v3 with ⟨ie, t, is, ic, vs, elt, tg, it, ifs, scope, cpos, rfl, rfl, hn⟩ | ⟨ie, t, is, ic, vs, t1, is1, ic1, vs1, elt, tg, it, ifs, tg1, it1, ifs1, scope, cpos, rfl, rfl⟩
    · by_cases hs : swLc X.env.scope y py scope cpos = true
      · have yl : X.env.scope.names.lookup y = some .local := by
          unfold swLc at hs
          simp only [Bool.and_eq_true, decide_eq_true_eq] at hs
          exact hs.1.1
        exact st_lc (n := 59) h hk hi yl hs hn v2
      · exact s_name (ps_set h.nd hi hx q.A (swLc_false hk (by simpa using hs)) hf)
    · by_cases hs : swLc X.env.scope y py scope cpos = true
      · have yl : X.env.scope.names.lookup y = some .local := by
          unfold swLc at hs
          simp only [Bool.and_eq_true, decide_eq_true_eq] at hs
          exact hs.1.1
        obtain ⟨q1, q2, q3⟩ := (comp2_good (n := 59) h (fun S X ir e h v => chk_ok 59 S X ir e h v) v2).2 hi yl (swLc_true (py := py) (l := pos.line) hk hs)
        exact s_name (PS.imp q1 fun D σ H hh => comp2_read q2 q3 hh)
      · exact s_name (ps_set h.nd hi hx q.A (swLc_false hk (by simpa using hs)) hf)
  · exact s_name (ps_set h.nd hi hx q.A (sw_plain (by simpa using hc) _ _ _) hf)
theorem st_par (h : XOk g C X S) (hk : X.env.scope.kind = .function) {is : List Nat} {irs : List IR} {ts vs : List Expr} {k k2 : Nat} {tp p2 pos : Pos} (v1 : chkNs S is ts = true) (v2 : chkL (chkA g S) irs vs = true) (v3 : is.Nodup) (v4 : ts.length = vs.length) (v5 : vs.length ≤ 1000)
    (v6 : (!(swC S.sc ts vs && vs.all (constantsAlone 8))) = true) : PS X (.Assign [.Tuple ts k tp] (.Tuple vs k2 p2) pos) (tS X.K B C (.par is irs)) := by
  obtain ⟨_, _, ha, hn, hl⟩ := chkL_ok (X := X) (B := B) (C := C) (fun ir e v => (chkA_ok h v).1) _ _ v2
  obtain ⟨hg, hgn, hgl⟩ := names_pgs h is ts v1
  have sn : swapsWithSole [.Tuple ts k tp] (.Tuple vs k2 p2) pos.line X.env = pure false := rfl
  have se := sw_eq (k := k) (k2 := k2) (p := tp) (p2 := p2) (env := X.env) (ts := ts) (vs := vs) hk (by rw [h.sc]; simpa only [Bool.not_eq_true'] using v6)
  by_cases hs : swC X.env.scope ts vs = true
  · rw [if_pos hs] at se
    obtain ⟨n1, n2, n3⟩ := swNames_of hs
    obtain ⟨e1, e2⟩ := nm_local n1
    have se' : swappedStores [.Tuple ts k tp] (.Tuple vs k2 p2) X.env = pure (some (ts.map nameOf)) := by rw [se]; unfold swNames; rw [e1]
    have nm : ∀ {i : Nat} {x : Str}, locB S x i = true → X.N[i]? = some x := fun v => (loc_pg (pos := ⟨0, 0, 0, 0⟩) h v).2.1
    rcases n2 with n2 | n2
    · match ts, vs, is, irs, n2, v4, hgl, hl with
      | [ta, tb], [ea, eb], [i, j], [ia, ib], _, _, _, _ =>
        obtain ⟨x, px, rfl, lx⟩ := e2 ta (by simp)
        obtain ⟨y, py, rfl, ly⟩ := e2 tb (by simp)
        simp only [chkNs, Bool.and_eq_true] at v1
        simp only [List.nodup_cons, List.mem_singleton] at v3
        exact s_par2 (ps_par h.calm h.nd (nm v1.1) (nm v1.2.1) v3.1 lx ly ha se' sn)
    · match ts, vs, is, irs, n2, v4, hgl, hl with
      | [ta, tb, tc], [ea, eb, ec], [i, j, l], [ia, ib, ic], _, _, _, _ =>
        obtain ⟨x, px, rfl, lx⟩ := e2 ta (by simp)
        obtain ⟨y, py, rfl, ly⟩ := e2 tb (by simp)
        obtain ⟨z, pz, rfl, lz⟩ := e2 tc (by simp)
        simp only [chkNs, Bool.and_eq_true] at v1
        simp only [List.nodup_cons, List.mem_cons, List.mem_singleton, not_or] at v3
        exact s_par3 (ps_par3 h.calm h.nd (nm v1.1) (nm v1.2.1) (nm v1.2.2.1) v3.1.1 v3.1.2.1 v3.2.1.1 lx ly lz ha se' sn)
  · rw [if_neg hs] at se
    refine s_parT (n := is.length) h.calm ha (pg_tup h.calm hg (by rw [asg_len]; exact hgl) (asg_nostar hgn)) (by omega) hl v5 sn se
theorem chkSt_okB (h : XOk g C X S) (hk : X.env.scope.kind = .function) (hp : PassesOwn (model X.prog X.w) X.A X.env X.xe) : ∀ (n : Nat) (s : SIR) (st : Stmt), chkSt g S n s st = true → ∀ B : Bs, PS X st (tS X.K B C s)
  | 0, _, _, v, _ => by simp [chkSt] at v
  | n + 1, s, st, v, B => by
    have ihB := fun s st v => chkSt_okB h hk hp n s st v
    have ih := fun s st v => ihB s st v B
    unfold chkSt at v
    split at v
    · simp only [Bool.and_eq_true] at v
      exact st_name h hk v.1.1 v.1.2 v.2
    · simp only [Bool.and_eq_true, Bool.not_eq_true'] at v
      obtain ⟨⟨v1, v2⟩, v3⟩ := v
      rename_i ts ir es k tp e spos
      have z1 : swapsWithSole [.Tuple es k tp] e spos.line X.env = pure false := sw_notName (t := .Tuple es k tp) (fun x p z => by cases z) spos.line X.env
      have z2 : swappedStores [.Tuple es k tp] e X.env = pure none := by cases e <;> first | rfl | simp [isTup] at v1
      exact s_tup (ps_asg (chkA_ok h v3).1.E (chkT_ok h _ _ v2) z1 z2)
    · simp only [Bool.and_eq_true, decide_eq_true_eq] at v
      obtain ⟨⟨⟨⟨⟨v1, v2⟩, v3⟩, v4⟩, v5⟩, v6⟩ := v
      exact st_par h hk v1 v2 v3 v4 v5 v6
    · simp only [Bool.and_eq_true, decide_eq_true_eq] at v
      obtain ⟨⟨v1, v2⟩, v3⟩ := v
      obtain ⟨_, hi, hx, hf⟩ := loc_pg (pos := ⟨0, 0, 0, 0⟩) h v1
      exact s_aug v2 h.nd hi hx hf (chkA_ok h v3).1
    · simp only [Bool.and_eq_true, decide_eq_true_eq] at v
      obtain ⟨⟨⟨⟨v1, v2⟩, v3⟩, v4⟩, v5⟩ := v
      exact s_augS h.hu v2 (slot_pe h v1) (chkA_ok h v4).1 (chkA_ok h v5).1 (aug_sub v3)
    · simp only [Bool.and_eq_true] at v
      obtain ⟨⟨⟨v1, v2⟩, v3⟩, v4⟩ := v
      rename_i i ix ir x px a sp e spos
      have z1 : swapsWithSole [.Subscript (.Name x px) a sp] e spos.line X.env = pure false := sw_notName (t := .Subscript (.Name x px) a sp) (fun x p z => by cases z) spos.line X.env
      exact s_setS h.hu (slot_pe h v1) (chkA_ok h v3).1 (chkA_ok h v4).1 z1 (assign_sub v2)
    · simp only [Bool.and_eq_true, Bool.not_eq_true'] at v
      obtain ⟨⟨⟨⟨⟨v1, v2⟩, v3⟩, v4⟩, v5⟩, v6⟩ := v
      obtain ⟨_, _, ha, hn, hl⟩ := chkL_ok (X := X) (B := B) (C := C) (fun ir e v => (chkA_ok h v).1) _ _ v5
      have hsw := v6
      rw [← h.sc] at hsw
      refine s_parS h.calm ha (pg_tup h.calm (pgs_cons (loc_pg h v1).1 (pgs_cons (pg_sub (slot_pe h v2) (chkA_ok h v4).1.E set_list (assign_sub v3)) pgs_nil (asg_cons rfl)) (asg_cons rfl)) (by rw [asg_len]; rfl) (asg_nostar rfl)) rfl ?_
      rw [sw_eq hk (by rw [hsw]; rfl), hsw]; rfl
    · simp only [Bool.and_eq_true, Bool.not_eq_true'] at v
      exact s_exp (chkA_ok h v.2).1 (sw_plain v.1 _ _ _)
    · exact s_ret (chkA_ok h v).1
    · rw [noneK_eq v]; exact s_retN
    · simp only [Bool.and_eq_true] at v
      obtain ⟨⟨⟨v1, v2⟩, v3⟩, v4⟩ := v
      exact s_if ((chkA_ok h v2).2 _ v1) (chkSs_ok ih _ _ v3) (chkSs_ok ih _ _ v4)
    · simp only [Bool.and_eq_true] at v
      obtain ⟨⟨⟨v1, v2⟩, v3⟩, v4⟩ := v
      rename_i t is b tg it eb spos
      rcases kys_or is with ⟨i, rfl⟩ | hn
      · obtain ⟨x, xp, rfl, vx⟩ := chkS_kys v2
        exact s_forK hp h.calm (slot_pe h vx) (fun B => chkT_ok h _ _ v3) (fun B => chkSs_ok (fun s st v => ihB s st v B) _ _ v4) (foldset v1)
      exact s_for hp h.calm (src_ok h (fun S X ir e h v => chk_ok F0 S X ir e h v) v2 hn).2 (chkT_ok h _ _ v3) (chkSs_ok ih _ _ v4) (foldset v1)
    · simp only [Bool.and_eq_true] at v
      obtain ⟨⟨v1, v2⟩, v3⟩ := v
      exact s_while hp ((chkA_ok h v2).2 _ v1) (chkSs_ok ih _ _ v3)
    · exact s_brk
    · exact s_ct
    · exact s_pass
    · cases v
theorem chkSt_ok (h : XOk g C X S) (hk : X.env.scope.kind = .function) (hp : PassesOwn (model X.prog X.w) X.A X.env X.xe) (n : Nat) (s : SIR) (st : Stmt) (v : chkSt g S n s st = true) : PS X st (tS X.K B C s) := chkSt_okB h hk hp n s st v B
end
end Pv

set_option Elab.async false
set_option linter.all false
set_option maxRecDepth 100000
set_option maxHeartbeats 4000000
/-! PvS: a table of defs, each by its checked IR. -/
namespace Pv
open PySem PySem.Spec L2
section
variable {K : PySem.W.Frag} {G H : Hp} {C : Ctx}
theorem Paired.of {α β : Type} {P : α → β → Prop} : ∀ {xs : List α} {ys : List β}, xs.length = ys.length → (∀ (k : Nat) (x : α) (y : β), xs[k]? = some x → ys[k]? = some y → P x y) → Paired P xs ys
  | [], [], _, _ => .nil
  | [], _ :: _, h, _ => by simp at h
  | _ :: _, [], h, _ => by simp at h
  | x :: xs, y :: ys, h, f => .cons (f 0 x y rfl rfl) (Paired.of (by simpa using h) fun k a b h1 h2 => f (k + 1) a b (by simpa using h1) (by simpa using h2))
theorem nd_inj : ∀ {as : List Addr} {i j : Nat} {a : Addr}, as.Nodup → as[i]? = some a → as[j]? = some a → i = j
  | [], i, j, a, _, h, _ => by simp at h
  | b :: r, 0, 0, a, _, _, _ => rfl
  | b :: r, 0, j + 1, a, nd, h1, h2 => by
    simp at h1 h2; subst h1
    exact absurd (List.mem_of_getElem? h2) (List.nodup_cons.mp nd).1
  | b :: r, i + 1, 0, a, nd, h1, h2 => by
    simp at h1 h2; subst h2
    exact absurd (List.mem_of_getElem? h1) (List.nodup_cons.mp nd).1
  | b :: r, i + 1, j + 1, a, nd, h1, h2 => congrArg (· + 1) (nd_inj (List.nodup_cons.mp nd).2 (by simpa using h1) (by simpa using h2))
theorem iosOf_at : ∀ {n : Nat} {E : Env} {cs : List D}, iosOf E n = some cs → cs.length = n ∧ ∀ k d, cs[k]? = some d → gets E k = .io d
  | 0, _, _, h => by simp only [iosOf] at h; cases h; exact ⟨rfl, fun k d e => by simp at e⟩
  | n + 1, E, cs, h => by
    simp only [iosOf, Option.bind_eq_some_iff] at h
    obtain ⟨ds, h1, h2⟩ := h
    obtain ⟨l, q⟩ := iosOf_at h1
    split at h2
    · rename_i d g
      cases h2
      refine ⟨by simp [l], fun k d' e => ?_⟩
      by_cases hk : k < n
      · rw [List.getElem?_append_left (by omega)] at e
        exact q k d' e
      · rw [List.getElem?_append_right (by omega), l] at e
        have : k - n = 0 := by
          cases z : k - n with
          | zero => rfl
          | succ m => rw [z] at e; simp at e
        rw [this] at e
        simp at e
        subst e
        have : k = n := by omega
        rw [this]
        exact g
    · cases h2
theorem gets_start {F : FDef} {cs ds : List D} (hc : cs.length = F.nio) (i : Nat) :
    gets (startE F (cs ++ ds)) i = match cs[i]? with
      | some d => .io d
      | none => match ds[i - F.nio]? with
        | some d => .sh d
        | none => .un := by
  unfold gets startE
  rw [List.getD_eq_getElem?_getD, List.take_left' hc, List.drop_left' hc]
  by_cases h1 : i < cs.length
  · rw [List.append_assoc, List.getElem?_append_left (by simpa using h1), List.getElem?_map, List.getElem?_eq_getElem h1]
    rfl
  · rw [List.getElem?_eq_none (l := cs) (by omega)]
    by_cases h2 : i - F.nio < ds.length
    · rw [List.append_assoc, List.getElem?_append_right (by simp; omega), List.getElem?_append_left (by simp; omega), List.length_map, hc, List.getElem?_map, List.getElem?_eq_getElem h2]
      rfl
    · rw [List.getElem?_eq_none (l := ds) (by omega), List.getElem?_append_right (by simp; omega), List.getElem?_replicate]
      split <;> rfl
theorem frm_start {F : FDef} {N : List Str} {as : List Addr} {cs ds : List D} {ws : List V} (s : Same G H) (nd : as.Nodup) (hp : Paired (fun a d => G a = none ∧ Own K G H a d) as cs) (r : RpAll K G ws ds)
    (hc : cs.length = F.nio) (hl : (cs ++ ds).length = F.np) (hn : F.np ≤ F.ns) (hN : N.length = F.ns) : Frm K ⟨H, G, as⟩ G H (startE F (cs ++ ds)) (L2.start N (as.map V.ref ++ ws)) := by
  have la := Paired.len hp
  have lw := r.len
  rw [List.length_append] at hl
  have vl : (as.map V.ref ++ ws).length = F.np := by simp; omega
  have st1 : ∀ i a, as[i]? = some a → (L2.start N (as.map V.ref ++ ws))[i]? = some (some (V.ref a)) := fun i a h => by
    have hi : i < as.length := (List.getElem?_eq_some_iff.mp h).1
    unfold L2.start
    rw [List.getElem?_append_left (by simp; omega), List.getElem?_map, List.getElem?_append_left (by simpa using hi), List.getElem?_map, h]
    rfl
  have io : ∀ i d, gets (startE F (cs ++ ds)) i = .io d → ∃ a, as[i]? = some a ∧ cs[i]? = some d := fun i d h => by
    rw [gets_start hc] at h
    split at h
    · rename_i d' e
      cases h
      have : i < as.length := by have := (List.getElem?_eq_some_iff.mp e).1; omega
      exact ⟨_, List.getElem?_eq_getElem this, e⟩
    · split at h <;> cases h
  have noow : ∀ i d, gets (startE F (cs ++ ds)) i ≠ .ow d := fun i d h => by
    rw [gets_start hc] at h
    split at h
    · cases h
    · split at h <;> cases h
  refine ⟨s, ?_, fun i d h => ?_, fun i d h => absurd h (noow i d), fun i d h => ?_, fun i j a hi hj e1 e2 => ?_, fun b o h _ => h, fun b h => ?_, fun b o _ h => .inl ⟨o, h⟩⟩
  · unfold startE L2.start
    simp
    omega
  · rw [gets_start hc] at h
    split at h
    · cases h
    · rename_i e
      split at h
      · rename_i d' e'
        cases h
        obtain ⟨v, hv, rv⟩ := r.get e'
        have hi : F.nio ≤ i := by have := List.getElem?_eq_none_iff.mp e; omega
        have hw : i - F.nio < ws.length := (List.getElem?_eq_some_iff.mp hv).1
        refine ⟨v, ?_, rv⟩
        unfold L2.start
        rw [List.getElem?_append_left (by simp; omega), List.getElem?_map, List.getElem?_append_right (by simp; omega), List.length_map, la, hc, hv]
        rfl
      · cases h
  · obtain ⟨a, h1, h2⟩ := io i d h
    obtain ⟨q1, q2⟩ := Paired.nth hp h1 h2
    exact ⟨a, h1, st1 i a h1, q1, q2⟩
  · have gi : ∀ k, Wr (startE F (cs ++ ds)) k → ∃ a, as[k]? = some a ∧ (L2.start N (as.map V.ref ++ ws))[k]? = some (some (.ref a)) := fun k hk => by
      rcases hk with ⟨d, hk⟩ | ⟨d, hk⟩
      · exact absurd hk (noow k d)
      · obtain ⟨a, h1, _⟩ := io k d hk
        exact ⟨a, h1, st1 k a h1⟩
    obtain ⟨a1, p1, p2⟩ := gi i hi
    obtain ⟨a2, p3, p4⟩ := gi j hj
    rw [e1] at p2; cases p2
    rw [e2] at p4; cases p4
    obtain ⟨l1, g1⟩ := List.getElem?_eq_some_iff.mp p1
    obtain ⟨l2, g2⟩ := List.getElem?_eq_some_iff.mp p3
    exact nd_inj nd p1 p3
  · obtain ⟨k, hk, e⟩ := List.getElem_of_mem h
    have hk : k < as.length := hk
    have e2 : cs[k]? = some cs[k] := List.getElem?_eq_getElem (by omega)
    exact (Paired.nth hp (by rw [List.getElem?_eq_getElem hk, e]) e2).2.there
/-- the end -/
theorem call_end {B : Bs} {G' H' : Hp} {E' : Env} {σ' : St} {n : Nat} {cs' : List D} {v : V} {r : D} (F : Frm K B G' H' E' σ') (hi : iosOf E' n = some cs') (hl : B.ioa.length = cs'.length) (s : Same B.Gin G') (rv : Rp K G' v r) : CallEnd K B.Gin B.H0 B.ioa G' H' cs' v r := by
  obtain ⟨l, q⟩ := iosOf_at hi
  refine ⟨s, F.sub, F.keep, F.new, Paired.of hl fun k a d h1 h2 => ?_, rv⟩
  obtain ⟨a', h0, _, g, o⟩ := F.io k d (q k d h2)
  rw [h1] at h0
  cases h0
  exact ⟨g, o⟩
end

/-! ### the table -/
def scB (N P : List Str) (sc : Scope) : Bool := decide (sc.kind = .function) && !sc.isCoroutine && !sc.isGenerator && decide N.Nodup && decide (N.take P.length = P) &&
  P.all (fun x => decide (sc.names.lookup x = some .local) || decide (sc.names.lookup x = some .cell)) && sc.names.all fun y => !decide (y.2 = .free)
theorem scB_ok {N P : List Str} {sc : Scope} (h : scB N P sc = true) : FnScope N P sc := by
  unfold scB at h
  simp only [Bool.and_eq_true, Bool.not_eq_true', decide_eq_true_eq, List.all_eq_true, Bool.or_eq_true, decide_eq_false_iff_not] at h
  obtain ⟨⟨⟨⟨⟨⟨h1, h2⟩, h3⟩, h4⟩, h5⟩, h6⟩, h7⟩ := h
  exact ⟨h1, h2, h3, h4, h5, h6, h7⟩
structure Row where
  d : He.DefD
  F : FDef
  N : List Str
def BindP (d : He.DefD) (ps : List Str) : Prop := ∀ (kV doc pm : Value) (an : Option Addr) (cdv ct : Value) (us : List Value), us.length = ps.length → bindArgs (PySem.W.fnOf d.name d.qual d.params d.body d.scope .none kV doc pm an cdv ct) ⟨us, []⟩ = pure (ps.zip us)
def rowB (g : GE) (r : Row) : Bool := decide (r.F.np ≤ r.F.ns) && decide (r.F.nio ≤ r.F.np) && decide (r.N.length = r.F.ns) && scB r.N (r.N.take r.F.np) r.d.scope && r.d.dfl.isEmpty &&
  chkSs (chkSt g ⟨r.N, r.d.scope, fun _ => true⟩ 60) r.F.body r.d.body
/-- what the head tells -/
structure Heads (rows : List Row) (g : GE) (gl : List D) (K : PySem.W.Frag) (mg : Str → Option Value) (fAt : Nat → Addr) : Prop where
  ok : ∀ r ∈ rows, rowB g r = true
  fd : ∀ i r, rows[i]? = some r → ∃ fd, FunD K r.d.name r.d.qual r.d.params r.d.body r.d.scope [] [] (fAt i) fd
  fs : ∀ x id np, g.fs.lookup x = some (id, np) → ∃ r, rows[id]? = some r ∧ r.F.np = np ∧ mg x = some (.ref (fAt id)) ∧ BindP r.d (r.N.take r.F.np)
  fr : ∀ x ∈ g.free, mg x = none
  cs : ∀ x k, g.cs.lookup x = some k → ∃ u v d, mg x = some u ∧ RelV v u ∧ gl[k]? = some d ∧ ∀ G, Rp K G v d
section
variable {P : Program} {w : World} {K : PySem.W.Frag} {mg : Str → Option Value} {base : Heap} {rows : List Row} {g : GE} {gl : List D} {fAt : Nat → Addr}
def tabOf (rows : List Row) : List FDef := rows.map (·.F)
theorem callN_zero {T : List FDef} {gl : List D} {f : Nat} {args : List D} : callN T gl 0 f args = none := rfl
theorem fnok_zero {f : Addr} {fd : FuncData} {ps : List Str} {T : List FDef} {i np k : Nat} : FnOk P w K mg base CX0 k f fd ps (spF K (callN T gl 0) i np) := by
  refine ⟨fun vs H Q E h => ?_, fun A outer s H args us vs Q E hr he hb hv h => ?_⟩ <;>
  · obtain ⟨G, as, cs, ws, ds, r, cs', _, _, _, _, _, _, h, _⟩ := h
    rw [callN_zero] at h
    cases h
theorem fnok (h : Heads rows g gl K mg fAt) : ∀ (n i : Nat) (r : Row) (fd : FuncData), rows[i]? = some r → FunD K r.d.name r.d.qual r.d.params r.d.body r.d.scope [] [] (fAt i) fd →
    FnOk P w K mg base CX0 n (fAt i) fd (r.N.take r.F.np) (spF K (callN (tabOf rows) gl n) i r.F.np)
  | 0, _, _, _, _, _ => fnok_zero
  | n + 1, i, r, fd, hi, F => by
    have hB := h.ok r (List.mem_of_getElem? hi)
    unfold rowB at hB
    simp only [Bool.and_eq_true, decide_eq_true_eq] at hB
    obtain ⟨⟨⟨⟨⟨b1, b2⟩, b3⟩, b4⟩, b5⟩, b6⟩ := hB
    have S := scB_ok b4
    have len : (r.N.take r.F.np).length = r.F.np := by rw [List.length_take]; omega
    refine F.ok S (fun vs H Q E h => ?_) (fun cdv A outer s H vs Q E hr hsp => ?_)
    · obtain ⟨G, as, cs, ws, ds, r', cs', _, hl, _⟩ := h
      rw [len]; exact hl
    · obtain ⟨G, as, cs, ws, ds, r', cs', rfl, hl, sm, nd, hp, hr2, hc, hcl, hQ⟩ := hsp
      have ec : callN (tabOf rows) gl (n + 1) i (cs ++ ds) = runDef ⟨callN (tabOf rows) gl n, gl⟩ r.F (cs ++ ds) := by
        show (match (tabOf rows)[i]? with | some F => runDef ⟨callN (tabOf rows) gl n, gl⟩ F (cs ++ ds) | none => none) = _
        have : (tabOf rows)[i]? = some r.F := by unfold tabOf; rw [List.getElem?_map, hi]; rfl
        rw [this]
      rw [ec] at hc
      unfold runDef at hc
      split at hc
      · rename_i hlen
        have X : XOk g ⟨callN (tabOf rows) gl n, gl⟩ (cxOf CX0 P w K mg base r.N r.d.qual r.d.scope (fAt i) cdv A outer s H E).nox ⟨r.N, r.d.scope, fun _ => true⟩ := by
          refine ⟨rfl, rfl, rfl, rfl, S.nd, ?_, fun x id np hx => ?_, h.fr, h.cs⟩
          · have := hr.un
            show (A.deeper _).units + 65 < _
            omega
          · obtain ⟨r2, h2, hnp, hm, hb⟩ := h.fs x id np hx
            obtain ⟨fd2, F2⟩ := h.fd id r2 h2
            subst hnp
            exact ⟨n, fAt id, fd2, _, fnok h n id r2 fd2 h2 F2, hr, hm, F2.kp, F2.bindsN hb⟩
        have B : Bs := ⟨H, G, as⟩
        have ps := chkSs_ok (B := ⟨H, G, as⟩) (fun s st v => chkSt_ok (B := ⟨H, G, as⟩) X S.kind PassesOwn.never 60 s st v) _ _ b6
        have hio : as.length = r.F.nio := by
          split at hc
          · simp only [Option.map_eq_some_iff, Prod.mk.injEq] at hc
            obtain ⟨c, e1, _, rfl⟩ := hc
            rw [hcl]; exact (iosOf_at e1).1
          · simp only [Option.map_eq_some_iff, Prod.mk.injEq] at hc
            obtain ⟨c, e1, _, rfl⟩ := hc
            rw [hcl]; exact (iosOf_at e1).1
          · cases hc
        have F0 := frm_start (N := r.N) sm nd hp hr2 (by rw [← Paired.len hp]; exact hio) hlen.1 b1 b3
        refine ⟨_, PSs.nox ps, ?_⟩
        split at hc
        · rename_i E' he
          simp only [Option.map_eq_some_iff, Prod.mk.injEq] at hc
          obtain ⟨c, e1, rfl, rfl⟩ := hc
          exact ⟨G, _, _, F0, he, fun σ' G' H' F1 s1 => hQ _ G' H' (call_end F1 e1 hcl s1 .non)⟩
        · rename_i d E' he
          simp only [Option.map_eq_some_iff, Prod.mk.injEq] at hc
          obtain ⟨c, e1, rfl, rfl⟩ := hc
          exact ⟨G, _, _, F0, he, fun v σ' G' H' F1 s1 rv => hQ v G' H' (call_end F1 e1 hcl s1 rv)⟩
        · cases hc
      · cases hc
/-- the law -/
theorem law_ok (h : Heads rows g gl K mg fAt) {i : Nat} {r : Row} {n : Nat} {fd : FuncData} (hi : rows[i]? = some r) (F : FunD K r.d.name r.d.qual r.d.params r.d.body r.d.scope [] [] (fAt i) fd) {x : Str} (hx : r.N.take r.F.np = [x]) (hn : r.F.np = 1) {sp : Sp}
    (hs : ∀ vs H Q E, sp vs H Q E → ∃ (a : Addr) (ns : List Int), vs = [.ref a] ∧ SqL K H a (ns.map V.int) ∧ (∃ E2, callN (tabOf rows) gl n i [.dict [(.none, .list (ns.map PyData.int))]] = some (.bool true, E2) ∧ E2 = []) ∧ ∀ H', Q (.bl true) H') :
    FnOk P w K mg base CX0 n (fAt i) fd [x] sp := by
  have q := fnok (P := P) (w := w) (base := base) h n i r fd hi F
  rw [hx, hn] at q
  refine q.imp fun vs H Q E hsp => ?_
  obtain ⟨a, ns, rfl, hS, ⟨E2, hc, rfl⟩, hQ⟩ := hs vs H Q E hsp
  have ri : ∀ ns : List Int, RpAll K H (ns.map V.int) (ns.map PyData.int) := fun ns => by
    induction ns with
    | nil => exact .nil
    | cons m r ih => exact .cons (.int m) ih
  refine ⟨H, [], [], [.ref a], [.dict [(.none, .list (ns.map PyData.int))]], _, _, rfl, rfl, Same.refl _, List.nodup_nil, .nil, .cons (.frz hS (ri ns)) .nil, hc, rfl, fun v G' H' ce => ?_⟩
  have := ce.rp
  cases this
  exact hQ H'
end
end Pv

set_option Elab.async false
set_option linter.all false
set_option maxRecDepth 100000
set_option maxHeartbeats 4000000
/-! PvT: what the head tells of a table of defs. -/
namespace Pv
open PySem PySem.Spec L2
/-! ### constants of the module -/
mutual
def conD (K : PySem.W.Frag) : D → Value → Bool
  | .none, u => (match u with
    | .none => true
    | _ => false)
  | .bool b, u => (match u with
    | .bool c => b == c
    | _ => false)
  | .int i, u => (match u with
    | .int j _ => decide (i = j)
    | _ => false)
  | .str x, u => (match u with
    | .str y _ => decide (x = y)
    | _ => false)
  | .tuple ds, u => (match u with
    | .ref a => (match K.lookup a with
      | some ⟨.type c, _, .seq its _, _⟩ => decide (c = "tuple") && (decide (its.size ≤ sizeLine) && (ctB ds && conDs K ds its.toList))
      | _ => false)
    | _ => false)
  | _, _ => false
def conDs (K : PySem.W.Frag) : List D → List Value → Bool
  | [], us => us.isEmpty
  | d :: ds, us => (match us with
    | u :: us => conD K d u && conDs K ds us
    | [] => false)
end
section
variable {K : PySem.W.Frag}
mutual
theorem conD_ok : ∀ (d : D) (u : Value), conD K d u = true → ∃ v, RelV v u ∧ ∀ G, Rp K G v d
  | .none, u, h => by
    simp only [conD] at h
    split at h
    · exact ⟨.non, rfl, fun _ => .non⟩
    · cases h
  | .bool b, u, h => by
    simp only [conD] at h
    split at h
    · have := eq_of_beq h
      subst this
      exact ⟨.bl _, rfl, fun _ => .bl _⟩
    · cases h
  | .int i, u, h => by
    simp only [conD] at h
    split at h
    · have := of_decide_eq_true h
      subst this
      exact ⟨.int _, ⟨_, rfl⟩, fun _ => .int _⟩
    · cases h
  | .str x, u, h => by
    simp only [conD] at h
    split at h
    · have := of_decide_eq_true h
      subst this
      exact ⟨.str _, ⟨_, rfl⟩, fun _ => .str _⟩
    · cases h
  | .tuple ds, u, h => by
    simp only [conD] at h
    split at h
    · split at h
      · rename_i q
        simp only [Bool.and_eq_true, decide_eq_true_eq] at h
        obtain ⟨h1, h2, h4, h3⟩ := h
        subst h1
        obtain ⟨vs, r, k⟩ := conDs_ok ds _ h3
        exact ⟨.ref _, rfl, fun G => .tup (.inr ⟨.inr ⟨_, _, _, q, rfl, rfl, h2, r⟩, h4⟩) (k G)⟩
      · cases h
    · cases h
  | .list ds, u, h => by simp [conD] at h
  | .dict ds, u, h => by simp [conD] at h
theorem conDs_ok : ∀ (ds : List D) (us : List Value), conDs K ds us = true → ∃ vs, Vals vs us ∧ ∀ G, RpAll K G vs ds
  | [], us, h => by
    simp only [conDs, List.isEmpty_iff] at h
    subst h
    exact ⟨[], .nil, fun _ => .nil⟩
  | d :: ds, us, h => by
    cases us with
    | nil => simp [conDs] at h
    | cons u us =>
      simp only [conDs, Bool.and_eq_true] at h
      obtain ⟨v, r1, k1⟩ := conD_ok d u h.1
      obtain ⟨vs, r2, k2⟩ := conDs_ok ds us h.2
      exact ⟨v :: vs, .cons r1 r2, fun G => .cons (k1 G) (k2 G)⟩
end
end
/-! ### what is looked at -/
def fnL (rows : List Row) : List He.DefD := rows.map (·.d)
def faL (rows : List Row) (g : GE) : List He.Fa := rows.map (fun r => .glo r.d.name) ++ g.free.map .free
def exL (g : GE) (gl : List D) (K : PySem.W.Frag) : Bool := g.cs.all fun p => match PySem.W.nsIn K mainGlobals p.1, gl[p.2]? with
  | some (some u), some d => conD K d u
  | _, _ => false
def fAtL (rows : List Row) (K : PySem.W.Frag) (i : Nat) : Addr := match rows[i]? with
  | some r => He.ga K r.d.name
  | none => 0
def plainB (rows : List Row) (g : GE) : Bool := (rows.all fun r => decide (r.d.at_ = (r.d.name, none)) && r.d.dfl.isEmpty && r.d.kwd.isEmpty && rowB g r) &&
  g.fs.all fun e => match rows[e.2.1]? with
    | some r => decide (r.d.name = e.1) && decide (r.F.np = e.2.2)
    | none => false
theorem lookup_in {α β : Type} [BEq α] [LawfulBEq α] {x : α} {y : β} : ∀ {l : List (α × β)}, l.lookup x = some y → (x, y) ∈ l
  | [], h => by cases h
  | (a, b) :: r, h => by
    rw [List.lookup_cons] at h
    split at h
    · rename_i q
      have := eq_of_beq q
      cases h
      subst this
      exact List.mem_cons_self
    · exact List.mem_cons_of_mem _ (lookup_in h)
theorem heads_of {rows : List Row} {g : GE} {gl : List D} {K : PySem.W.Frag} {h : Heap} {mg : Str → Option Value} {w : World} {ts : List He.Tab} {tf : List He.Defn} (X : K.In h) (G : h.Ns mainGlobals mg) (c : He.SaysX (faL rows g) (fnL rows) ts tf (exL g gl) w h K)
    (hp : plainB rows g = true) (hb : ∀ r ∈ rows, BindP r.d (r.N.take r.F.np)) : Heads rows g gl K mg (fAtL rows K) := by
  unfold plainB at hp
  simp only [Bool.and_eq_true, List.all_eq_true, decide_eq_true_eq, List.isEmpty_iff] at hp
  obtain ⟨hp1, hp2⟩ := hp
  refine ⟨fun r hr => (hp1 r hr).2, fun i r hi => ?_, fun x id np hx => ?_, fun x hx => ?_, fun x k hx => ?_⟩
  · have hr := List.mem_of_getElem? hi
    obtain ⟨⟨⟨q1, q2⟩, q3⟩, _⟩ := hp1 r hr
    obtain ⟨fd, F⟩ := He.SaysD.defs c.t.d (d := r.d) (List.mem_map_of_mem hr)
    refine ⟨fd, ?_⟩
    have e1 : He.DefD.dvs K r.d = [] := by unfold He.DefD.dvs; rw [q2]; rfl
    have e2 : He.DefD.kws K r.d = [] := by unfold He.DefD.kws; rw [q3]; rfl
    have e3 : fAtL rows K i = He.fAd K r.d.at_ := by unfold fAtL; rw [hi, q1]; rfl
    rw [e1, e2] at F
    rw [e3]
    exact F
  · have := hp2 _ (lookup_in hx)
    split at this
    · rename_i r hi
      simp only [Bool.and_eq_true, decide_eq_true_eq] at this
      obtain ⟨h1, h2⟩ := this
      have hr := List.mem_of_getElem? hi
      refine ⟨r, hi, h2, ?_, hb r hr⟩
      have q := He.glo_ok X G (He.SaysD.facts c.t.d (f := .glo r.d.name) (List.mem_append_left _ (List.mem_map.mpr ⟨r, hr, rfl⟩)))
      have e3 : fAtL rows K id = He.ga K r.d.name := by unfold fAtL; rw [hi]
      rw [← h1, e3]
      exact q
    · cases this
  · exact He.free_ok X G (He.SaysD.facts c.t.d (f := .free x) (List.mem_append_right _ (List.mem_map.mpr ⟨x, hx, rfl⟩)))
  · have q := List.all_eq_true.mp c.more _ (lookup_in hx)
    split at q
    · rename_i u d e1 e2
      obtain ⟨v, r, k'⟩ := conD_ok d u q
      exact ⟨u, v, d, PySem.W.mg_of X G e1, r, e2, k'⟩
    · cases q
def defD (x : Str) (s : Stmt) : He.DefD := ⟨(x, none), x, x, defArgs s, defBody s, defScope s, [], []⟩
end Pv

set_option Elab.async false
set_option linter.all false
set_option maxRecDepth 100000
set_option maxHeartbeats 400000
/-! PvU: reading the interpreter ahead of what is wanted (rows for simp, each at the root: ↓), loops. -/
namespace Pv
open PySem
section
variable {α β : Type} {C : Ctx} {E : Env}
def wp (x : Option α) (Q : α → Prop) : Prop := ∃ a, x = some a ∧ Q a
theorem wp_some (a : α) (Q : α → Prop) : wp (some a) Q = Q a := propext ⟨fun ⟨_, e, q⟩ => by cases e; exact q, fun q => ⟨a, rfl, q⟩⟩
theorem wp_bind (x : Option α) (f : α → Option β) (Q : β → Prop) : wp (x.bind f) Q = wp x fun a => wp (f a) Q := propext ⟨fun ⟨b, e, q⟩ => by
  obtain ⟨a, e1, e2⟩ := Option.bind_eq_some_iff.mp e
  exact ⟨a, e1, b, e2, q⟩, fun ⟨a, e1, b, e2, q⟩ => ⟨b, Option.bind_eq_some_iff.mpr ⟨a, e1, e2⟩, q⟩⟩
theorem wp_map (x : Option α) (f : α → β) (Q : β → Prop) : wp (x.map f) Q = wp x fun a => Q (f a) := propext ⟨fun ⟨b, e, q⟩ => by
  obtain ⟨a, e1, rfl⟩ := Option.map_eq_some_iff.mp e
  exact ⟨a, e1, q⟩, fun ⟨a, e1, q⟩ => ⟨f a, Option.map_eq_some_iff.mpr ⟨a, e1, rfl⟩, q⟩⟩
theorem wp_imp {x : Option α} {Q R : α → Prop} (h : wp x Q) (m : ∀ a, Q a → R a) : wp x R := let ⟨a, e, q⟩ := h; ⟨a, e, m a q⟩
theorem wp_of {x : Option α} {a : α} {Q : α → Prop} (h : x = some a) : wp x Q = Q a := by rw [h, wp_some]
theorem wp_none (Q : α → Prop) : wp none Q = False := propext ⟨fun ⟨_, e, _⟩ => (nomatch e), fun h => False.elim h⟩
/-! slots -/
def wGet (i : Nat) (E : Env) (Q : Slot → Prop) : Prop := Q (gets E i)
theorem wGet_z (a : Slot) (l : Env) (Q) : wGet 0 (a :: l) Q = Q a := rfl
theorem wGet_s (n : Nat) (a : Slot) (l : Env) (Q) : wGet (n + 1) (a :: l) Q = wGet n l Q := rfl
def wSet (i : Nat) (s : Slot) (E : Env) (Q : Env → Prop) : Prop := Q (E.set i s)
theorem wSet_z (s a : Slot) (l : Env) (Q) : wSet 0 s (a :: l) Q = Q (s :: l) := rfl
theorem wSet_s (n : Nat) (s a : Slot) (l : Env) (Q) : wSet (n + 1) s (a :: l) Q = wSet n s l fun l' => Q (a :: l') := rfl
def wCt (s : Slot) (Q : D → Prop) : Prop := wp s.cont Q
theorem wCt_sh (d Q) : wCt (.sh d) Q = Q d := wp_some _ _
theorem wCt_ow (d Q) : wCt (.ow d) Q = Q d := wp_some _ _
theorem wCt_io (d Q) : wCt (.io d) Q = Q d := wp_some _ _
/-! expressions -/
def wE (C : Ctx) (e : IR) (E : Env) (Q : D → Env → Prop) : Prop := wp (ev C e E) fun p => Q p.1 p.2
def wEs (C : Ctx) (es : List IR) (E : Env) (Q : List D → Env → Prop) : Prop := wp (evs C es E) fun p => Q p.1 p.2
def wO (C : Ctx) (e : IR) (E : Env) (Q : Tok → Env → Prop) : Prop := wp (opd e (ev C e) E) fun p => Q p.1 p.2
def wOs (C : Ctx) (es : List IR) (E : Env) (Q : List Tok → Env → Prop) : Prop := wp (evo C es E) fun p => Q p.1 p.2
def wG (t : Tok) (E : Env) (Q : D → Prop) : Prop := wp (t.get E) Q
theorem wG_val (d E Q) : wG (.val d) E Q = Q d := wp_some _ _
theorem wG_bor (i E Q) : wG (.bor i) E Q = wGet i E fun s => wCt s Q := rfl
def wV (i : Nat) (E : Env) (Q : D → Env → Prop) : Slot → Prop
  | .sh d => Q d E
  | .ow d => wSet i (.sh d) E fun E' => Q d E'
  | _ => False
theorem wV_sh (i E Q d) : wV i E Q (.sh d) = Q d E := rfl
theorem wV_ow (i E Q d) : wV i E Q (.ow d) = wSet i (.sh d) E fun E' => Q d E' := rfl
theorem wE_k (d Q) : wE C (.k d) E Q = Q d E := by unfold wE; simp only [ev, wp_some]
theorem wE_var (i Q) : wE C (.var i) E Q = wGet i E (wV i E Q) := by
  unfold wE wGet; simp only [ev]
  cases gets E i <;> simp only [wp_some, wp_none, wV, wSet]
theorem wE_glb (g Q) : wE C (.glb g) E Q = wp C.gl[g]? fun d => Q d E := by unfold wE; simp only [ev, wp_map]
def wOv (i : Nat) (E : Env) (Q : Tok → Env → Prop) : Slot → Prop
  | .un => False
  | _ => Q (.bor i) E
theorem wOv_sh (i E Q d) : wOv i E Q (.sh d) = Q (.bor i) E := rfl
theorem wOv_ow (i E Q d) : wOv i E Q (.ow d) = Q (.bor i) E := rfl
theorem wOv_io (i E Q d) : wOv i E Q (.io d) = Q (.bor i) E := rfl
theorem wO_var (i Q) : wO C (.var i) E Q = wGet i E (wOv i E Q) := by
  unfold wO wGet; simp only [opd]
  cases gets E i <;> simp only [wp_some, wp_none, wOv]
def isV : IR → Bool
  | .var _ => true
  | _ => false
theorem wO_e (a : IR) (Q) (h : isV a = false) : wO C a E Q = wE C a E fun d E' => Q (.val d) E' := by
  unfold wO wE
  cases a <;> first | (simp only [opd, wp_map]; done) | simp [isV] at h
theorem wO_k (a Q) : wO C (.k a) E Q = wE C (.k a) E fun d E' => Q (.val d) E' := wO_e _ Q rfl
theorem wO_glb (a Q) : wO C (.glb a) E Q = wE C (.glb a) E fun d E' => Q (.val d) E' := wO_e _ Q rfl
theorem wO_bin (a b c Q) : wO C (.bin a b c) E Q = wE C (.bin a b c) E fun d E' => Q (.val d) E' := wO_e _ Q rfl
theorem wO_neg (a Q) : wO C (.neg a) E Q = wE C (.neg a) E fun d E' => Q (.val d) E' := wO_e _ Q rfl
theorem wO_not (a Q) : wO C (.not a) E Q = wE C (.not a) E fun d E' => Q (.val d) E' := wO_e _ Q rfl
theorem wO_cmp (a b c Q) : wO C (.cmp a b c) E Q = wE C (.cmp a b c) E fun d E' => Q (.val d) E' := wO_e _ Q rfl
theorem wO_chain (a b c d e Q) : wO C (.chain a b c d e) E Q = wE C (.chain a b c d e) E fun d E' => Q (.val d) E' := wO_e _ Q rfl
theorem wO_chn3 (a b c d e f g Q) : wO C (.chn3 a b c d e f g) E Q = wE C (.chn3 a b c d e f g) E fun d E' => Q (.val d) E' := wO_e _ Q rfl
theorem wO_and (a b Q) : wO C (.and a b) E Q = wE C (.and a b) E fun d E' => Q (.val d) E' := wO_e _ Q rfl
theorem wO_or (a b Q) : wO C (.or a b) E Q = wE C (.or a b) E fun d E' => Q (.val d) E' := wO_e _ Q rfl
theorem wO_ite (a b c Q) : wO C (.ite a b c) E Q = wE C (.ite a b c) E fun d E' => Q (.val d) E' := wO_e _ Q rfl
theorem wO_tup (a Q) : wO C (.tup a) E Q = wE C (.tup a) E fun d E' => Q (.val d) E' := wO_e _ Q rfl
theorem wO_lst (a Q) : wO C (.lst a) E Q = wE C (.lst a) E fun d E' => Q (.val d) E' := wO_e _ Q rfl
theorem wO_dctT (Q) : wO C .dctT E Q = wE C .dctT E fun d E' => Q (.val d) E' := wO_e _ Q rfl
theorem wO_dct (a Q) : wO C (.dct a) E Q = wE C (.dct a) E fun d E' => Q (.val d) E' := wO_e _ Q rfl
theorem wO_idx (a b Q) : wO C (.idx a b) E Q = wE C (.idx a b) E fun d E' => Q (.val d) E' := wO_e _ Q rfl
theorem wO_slc (a b c Q) : wO C (.slc a b c) E Q = wE C (.slc a b c) E fun d E' => Q (.val d) E' := wO_e _ Q rfl
theorem wO_call (a b c Q) : wO C (.call a b c) E Q = wE C (.call a b c) E fun d E' => Q (.val d) E' := wO_e _ Q rfl
theorem wO_blt (a b Q) : wO C (.blt a b) E Q = wE C (.blt a b) E fun d E' => Q (.val d) E' := wO_e _ Q rfl
theorem wO_mth (a b c Q) : wO C (.mth a b c) E Q = wE C (.mth a b c) E fun d E' => Q (.val d) E' := wO_e _ Q rfl
theorem wO_upd (a b Q) : wO C (.upd a b) E Q = wE C (.upd a b) E fun d E' => Q (.val d) E' := wO_e _ Q rfl
theorem wO_mut (a b c Q) : wO C (.mut a b c) E Q = wE C (.mut a b c) E fun d E' => Q (.val d) E' := wO_e _ Q rfl
theorem wO_rng (a Q) : wO C (.rng a) E Q = wE C (.rng a) E fun d E' => Q (.val d) E' := wO_e _ Q rfl
theorem wO_comp (a b c d e Q) : wO C (.comp a b c d e) E Q = wE C (.comp a b c d e) E fun d E' => Q (.val d) E' := wO_e _ Q rfl
theorem wO_callB (f is Q) : wO C (.callB f is) E Q = wE C (.callB f is) E fun d E' => Q (.val d) E' := wO_e _ Q rfl
theorem wO_kys (i Q) : wO C (.kys i) E Q = wE C (.kys i) E fun d E' => Q (.val d) E' := wO_e _ Q rfl
theorem wO_fz (a Q) : wO C (.fz a) E Q = wE C (.fz a) E fun d E' => Q (.val d) E' := wO_e _ Q rfl
theorem wO_rev (a Q) : wO C (.rev a) E Q = wE C (.rev a) E fun d E' => Q (.val d) E' := wO_e _ Q rfl
theorem wO_lrg (a Q) : wO C (.lrg a) E Q = wE C (.lrg a) E fun d E' => Q (.val d) E' := wO_e _ Q rfl
theorem wO_lrs (a Q) : wO C (.lrs a) E Q = wE C (.lrs a) E fun d E' => Q (.val d) E' := wO_e _ Q rfl
theorem wO_lzp (a Q) : wO C (.lzp a) E Q = wE C (.lzp a) E fun d E' => Q (.val d) E' := wO_e _ Q rfl
theorem wO_trg (a Q) : wO C (.trg a) E Q = wE C (.trg a) E fun d E' => Q (.val d) E' := wO_e _ Q rfl
theorem wO_lix (o e Q) : wO C (.lix o e) E Q = wE C (.lix o e) E fun d E' => Q (.val d) E' := wO_e _ Q rfl
theorem wO_cnt (o e Q) : wO C (.cnt o e) E Q = wE C (.cnt o e) E fun d E' => Q (.val d) E' := wO_e _ Q rfl
theorem wO_srs (e Q) : wO C (.srs e) E Q = wE C (.srs e) E fun d E' => Q (.val d) E' := wO_e _ Q rfl
theorem wO_rgs (a Q) : wO C (.rgs a) E Q = wE C (.rgs a) E fun d E' => Q (.val d) E' := wO_e _ Q rfl
theorem wO_zip (a b Q) : wO C (.zip a b) E Q = wE C (.zip a b) E fun d E' => Q (.val d) E' := wO_e _ Q rfl
theorem wO_inr (a b c Q) : wO C (.inr a b c) E Q = wE C (.inr a b c) E fun d E' => Q (.val d) E' := wO_e _ Q rfl
theorem wO_isi (a b Q) : wO C (.isi a b) E Q = wE C (.isi a b) E fun d E' => Q (.val d) E' := wO_e _ Q rfl
theorem wO_comp2 (a b c d e f g h i Q) : wO C (.comp2 a b c d e f g h i) E Q = wE C (.comp2 a b c d e f g h i) E fun d E' => Q (.val d) E' := wO_e _ Q rfl
theorem wE_bin (o a b Q) : wE C (.bin o a b) E Q = wO C a E fun t E1 => wO C b E1 fun u E2 => wG t E2 fun x => wG u E2 fun y => wp (binop o x y) fun z => Q z E2 := by
  unfold wE wO wG; simp only [ev, wp_bind, wp_map]
def wNeg (d : D) (Q : D → Prop) : Prop := match d with
  | .int i => Q (.int (-i))
  | _ => False
theorem wNeg_i (i Q) : wNeg (.int i) Q = Q (.int (-i)) := rfl
def wNot (d : D) (Q : D → Prop) : Prop := match d with
  | .bool i => Q (.bool (!i))
  | _ => False
theorem wNot_b (i Q) : wNot (.bool i) Q = Q (.bool (!i)) := rfl
theorem wE_neg (a Q) : wE C (.neg a) E Q = wE C a E fun d E1 => wNeg d fun z => Q z E1 := by
  unfold wE; simp only [ev, wp_bind]; congr 1; funext p; obtain ⟨d, E1⟩ := p
  cases d <;> simp only [wp_some, wp_none, wNeg]
theorem wE_not (a Q) : wE C (.not a) E Q = wE C a E fun d E1 => wNot d fun z => Q z E1 := by
  unfold wE; simp only [ev, wp_bind]; congr 1; funext p; obtain ⟨d, E1⟩ := p
  cases d <;> simp only [wp_some, wp_none, wNot]
theorem wE_cmp (o a b Q) : wE C (.cmp o a b) E Q = wO C a E fun t E1 => wO C b E1 fun u E2 => wG t E2 fun x => wG u E2 fun y => wp (cmpop o x y) fun z => Q (.bool z) E2 := by
  unfold wE wO wG; simp only [ev, wp_bind, wp_map]
def wC (d : D) (P R : Prop) : Prop := match d with
  | .bool b => if b = true then P else R
  | _ => False
theorem wC_b (b P R) : wC (.bool b) P R = if b = true then P else R := rfl
theorem wC_t (P R) : wC (.bool true) P R = P := rfl
theorem wC_f (P R) : wC (.bool false) P R = R := rfl
theorem wC_d (p : Prop) [Decidable p] (P R) : wC (.bool (decide p)) P R = if p then P else R := by
  unfold wC
  by_cases h : p <;> simp [h]
theorem wC_nd (p : Prop) [Decidable p] (P R) : wC (.bool (!decide p)) P R = if p then R else P := by
  unfold wC
  by_cases h : p <;> simp [h]
theorem wE_chain (o1 o2 a b c Q) : wE C (.chain o1 o2 a b c) E Q = wO C a E fun t E1 => wO C b E1 fun u E2 => wG t E2 fun x => wG u E2 fun y => wp (cmpop o1 x y) fun z =>
    wC (.bool z) (wO C c E2 fun v E3 => wG u E3 fun y => wG v E3 fun w => wp (cmpop o2 y w) fun z => Q (.bool z) E3) (Q (.bool false) E2) := by
  unfold wE wO wG; simp only [ev, wp_bind, wp_map]
  congr 1; funext p; congr 1; funext q; congr 1; funext x; congr 1; funext y; congr 1; funext z
  cases z <;> simp only [wp_some, wp_bind, wp_map, wC] <;> rfl
theorem wE_chn3 (o1 o2 o3 a b c d Q) : wE C (.chn3 o1 o2 o3 a b c d) E Q = wO C a E fun t E1 => wO C b E1 fun u E2 => wG t E2 fun x => wG u E2 fun y => wp (cmpop o1 x y) fun z =>
    wC (.bool z) (wO C c E2 fun v E3 => wG u E3 fun y => wG v E3 fun w => wp (cmpop o2 y w) fun z => wC (.bool z) (wO C d E3 fun v4 E4 => wG v E4 fun w => wG v4 E4 fun w4 => wp (cmpop o3 w w4) fun z => Q (.bool z) E4) (Q (.bool false) E3)) (Q (.bool false) E2) := by
  unfold wE wO wG; simp only [ev, wp_bind, wp_map]
  congr 1; funext p; congr 1; funext q; congr 1; funext x; congr 1; funext y; congr 1; funext z
  cases z <;> simp only [wp_some, wp_bind, wp_map, wC] <;> try rfl
  congr 1; funext p; congr 1; funext q; congr 1; funext x; congr 1; funext z
  cases z <;> simp only [wp_some, wp_bind, wp_map, wC] <;> rfl
theorem wE_and (a b Q) : wE C (.and a b) E Q = wE C a E fun d E1 => wC d (wE C b E1 Q) (Q (.bool false) E1) := by
  unfold wE; simp only [ev, wp_bind]; congr 1; funext p; obtain ⟨d, E1⟩ := p
  cases d <;> first | (simp only [wp_none, wC]; done) | (rename_i b; cases b <;> simp only [wp_some, wC] <;> rfl)
theorem wE_or (a b Q) : wE C (.or a b) E Q = wE C a E fun d E1 => wC d (Q (.bool true) E1) (wE C b E1 Q) := by
  unfold wE; simp only [ev, wp_bind]; congr 1; funext p; obtain ⟨d, E1⟩ := p
  cases d <;> first | (simp only [wp_none, wC]; done) | (rename_i b; cases b <;> simp only [wp_some, wC] <;> rfl)
theorem wE_ite (c a b Q) : wE C (.ite c a b) E Q = wE C c E fun d E1 => wC d (wE C a E1 Q) (wE C b E1 Q) := by
  unfold wE; simp only [ev, wp_bind]; congr 1; funext p; obtain ⟨d, E1⟩ := p
  cases d <;> first | (simp only [wp_none, wC]; done) | (rename_i b; cases b <;> simp only [wp_some, wC] <;> rfl)
theorem wEs_nil (Q) : wEs C [] E Q = Q [] E := by unfold wEs; simp only [evs, wp_some]
theorem wEs_cons (a r Q) : wEs C (a :: r) E Q = wE C a E fun d E1 => wEs C r E1 fun ds E2 => Q (d :: ds) E2 := by unfold wEs wE; simp only [evs, wp_bind, wp_map]
theorem wOs_nil (Q) : wOs C [] E Q = Q [] E := by unfold wOs; simp only [evo, wp_some]
theorem wOs_cons (a r Q) : wOs C (a :: r) E Q = wO C a E fun d E1 => wOs C r E1 fun ds E2 => Q (d :: ds) E2 := by unfold wOs wO; simp only [evo, wp_bind, wp_map]
def wLim (n : Nat) (P : Prop) : Prop := n ≤ 16777216 ∧ P
theorem wLim_ok (n P) (h : n ≤ 16777216) : wLim n P = P := propext ⟨fun q => q.2, fun q => ⟨h, q⟩⟩
theorem wLim_eq (n P) : wLim n P = (n ≤ 16777216 ∧ P) := rfl
theorem wp_lim {n : Nat} {x : Option α} {Q : α → Prop} : wp (if n ≤ LIM then x else none) Q = wLim n (wp x Q) := by
  unfold wLim
  by_cases h : n ≤ 16777216
  · rw [if_pos h]; simp [h]
  · rw [if_neg h, wp_none]; simp [h]
theorem wE_tup (xs Q) : wE C (.tup xs) E Q = wEs C xs E fun ds E1 => wLim ds.length (Q (.tuple ds) E1) := by unfold wE wEs; simp only [ev, wp_bind, wp_lim, wp_some]
theorem wE_lst (xs Q) : wE C (.lst xs) E Q = wEs C xs E fun ds E1 => wLim ds.length (Q (.list ds) E1) := by unfold wE wEs; simp only [ev, wp_bind, wp_lim, wp_some]
theorem wE_dctT (Q) : wE C .dctT E Q = Q (.dict [tMark]) E := by unfold wE; simp only [ev, wp_some]
theorem wE_dct (xs Q) : wE C (.dct xs) E Q = wEs C xs E fun ds E1 => ds.length ≤ 30 ∧ wp (dputs ds []) fun kvs => Q (.dict kvs) E1 := by
  unfold wE wEs; simp only [ev, wp_bind]; congr 1; funext p; obtain ⟨ds, E1⟩ := p
  by_cases h : ds.length ≤ 30
  · simp only [h, if_true, wp_map, true_and]
  · simp only [h, if_false, wp_none, false_and]
theorem wE_idx (a i Q) : wE C (.idx a i) E Q = wO C a E fun t E1 => wE C i E1 fun k E2 => wG t E2 fun x => wp (item x k) fun z => Q z E2 := by unfold wE wO wG; simp only [ev, wp_bind, wp_map]
theorem wE_slc (a lo hi Q) : wE C (.slc a lo hi) E Q = wO C a E fun t E1 => wE C lo E1 fun l E2 => wE C hi E2 fun h E3 => wG t E3 fun x => wp (optX lo l) fun l => wp (optX hi h) fun h => wp (slice x l h) fun z => Q z E3 := by unfold wE wO wG; simp only [ev, wp_bind, wp_map]
theorem wE_rev (a Q) : wE C (.rev a) E Q = wO C a E fun t E1 => wG t E1 fun x => wp (revD x) fun z => Q z E1 := by unfold wE wO wG; simp only [ev, wp_bind, wp_map]
def wMs (E : Env) (ios : List Nat) (Q : List D → Prop) : Prop := wp (mines E ios) Q
def wPs (E : Env) (ios : List Nat) (cs : List D) (Q : Env → Prop) : Prop := wp (putL E ios cs) Q
def wM (i : Nat) (E : Env) (Q : D → Prop) : Prop := wp (mine E i) Q
def wP (i : Nat) (d : D) (E : Env) (Q : Env → Prop) : Prop := wp (puts E i d) Q
def wMv (Q : D → Prop) : Slot → Prop
  | .ow d => Q d
  | .io d => Q d
  | _ => False
theorem wMv_ow (Q d) : wMv Q (.ow d) = Q d := rfl
theorem wMv_io (Q d) : wMv Q (.io d) = Q d := rfl
theorem wM_eq (i E Q) : wM i E Q = wGet i E (wMv Q) := by
  unfold wM wGet mine
  cases gets E i <;> simp only [wp_some, wp_none, wMv]
def wPv (i : Nat) (d : D) (E : Env) (Q : Env → Prop) : Slot → Prop
  | .ow _ => wSet i (.ow d) E Q
  | .io _ => wSet i (.io d) E Q
  | _ => False
theorem wPv_ow (i d E Q x) : wPv i d E Q (.ow x) = wSet i (.ow d) E Q := rfl
theorem wPv_io (i d E Q x) : wPv i d E Q (.io x) = wSet i (.io d) E Q := rfl
theorem wP_eq (i d E Q) : wP i d E Q = wGet i E (wPv i d E Q) := by
  unfold wP wGet puts
  cases gets E i <;> simp only [wp_some, wp_none, wPv, wSet]
theorem wMs_nil (E Q) : wMs E [] Q = Q [] := by unfold wMs; simp only [mines, wp_some]
theorem wMs_cons (E i r Q) : wMs E (i :: r) Q = wM i E fun d => wMs E r fun ds => Q (d :: ds) := by unfold wMs wM; simp only [mines, wp_bind, wp_map]
theorem wPs_nil (E Q) : wPs E [] [] Q = Q E := by unfold wPs; simp only [putL, wp_some]
theorem wPs_cons (E i r d ds Q) : wPs E (i :: r) (d :: ds) Q = wP i d E fun E1 => wPs E1 r ds Q := by unfold wPs wP; simp only [putL, wp_bind]
/-- a call -/
def wK (x : Option (D × List D)) (Q : D → List D → Prop) : Prop := wp x fun r => Q r.1 r.2
theorem wK_of {x : Option (D × List D)} {r : D} {cs : List D} (h : x = some (r, cs)) (Q) : wK x Q = Q r cs := by unfold wK; rw [h, wp_some]
def wA (cs ds : List D) (Q : List D → Prop) : Prop := Q (cs ++ ds)
theorem wA_nil (ds Q) : wA [] ds Q = Q ds := rfl
theorem wA_cons (c cs ds Q) : wA (c :: cs) ds Q = wA cs ds fun l => Q (c :: l) := rfl
theorem wE_call (f ios args Q) : wE C (.call f ios args) E Q = wMs E ios fun _ => wEs C args E fun ds E1 => wMs E1 ios fun cs => wA cs ds fun l => wK (C.cf f l) fun r cs' => wPs E1 ios cs' fun E2 => Q r E2 := by
  unfold wE wMs wEs wA wK wPs; simp only [ev, wp_bind, wp_map]
theorem wE_call' (cf gl f ios args Q) : wE ⟨cf, gl⟩ (.call f ios args) E Q = wMs E ios fun _ => wEs ⟨cf, gl⟩ args E fun ds E1 => wMs E1 ios fun cs => wA cs ds fun l => wK (cf f l) fun r cs' => wPs E1 ios cs' fun E2 => Q r E2 := wE_call f ios args Q
/-- a call that its lists are lent to -/
def wLn (Q : D → Prop) : Slot → Prop
  | .un => False
  | .sh d => Q d
  | .ow d => Q d
  | .io d => Q d
theorem wLn_sh (Q d) : wLn Q (.sh d) = Q d := rfl
theorem wLn_ow (Q d) : wLn Q (.ow d) = Q d := rfl
theorem wLn_io (Q d) : wLn Q (.io d) = Q d := rfl
def wLns (E : Env) (is : List Nat) (Q : List D → Prop) : Prop := wp (conts E is) Q
theorem wLns_nil (E Q) : wLns E [] Q = Q [] := by unfold wLns; simp only [conts, wp_some]
theorem wLns_cons (E i r Q) : wLns E (i :: r) Q = wGet i E (wLn fun d => wLns E r fun ds => Q (d :: ds)) := by
  unfold wLns wGet
  simp only [conts, wp_bind, wp_map]
  cases gets E i <;> simp only [Slot.cont, wp_some, wp_none, wLn]
def wFl (r : D) (cs : List D) (P : Prop) : Prop := (flatR r && cs.isEmpty) = true ∧ P
theorem wFl_int (i P) : wFl (.int i) [] P = P := by unfold wFl; simp [flatR]
theorem wFl_bool (i P) : wFl (.bool i) [] P = P := by unfold wFl; simp [flatR]
theorem wFl_none (P) : wFl .none [] P = P := by unfold wFl; simp [flatR]
theorem wFl_str (i P) : wFl (.str i) [] P = P := by unfold wFl; simp [flatR]
theorem wE_callB_ok (f is Q) : wE C (.callB f is) E Q = wLns E is fun ds => wK (C.cf f ds) fun r cs => wFl r cs (Q r E) := by
  unfold wE wLns wK
  simp only [ev, wp_bind]
  congr 1; funext ds
  congr 1; funext p
  unfold wFl
  by_cases h : (flatR p.1 && p.2.isEmpty) = true
  · rw [if_pos h, wp_some]; simp [h]
  · rw [if_neg h, wp_none]; simp [h]
theorem wE_callB' (cf gl f is Q) : wE ⟨cf, gl⟩ (.callB f is) E Q = wLns E is fun ds => wK (cf f ds) fun r cs => wFl r cs (Q r E) := wE_callB_ok f is Q
theorem wE_glb' (cf gl g Q) : wE ⟨cf, gl⟩ (.glb g) E Q = wp gl[g]? fun d => Q d E := wE_glb g Q
def wTs (E : Env) (ts : List Tok) (Q : List D → Prop) : Prop := wp (toks E ts) Q
theorem wTs_nil (E Q) : wTs E [] Q = Q [] := by unfold wTs; simp only [toks, wp_some]
theorem wTs_cons (E t r Q) : wTs E (t :: r) Q = wG t E fun d => wTs E r fun ds => Q (d :: ds) := by unfold wTs wG; simp only [toks, wp_bind, wp_map]
theorem wE_blt (b args Q) : wE C (.blt b args) E Q = wOs C args E fun ts E1 => wTs E1 ts fun ds => wp (bltop b ds) fun z => Q z E1 := by
  unfold wE wOs wTs; simp only [ev, wp_bind, wp_map]
def wL (x : D) (P : Prop) : Prop := if isL (some x) = true then P else False
theorem wL_l (xs P) : wL (.list xs) P = P := rfl
def wDi (x : D) (P : Prop) : Prop := if isD x = true then P else False
theorem wDi_iff (x P) (h : isD x = true) : wDi x P = P := by unfold wDi; rw [if_pos h]
def wDm (x : D) (P : Prop) : Prop := if isM x = true then P else False
def wDm2 (x y : D) (P : Prop) : Prop := if isM2 x y = true then P else False
theorem wDm2_l (xs ys P) : wDm2 (.list xs) (.list ys) P = P := rfl
theorem wDm2_d (xs ys P) : wDm2 (.dict xs) (.dict ys) P = wDi (.dict ys) P := rfl
theorem wDm_l (xs P) : wDm (.list xs) P = P := rfl
theorem wDm_d (xs P) : wDm (.dict xs) P = wDi (.dict xs) P := rfl
theorem wE_mth (m o args Q) : wE C (.mth m o args) E Q = wO C o E fun t E1 => wG t E1 fun x => wDi x (wEs C args E1 fun ds E2 => wG t E2 fun x => wp (mthop m x ds) fun z => Q z E2) := by
  unfold wE wO wG wEs wDi; simp only [ev, wp_bind]; congr 1; funext p; congr 1; funext x
  split <;> simp only [wp_bind, wp_map, wp_none]
theorem wE_lix (o e Q) : wE C (.lix o e) E Q = wO C o E fun t E1 => wG t E1 fun x => wL x (wE C e E1 fun y E2 => wG t E2 fun x => wp (lixD x y) fun z => Q z E2) := by
  unfold wE wO wG wL; simp only [ev, wp_bind]; congr 1; funext p; congr 1; funext x
  split <;> simp only [wp_bind, wp_map, wp_none]
theorem wE_cnt (o e Q) : wE C (.cnt o e) E Q = wO C o E fun t E1 => wG t E1 fun x => wL x (wE C e E1 fun y E2 => wG t E2 fun x => wp (cntD x y) fun z => Q z E2) := by
  unfold wE wO wG wL; simp only [ev, wp_bind]; congr 1; funext p; congr 1; funext x
  split <;> simp only [wp_bind, wp_map, wp_none]
def wTd (x : D) (P : Prop) : Prop := if isTd x = true then P else False
theorem wTd_t (r P) : wTd (.dict (tMark :: r)) P = P := by unfold wTd; rw [if_pos (show isTd (.dict (tMark :: r)) = true from rfl)]
theorem wE_upd (i e Q) : wE C (.upd i e) E Q = wM i E fun x => wTd x (wE C e E fun y E1 => wM i E1 fun x => wp (updD x y) fun x' => wP i x' E1 fun E2 => Q .none E2) := by
  unfold wE wM wP wTd; simp only [ev]
  cases h : mine E i with
  | none => simp [wp_none]
  | some x =>
    rw [wp_some, Option.any_some]
    split <;> simp only [wp_bind, wp_map, wp_none]
theorem wE_mut (m i args Q) : wE C (.mut m i args) E Q = wM i E fun x => wL x (wEs C args E fun ds E1 => wM i E1 fun x => wp (mutop m x ds) fun z => wP i z.2 E1 fun E2 => Q z.1 E2) := by
  unfold wE wM wEs wP wL; simp only [ev]
  cases h : mine E i with
  | none => simp [isL, wp_none]
  | some x =>
    rw [wp_some]
    split <;> simp only [wp_bind, wp_map, wp_none]
theorem ev_var (C : Ctx) (i : Nat) (E : Env) : ev C (.var i) E = varE E i := by simp only [ev]; rfl
theorem wE_kys (i Q) : wE C (.kys i) E Q = wE C (.var i) E fun d E1 => wp (keysD d) fun z => Q z E1 := by
  unfold wE
  rw [ev_var]
  simp only [ev, wp_bind, wp_map]
theorem wE_fz (a Q) : wE C (.fz a) E Q = wE C a E Q := by unfold wE; simp only [ev]
theorem wE_rng (args Q) : wE C (.rng args) E Q = wEs C args E fun ds E1 => wp (rng ds) fun z => Q z E1 := by unfold wE wEs; simp only [ev, wp_bind, wp_map]
theorem wE_lrg (args Q) : wE C (.lrg args) E Q = wEs C args E fun ds E1 => wp (rng ds) fun z => Q z E1 := by unfold wE wEs; simp only [ev, wp_bind, wp_map]
theorem wE_lrs (args Q) : wE C (.lrs args) E Q = wEs C args E fun ds E1 => wp (rngS ds) fun z => Q z E1 := by unfold wE wEs; simp only [ev, wp_bind, wp_map]
theorem wE_lzp (args Q) : wE C (.lzp args) E Q = wEs C args E fun ds E1 => wp (lzS ds) fun z => Q z E1 := by unfold wE wEs; simp only [ev, wp_bind, wp_map]
theorem x_lzT (xs ys Q) : wp (lzS [.tuple xs, .tuple ys]) Q = Q (.list (List.zipWith (fun a b => .tuple [a, b]) xs ys)) := wp_some _ _
def wTr (z : D) (Q : D → Prop) : Prop := wp (itemsOf z) fun xs => Q (.tuple xs)
theorem wTr_l (xs Q) : wTr (.list xs) Q = Q (.tuple xs) := wp_some _ _
theorem wE_trg (args Q) : wE C (.trg args) E Q = wEs C args E fun ds E1 => wp (rng ds) fun z => wTr z fun d => Q d E1 := by unfold wE wEs wTr; simp only [ev, wp_bind, wp_map]
theorem wE_srs (e Q) : wE C (.srs e) E Q = wE C e E fun d E1 => wp (srsD d) fun z => Q z E1 := by unfold wE; simp only [ev, wp_bind, wp_map]
theorem wE_rgs (args Q) : wE C (.rgs args) E Q = wEs C args E fun ds E1 => wp (rngS ds) fun z => Q z E1 := by unfold wE wEs; simp only [ev, wp_bind, wp_map]
theorem wE_zip (a b Q) : wE C (.zip a b) E Q = wE C a E fun x E1 => wE C b E1 fun y E2 => wp (zipD x y) fun z => Q z E2 := by unfold wE; simp only [ev, wp_bind, wp_map]
theorem wE_inr (n a args Q) : wE C (.inr n a args) E Q = wE C a E fun x E1 => wEs C args E1 fun ds E2 => wp (inRng x ds) fun z => Q (.bool (if n = true then !z else z)) E2 := by unfold wE wEs; simp only [ev, wp_bind, wp_map]
theorem wE_isi (a t Q) : wE C (.isi a t) E Q = wO C a E fun tk E1 => wG tk E1 fun x => wp (isTy x t) fun z => Q (.bool z) E1 := by unfold wE wO wG; simp only [ev, wp_bind, wp_map]
/-- a comprehension -/
def wComp (C : Ctx) (elt : IR) (t : Tg) (c : IR) (own : List Nat) (xs : List D) (E : Env) (Q : D → Env → Prop) : Prop :=
  wLim xs.length (wp (compL (assignT t) own (ev C c) (ev C elt) xs (wipes E own)) fun p => Q (.list p.1) (backs E p.2 own))
def wH (t : Tok) (own : List Nat) (Q : List Nat → Prop) : Prop := Q (t.hold ++ own)
theorem wH_val (d own Q) : wH (.val d) own Q = Q own := rfl
theorem wH_bor (i own Q) : wH (.bor i) own Q = Q (i :: own) := rfl
def wI (d : D) (Q : List D → Prop) : Prop := wp (itemsOf d) Q
theorem wI_l (xs Q) : wI (.list xs) Q = Q xs := wp_some _ _
theorem wI_t (xs Q) : wI (.tuple xs) Q = Q xs := wp_some _ _
theorem wE_comp (elt t s c own Q) : wE C (.comp elt t s c own) E Q = wO C s E fun tk E1 => wG tk E1 fun x => wI x fun xs => wH tk own fun ow => wComp C elt t c ow xs E1 Q := by
  unfold wE wO wG wI wH wComp; simp only [ev, wp_bind, wp_map, wp_lim]
/-- what the inner for makes -/
def wInn (C : Ctx) (elt : IR) (t1 : Tg) (s1 c1 : IR) (own1 : List Nat) (E : Env) (Q : List D → Env → Prop) : Prop := wO C s1 E fun tk E1 => wG tk E1 fun x => wI x fun xs => wH tk own1 fun ow => wp (compL (assignT t1) ow (ev C c1) (ev C elt) xs (wipes E1 ow)) fun p => Q p.1 (backs E1 p.2 ow)
def inn2 (C : Ctx) (elt : IR) (t1 : Tg) (s1 c1 : IR) (own1 : List Nat) (E2 : Env) : Option (List D × Env) := (opd s1 (ev C s1) E2).bind fun (tk1, E3) => (tk1.get E3).bind fun x1 => (itemsOf x1).bind fun xs1 =>
  (compL (assignT t1) (tk1.hold ++ own1) (ev C c1) (ev C elt) xs1 (wipes E3 (tk1.hold ++ own1))).map fun (ys, E4) => (ys, backs E3 E4 (tk1.hold ++ own1))
theorem wInn_eq (elt t1 s1 c1 own1 Q) : wInn C elt t1 s1 c1 own1 E Q = wp (inn2 C elt t1 s1 c1 own1 E) fun p => Q p.1 p.2 := by
  unfold wInn inn2 wO wG wI wH; simp only [wp_bind, wp_map]
def wComp2 (C : Ctx) (elt : IR) (t : Tg) (c : IR) (own : List Nat) (t1 : Tg) (s1 c1 : IR) (own1 : List Nat) (xs : List D) (E : Env) (Q : D → Env → Prop) : Prop :=
  wLim xs.length (wp (compL2 (assignT t) own (ev C c) (inn2 C elt t1 s1 c1 own1) xs (wipes E own)) fun p => wLim p.1.length (Q (.list p.1) (backs E p.2 own)))
theorem wE_comp2 (elt t s c own t1 s1 c1 own1 Q) : wE C (.comp2 elt t s c own t1 s1 c1 own1) E Q = wO C s E fun tk E1 => wG tk E1 fun x => wI x fun xs => wH tk own fun ow => wComp2 C elt t c ow t1 s1 c1 own1 xs E1 Q := by
  unfold wE wO wG wI wH wComp2 inn2; simp only [ev, wp_bind, wp_lim, wp_some]
/-! statements -/
def wX (C : Ctx) (s : SIR) (E : Env) (Q : Out → Prop) : Prop := wp (Pv.exec C s E) Q
def wXs (C : Ctx) (ss : List SIR) (E : Env) (Q : Out → Prop) : Prop := wp (Pv.execs C ss E) Q
def wKo (C : Ctx) (r : List SIR) (Q : Out → Prop) : Out → Prop
  | .nx E => wXs C r E Q
  | o => Q o
theorem wKo_nx (C r Q E) : wKo C r Q (.nx E) = wXs C r E Q := rfl
theorem wKo_ret (C r Q d E) : wKo C r Q (.ret d E) = Q (.ret d E) := rfl
theorem wKo_brk (C r Q E) : wKo C r Q (.brk E) = Q (.brk E) := rfl
theorem wKo_ct (C r Q E) : wKo C r Q (.ct E) = Q (.ct E) := rfl
theorem wXs_nil (Q) : wXs C [] E Q = Q (.nx E) := by unfold wXs; simp only [Pv.execs, wp_some]
theorem wXs_cons (s r Q) : wXs C (s :: r) E Q = wX C s E (wKo C r Q) := by
  unfold wXs wX; simp only [Pv.execs]
  cases Pv.exec C s E with
  | none => simp only [bindOut, wp_none]
  | some o => cases o <;> simp only [bindOut, wp_some, wKo, wXs]
def wSv (i : Nat) (own : Bool) (d : D) (E : Env) (Q : Env → Prop) : Slot → Prop
  | .io _ => False
  | _ => wSet i (if own = true then .ow d else .sh d) E Q
theorem wSv_un (i d E Q) : wSv i false d E Q .un = wSet i (.sh d) E Q := rfl
theorem wSv_sh (i d E Q x) : wSv i false d E Q (.sh x) = wSet i (.sh d) E Q := rfl
theorem wSv_ow (i d E Q x) : wSv i false d E Q (.ow x) = wSet i (.sh d) E Q := rfl
theorem wSv_unT (i d E Q) : wSv i true d E Q .un = wSet i (.ow d) E Q := rfl
theorem wSv_shT (i d E Q x) : wSv i true d E Q (.sh x) = wSet i (.ow d) E Q := rfl
theorem wSv_owT (i d E Q x) : wSv i true d E Q (.ow x) = wSet i (.ow d) E Q := rfl
def wS (i : Nat) (own : Bool) (d : D) (E : Env) (Q : Env → Prop) : Prop := wp (setV E i own d) Q
theorem wS_eq (i o d E Q) : wS i o d E Q = wGet i E (wSv i o d E Q) := by
  unfold wS wGet setV
  cases gets E i <;> simp only [wp_some, wp_none, wSv, wSet]
/-- does a name own its value -/
def wF (e : IR) (d : D) (Q : Bool → Prop) : Prop := Q (isFr e d)
theorem wF_i (e i Q) : wF e (.int i) Q = Q false := by unfold wF isFr; simp [isC]
theorem wF_b (e i Q) : wF e (.bool i) Q = Q false := by unfold wF isFr; simp [isC]
theorem wF_n (e Q) : wF e .none Q = Q false := by unfold wF isFr; simp [isC]
theorem wF_t (e i Q) : wF e (.tuple i) Q = Q false := by unfold wF isFr; simp [isC]
theorem wF_s (e i Q) : wF e (.str i) Q = Q false := by unfold wF isFr; simp [isC]
theorem wF_l (e i Q) : wF e (.list i) Q = Q (isNw e) := by unfold wF isFr; simp [isC]
theorem wF_d (e i Q) : wF e (.dict i) Q = Q (isNw e) := by unfold wF isFr; simp [isC]
theorem wF_llst (a i Q) : wF (.lst a) (.list i) Q = Q true := wF_l _ i Q
theorem wF_lcmp (a b c d e i Q) : wF (.comp a b c d e) (.list i) Q = Q true := wF_l _ i Q
theorem wF_lrev (a i Q) : wF (.rev a) (.list i) Q = Q true := wF_l _ i Q
theorem wF_lslc (a b c i Q) : wF (.slc a b c) (.list i) Q = Q true := wF_l _ i Q
theorem wF_lbli (a i Q) : wF (.blt .list a) (.list i) Q = Q true := wF_l _ i Q
theorem wF_lsrs (a i Q) : wF (.srs a) (.list i) Q = Q true := wF_l _ i Q
theorem wF_lsrt (a i Q) : wF (.blt .sorted a) (.list i) Q = Q true := wF_l _ i Q
theorem wF_ladd (a b i Q) : wF (.bin .add a b) (.list i) Q = Q true := wF_l _ i Q
theorem wF_lmul (a b i Q) : wF (.bin .mul a b) (.list i) Q = Q true := wF_l _ i Q
theorem wF_lcm2 (a b c d e f g h j i Q) : wF (.comp2 a b c d e f g h j) (.list i) Q = Q true := wF_l _ i Q
theorem wF_llrg (a i Q) : wF (.lrg a) (.list i) Q = Q true := wF_l _ i Q
theorem wF_llrs (a i Q) : wF (.lrs a) (.list i) Q = Q true := wF_l _ i Q
theorem wF_llzp (a i Q) : wF (.lzp a) (.list i) Q = Q true := wF_l _ i Q
theorem wF_lvar (a i Q) : wF (.var a) (.list i) Q = Q false := wF_l _ i Q
theorem wF_lcal (a b c i Q) : wF (.call a b c) (.list i) Q = Q false := wF_l _ i Q
theorem wF_lidx (a b i Q) : wF (.idx a b) (.list i) Q = Q false := wF_l _ i Q
theorem wF_lmut (a b c i Q) : wF (.mut a b c) (.list i) Q = Q false := wF_l _ i Q
theorem wF_lupd (a b i Q) : wF (.upd a b) (.list i) Q = Q false := wF_l _ i Q
theorem wF_lmth (a b c i Q) : wF (.mth a b c) (.list i) Q = Q false := wF_l _ i Q
theorem wF_liteV (a x c i Q) : wF (.ite a (.var x) c) (.list i) Q = Q false := wF_l _ i Q
theorem wF_liteK (a x c i Q) : wF (.ite a (.k x) c) (.list i) Q = Q false := wF_l _ i Q
theorem wF_liteI (a x y c i Q) : wF (.ite a (.idx x y) c) (.list i) Q = Q false := wF_l _ i Q
theorem wF_liteC (a x y z c i Q) : wF (.ite a (.call x y z) c) (.list i) Q = Q false := wF_l _ i Q
theorem wF_liteM (a x y z u v c i Q) : wF (.ite a (.comp x y z u v) c) (.list i) Q = Q false := wF_l _ i Q
theorem wF_liteS (a x y z c i Q) : wF (.ite a (.slc x y z) c) (.list i) Q = Q false := wF_l _ i Q
theorem wF_liteT (a x c i Q) : wF (.ite a (.tup x) c) (.list i) Q = Q false := wF_l _ i Q
theorem wF_liteB (a x y c i Q) : wF (.ite a (.blt x y) c) (.list i) Q = Q false := wF_l _ i Q
theorem wF_liteN (a x y z c i Q) : wF (.ite a (.bin x y z) c) (.list i) Q = Q false := wF_l _ i Q
theorem wF_liteG (a x y z c i Q) : wF (.ite a (.ite x y z) c) (.list i) Q = Q false := wF_l _ i Q
theorem wF_liteLV (a x x2 i Q) : wF (.ite a (.lst x) (.var x2)) (.list i) Q = Q false := wF_l _ i Q
theorem wF_liteLK (a x x2 i Q) : wF (.ite a (.lst x) (.k x2)) (.list i) Q = Q false := wF_l _ i Q
theorem wF_liteLI (a x x2 y2 i Q) : wF (.ite a (.lst x) (.idx x2 y2)) (.list i) Q = Q false := wF_l _ i Q
theorem wF_liteLC (a x x2 y2 z2 i Q) : wF (.ite a (.lst x) (.call x2 y2 z2)) (.list i) Q = Q false := wF_l _ i Q
theorem wF_liteLM (a x x2 y2 z2 u2 v2 i Q) : wF (.ite a (.lst x) (.comp x2 y2 z2 u2 v2)) (.list i) Q = Q false := wF_l _ i Q
theorem wF_liteLS (a x x2 y2 z2 i Q) : wF (.ite a (.lst x) (.slc x2 y2 z2)) (.list i) Q = Q false := wF_l _ i Q
theorem wF_liteLT (a x x2 i Q) : wF (.ite a (.lst x) (.tup x2)) (.list i) Q = Q false := wF_l _ i Q
theorem wF_liteLB (a x x2 y2 i Q) : wF (.ite a (.lst x) (.blt x2 y2)) (.list i) Q = Q false := wF_l _ i Q
theorem wF_liteLN (a x x2 y2 z2 i Q) : wF (.ite a (.lst x) (.bin x2 y2 z2)) (.list i) Q = Q false := wF_l _ i Q
theorem wF_liteLG (a x x2 y2 z2 i Q) : wF (.ite a (.lst x) (.ite x2 y2 z2)) (.list i) Q = Q false := wF_l _ i Q
theorem wF_liteLL (a x x2 i Q) : wF (.ite a (.lst x) (.lst x2)) (.list i) Q = Q true := wF_l _ i Q
theorem wF_ddctT (i Q) : wF .dctT (.dict i) Q = Q true := wF_d _ i Q
theorem wF_ddct (a i Q) : wF (.dct a) (.dict i) Q = Q true := wF_d _ i Q
theorem wF_dbld (a i Q) : wF (.blt .dict a) (.dict i) Q = Q true := wF_d _ i Q
theorem wF_dbldT (a i Q) : wF (.blt .dictT a) (.dict i) Q = Q true := wF_d _ i Q
theorem wF_dvar (a i Q) : wF (.var a) (.dict i) Q = Q false := wF_d _ i Q
theorem wF_dcal (a b c i Q) : wF (.call a b c) (.dict i) Q = Q false := wF_d _ i Q
theorem wF_didx (a b i Q) : wF (.idx a b) (.dict i) Q = Q false := wF_d _ i Q
theorem wX_asg (i e Q) : wX C (.asg (.name i) e) E Q = wE C e E fun d E1 => wF e d fun o => wS i o d E1 fun E2 => Q (.nx E2) := by
  unfold wX wE wF wS; simp only [Pv.exec, wp_bind, wp_map]
def wAs (t : Tg) (d : D) (E : Env) (Q : Env → Prop) : Prop := wp (assignT t d E) Q
def wAss (t : List Tg) (d : List D) (E : Env) (Q : Env → Prop) : Prop := wp (assignTs t d E) Q
theorem wX_tup (ts e Q) : wX C (.asg (.tup ts) e) E Q = wE C e E fun d E1 => wAs (.tup ts) d E1 fun E2 => Q (.nx E2) := by
  unfold wX wE wAs; simp only [Pv.exec, wp_bind, wp_map]
theorem wAs_name (i d E Q) : wAs (.name i) d E Q = wGet i E (wSv i false d E Q) := by
  unfold wAs wGet; simp only [assignT]
  cases gets E i <;> simp only [wp_some, wp_none, wSv, wSet] <;> rfl
theorem wAs_tup (ts ds E Q) : wAs (.tup ts) (.tuple ds) E Q = wAss ts ds E Q := by unfold wAs wAss; simp only [assignT]
theorem wAs_tupL (ts ds E Q) : wAs (.tup ts) (.list ds) E Q = wAss ts ds E Q := by unfold wAs wAss; simp only [assignT]
theorem wAss_nil (E Q) : wAss [] [] E Q = Q E := by unfold wAss; simp only [assignTs, wp_some]
theorem wAss_cons (t ts d ds E Q) : wAss (t :: ts) (d :: ds) E Q = wAs t d E fun E1 => wAss ts ds E1 Q := by unfold wAss wAs; simp only [assignTs, wp_bind]
def wPar (is : List Nat) (es : List IR) (ds : List D) (E : Env) (Q : Env → Prop) : Prop := wp (parL is es ds E) Q
theorem wPar_nil (E Q) : wPar [] [] [] E Q = Q E := by unfold wPar; simp only [parL, wp_some]
theorem wPar_cons (i is e es d ds E Q) : wPar (i :: is) (e :: es) (d :: ds) E Q = wF e d fun o => wS i o d E fun E1 => wPar is es ds E1 Q := by unfold wPar wF wS; simp only [parL, wp_bind]
theorem wX_par (is es Q) : wX C (.par is es) E Q = wEs C es E fun ds E1 => wPar is es ds E1 fun E2 => Q (.nx E2) := by
  unfold wX wEs wPar; simp only [Pv.exec, wp_bind, wp_map]
theorem wX_aug (i o e Q) : wX C (.aug i o e) E Q = wGet i E fun s => wCt s fun x => wE C e E fun y E1 => wp (augop o x y) fun z => wS i false z E1 fun E2 => Q (.nx E2) := by
  unfold wX wGet wCt wE wS; simp only [Pv.exec]
  cases (gets E i).cont with
  | none => simp only [wp_none]
  | some x => simp only [wp_bind, wp_map, wp_some]
theorem wX_augS (i ix o e Q) : wX C (.augS i ix o e) E Q = wM i E fun _ => wE C ix E fun k E1 => wM i E1 fun x => wDm x (wp (item x k) fun old => wE C e E1 fun y E2 => wp (augop o old y) fun z => wM i E2 fun x2 => wDm2 x x2 (wp (setItem x2 k z) fun x' => wP i x' E2 fun E3 => Q (.nx E3))) := by
  unfold wX wM wE wP wDm wDm2; simp only [Pv.exec, wp_bind]
  congr 1; funext d0; congr 1; funext k; congr 1; funext x
  split
  · simp only [wp_bind]
    congr 1; funext old; congr 1; funext y; congr 1; funext z; congr 1; funext x2
    split <;> simp only [wp_bind, wp_map, wp_none]
  · simp only [wp_none]
theorem wX_setS (i ix e Q) : wX C (.setS i ix e) E Q = wE C e E fun v E1 => wM i E1 fun _ => wE C ix E1 fun k E2 => wM i E2 fun x => wp (setItem x k v) fun x' => wP i x' E2 fun E3 => Q (.nx E3) := by
  unfold wX wM wE wP; simp only [Pv.exec, wp_bind, wp_map]
theorem w_ii2 (a b : Int) (Q) : wp (ii2 [.int a, .int b]) Q = Q (a, b) := wp_some _ _
theorem w_lsM (xs : List D) (Q) : wp (lsM (.list xs)) Q = Q xs := wp_some _ _
theorem wX_parS (i j ix ea eb Q) : wX C (.parS i j ix ea eb) E Q = wEs C [ea, eb] E fun ds E1 => wp (ii2 ds) fun p => wS i false (.int p.1) E1 fun E2 => wM j E2 fun _ => wE C ix E2 fun k E3 => wM j E3 fun x => wp (lsM x) fun xs => wp (setItem (.list xs) k (.int p.2)) fun x' => wP j x' E3 fun E4 => Q (.nx E4) := by
  unfold wX wEs wS wM wE wP; simp only [Pv.exec, wp_bind, wp_map]
theorem wX_exp (e Q) : wX C (.exp e) E Q = wE C e E fun _ E1 => Q (.nx E1) := by unfold wX wE; simp only [Pv.exec, wp_map]
theorem wX_ret (e Q) : wX C (.ret e) E Q = wE C e E fun d E1 => Q (.ret d E1) := by unfold wX wE; simp only [Pv.exec, wp_map]
theorem wX_ite (c a b Q) : wX C (.ite c a b) E Q = wE C c E fun d E1 => wC d (wXs C a E1 Q) (wXs C b E1 Q) := by
  unfold wX wE wXs; simp only [Pv.exec, wp_bind]; congr 1; funext p; obtain ⟨d, E1⟩ := p
  cases d <;> first | (simp only [wp_none, wC]; done) | (rename_i b; cases b <;> simp only [wC] <;> rfl)
def wFor (C : Ctx) (t : Tg) (b : List SIR) (xs : List D) (E : Env) (Q : Out → Prop) : Prop := wp (forL (assignT t) (Pv.execs C b) xs E) Q
theorem wX_for (t s b Q) : wX C (.for t s b) E Q = wE C s E fun d E1 => wI d fun xs => wFor C t b xs E1 Q := by
  unfold wX wE wI wFor; simp only [Pv.exec, wp_bind]
def wWh (C : Ctx) (c : IR) (b : List SIR) (E : Env) (Q : Out → Prop) : Prop := wp (whileL (ev C c) (Pv.execs C b) WF E) Q
theorem wX_while (c b Q) : wX C (.while c b) E Q = wWh C c b E Q := by
  unfold wX wWh; simp only [Pv.exec]
theorem wX_brk (Q) : wX C .brk E Q = Q (.brk E) := by unfold wX; simp only [Pv.exec, wp_some]
theorem wX_ct (Q) : wX C .ct E Q = Q (.ct E) := by unfold wX; simp only [Pv.exec, wp_some]
theorem wX_pass (Q) : wX C .pass E Q = Q (.nx E) := by unfold wX; simp only [Pv.exec, wp_some]
end
end Pv

set_option Elab.async false
set_option linter.all false
set_option maxRecDepth 100000
set_option maxHeartbeats 400000
/-! PvV: operators, loops, defs, ahead of what is wanted. -/
namespace Pv
open PySem
section
variable {α β : Type} {C : Ctx} {E : Env}
theorem wq_and {a : Prop} {x : Option α} {y : α} {Q : α → Prop} [Decidable a] (h : x = if a then some y else none) : wp x Q = (a ∧ Q y) := by
  rw [h]
  by_cases q : a
  · rw [if_pos q, wp_some]; simp [q]
  · rw [if_neg q, wp_none]; simp [q]
theorem w_add (i j : Int) (Q) : wp (binop .add (.int i) (.int j)) Q = Q (.int (i + j)) := wp_some _ _
theorem w_sub (i j : Int) (Q) : wp (binop .sub (.int i) (.int j)) Q = Q (.int (i - j)) := wp_some _ _
theorem w_mul (i j : Int) (Q) : wp (binop .mul (.int i) (.int j)) Q = ((i.natAbs < 18446744073709551616 ∨ j.natAbs < 18446744073709551616) ∧ Q (.int (i * j))) := wq_and rfl
theorem w_fdiv (i j : Int) (Q) : wp (binop .fdiv (.int i) (.int j)) Q = ((j ≠ 0 ∧ j.natAbs < 1073741824) ∧ Q (.int (i.fdiv j))) := wq_and rfl
theorem w_mod (i j : Int) (Q) : wp (binop .mod (.int i) (.int j)) Q = (j ≠ 0 ∧ Q (.int (i.fmod j))) := wq_and rfl
theorem w_pow (i j : Int) (Q) : wp (binop .pow (.int i) (.int j)) Q = ((0 ≤ j ∧ j ≤ 1000000 ∧ i.natAbs < 18446744073709551616) ∧ Q (.int (i ^ j.toNat))) := wq_and rfl
theorem w_addL (a b : List D) (Q) : wp (binop .add (.list a) (.list b)) Q = (a.length + b.length ≤ 16777216 ∧ Q (.list (a ++ b))) := wq_and rfl
theorem w_addT (a b : List D) (Q) : wp (binop .add (.tuple a) (.tuple b)) Q = (a.length + b.length ≤ 16777216 ∧ Q (.tuple (a ++ b))) := wq_and rfl
theorem w_mulL (a : List D) (k : Int) (Q) : wp (binop .mul (.list a) (.int k)) Q = ((k < 9223372036854775808 ∧ -9223372036854775808 ≤ k ∧ a.length * k.toNat ≤ 16777216) ∧ Q (.list (List.replicate k.toNat a).flatten)) := wq_and rfl
theorem w_gadd (i j : Int) (Q) : wp (augop .add (.int i) (.int j)) Q = Q (.int (i + j)) := wp_some _ _
theorem w_gsub (i j : Int) (Q) : wp (augop .sub (.int i) (.int j)) Q = Q (.int (i - j)) := wp_some _ _
theorem w_lt (i j : Int) (Q) : wp (cmpop .lt (.int i) (.int j)) Q = Q (decide (i < j)) := wp_some _ _
theorem w_le (i j : Int) (Q) : wp (cmpop .le (.int i) (.int j)) Q = Q (decide (i ≤ j)) := wp_some _ _
theorem w_gt (i j : Int) (Q) : wp (cmpop .gt (.int i) (.int j)) Q = Q (decide (j < i)) := wp_some _ _
theorem w_ge (i j : Int) (Q) : wp (cmpop .ge (.int i) (.int j)) Q = Q (decide (j ≤ i)) := wp_some _ _
theorem eqv_int (i j : Int) : PyData.eqv (.int i) (.int j) = decide (i = j) := by rw [PyData.eqv]; rfl
theorem w_eq (i j : Int) (Q) : wp (cmpop .eq (.int i) (.int j)) Q = Q (decide (i = j)) := by
  show wp (if okD (.int i) && okD (.int j) then some (PyData.eqv (.int i) (.int j)) else none) Q = _
  rw [eqv_int]; exact wp_some _ _
theorem w_ne (i j : Int) (Q) : wp (cmpop .ne (.int i) (.int j)) Q = Q (!decide (i = j)) := by
  show wp (if okD (.int i) && okD (.int j) then some (!PyData.eqv (.int i) (.int j)) else none) Q = _
  rw [eqv_int]; exact wp_some _ _
mutual
theorem eqv_rf : ∀ (d : D) (n : Nat), okd d n = true → PyData.eqv d d = true
  | .none, _, _ => rfl
  | .bool b, _, _ => by simp [PyData.eqv]
  | .int i, _, _ => by simp [PyData.eqv]
  | .str x, _, _ => by simp [PyData.eqv]
  | .list xs, n, h => by
    cases n with
    | zero => simp [okd] at h
    | succ n => rw [PyData.eqv]; exact eqvs_rf xs n (by simpa [okd] using h)
  | .tuple xs, n, h => by
    cases n with
    | zero => simp [okd] at h
    | succ n => rw [PyData.eqv]; exact eqvs_rf xs n (by simpa [okd] using h)
  | .dict _, _, h => by simp [okd] at h
theorem eqvs_rf : ∀ (xs : List D) (n : Nat), okds xs n = true → PyData.eqvAll xs xs = true
  | [], _, _ => rfl
  | x :: xs, n, h => by
    simp only [okds, Bool.and_eq_true] at h
    rw [PyData.eqvAll, eqv_rf x n h.1, eqvs_rf xs n h.2]; rfl
end
theorem w_neS (x y : D) (Q) (h : x = y) (hx : okD x = true) : wp (cmpop .ne x y) Q = Q false := by
  subst h
  show wp (if okD x && okD x then some (!PyData.eqv x x) else none) Q = _
  rw [hx, eqv_rf x 40 hx]; exact wp_some _ _
theorem w_eqS (x y : D) (Q) (h : x = y) (hx : okD x = true) : wp (cmpop .eq x y) Q = Q true := by
  subst h
  show wp (if okD x && okD x then some (PyData.eqv x x) else none) Q = _
  rw [hx, eqv_rf x 40 hx]; exact wp_some _ _
theorem w_neG (x y : D) (Q) (hx : okD x = true) (hy : okD y = true) : wp (cmpop .ne x y) Q = Q (!PyData.eqv x y) := by
  show wp (if okD x && okD y then some (!PyData.eqv x y) else none) Q = _
  rw [hx, hy]; exact wp_some _ _
theorem w_eqG (x y : D) (Q) (hx : okD x = true) (hy : okD y = true) : wp (cmpop .eq x y) Q = Q (PyData.eqv x y) := by
  show wp (if okD x && okD y then some (PyData.eqv x y) else none) Q = _
  rw [hx, hy]; exact wp_some _ _
theorem okd_map {α : Type} (f : α → D) (n : Nat) (h : ∀ x, okd (f x) n = true) : ∀ l : List α, okds (l.map f) n = true
  | [] => rfl
  | x :: r => by rw [List.map_cons, okds, h x, okd_map f n h r]; rfl
theorem w_isN (d : D) (Q) (h : d ≠ .none) : wp (cmpop .is d .none) Q = Q false := by
  cases d <;> first | exact absurd rfl h | exact wp_some _ _
theorem w_isNN (Q) : wp (cmpop .is .none .none) Q = Q true := wp_some _ _
theorem w_revL (xs : List D) (Q) : wp (revD (.list xs)) Q = Q (.list xs.reverse) := wp_some _ _
theorem w_revT (xs : List D) (Q) : wp (revD (.tuple xs)) Q = Q (.tuple xs.reverse) := wp_some _ _
theorem w_abs (i : Int) (Q) : wp (bltop .abs [.int i]) Q = Q (.int (if i < 0 then -i else i)) := wp_some _ _
theorem w_int (i : Int) (Q) : wp (bltop .int [.int i]) Q = Q (.int i) := wp_some _ _
theorem w_lenL (xs : List D) (Q) : wp (bltop .len [.list xs]) Q = Q (.int xs.length) := wp_some _ _
theorem w_lenT (xs : List D) (Q) : wp (bltop .len [.tuple xs]) Q = Q (.int xs.length) := wp_some _ _
theorem w_lenS (xs : List D) (Q) : wp (bltop .len [.dict [(.none, .list xs)]]) Q = Q (.int xs.length) := wp_some _ _
theorem w_tupL (xs : List D) (Q) : wp (bltop .tuple [.list xs]) Q = Q (.tuple xs) := wp_some _ _
theorem w_tupT (xs : List D) (Q) : wp (bltop .tuple [.tuple xs]) Q = Q (.tuple xs) := wp_some _ _
theorem w_lisL (xs : List D) (Q) : wp (bltop .list [.list xs]) Q = Q (.list xs) := wp_some _ _
theorem w_lisT (xs : List D) (Q) : wp (bltop .list [.tuple xs]) Q = Q (.list xs) := wp_some _ _
theorem w_min2 (i j : Int) (Q) : wp (bltop .min2 [.int i, .int j]) Q = Q (.int (if j < i then j else i)) := wp_some _ _
theorem w_max2 (i j : Int) (Q) : wp (bltop .max2 [.int i, .int j]) Q = Q (.int (if j > i then j else i)) := wp_some _ _
theorem w_app (xs : List D) (d : D) (Q) : wp (mutop .append (.list xs) [d]) Q = (xs.length < 16777216 ∧ Q (.none, .list (xs ++ [d]))) := wq_and rfl
theorem wq_rng1 (j : Int) (Q) : wp (rng [.int j]) Q = ((-4611686018427387904 ≤ j ∧ j < 4611686018427387904 ∧ j.toNat ≤ 16777216) ∧ Q (.list (rngI 0 j.toNat))) := wq_and rfl
theorem wq_rng2 (i j : Int) (Q) : wp (rng [.int i, .int j]) Q = ((-4611686018427387904 ≤ i ∧ i < 4611686018427387904 ∧ -4611686018427387904 ≤ j ∧ j < 4611686018427387904 ∧ (j - i).toNat ≤ 16777216) ∧ Q (.list (rngI i (j - i).toNat))) := wq_and rfl
theorem w_rgsU (i j k : Int) (h : -1099511627776 ≤ i ∧ i < 1099511627776 ∧ -1099511627776 ≤ j ∧ j < 1099511627776 ∧ 1 ≤ k ∧ k < 1048576 ∧ stepN i j k ≤ 16777216) (Q) : wp (rngS [.int i, .int j, .int k]) Q = Q (.list (rngC i k (stepN i j k))) := by
  simp only [rngS]; rw [if_pos h, wp_some]
theorem w_rgsD (i j : Int) (h : -1099511627776 ≤ i ∧ i < 1099511627776 ∧ -1099511627776 ≤ j ∧ j < 1099511627776 ∧ (i - j).toNat ≤ 16777216) (Q) : wp (rngS [.int i, .int j, .int (-1)]) Q = Q (.list (rngC i (-1) (i - j).toNat)) := by
  simp only [rngS]; rw [if_neg (by omega), if_pos ⟨h.1, h.2.1, h.2.2.1, h.2.2.2.1, trivial, h.2.2.2.2⟩, wp_some]
theorem w_isNi (i Q) : wp (cmpop .is (.int i) .none) Q = Q false := wp_some _ _
theorem w_isNt (i Q) : wp (cmpop .is (.tuple i) .none) Q = Q false := wp_some _ _
theorem w_isNl (i Q) : wp (cmpop .is (.list i) .none) Q = Q false := wp_some _ _
theorem w_isNd (i Q) : wp (cmpop .is (.dict i) .none) Q = Q false := wp_some _ _
theorem w_isNs (i Q) : wp (cmpop .is (.str i) .none) Q = Q false := wp_some _ _
theorem w_isNb (i Q) : wp (cmpop .is (.bool i) .none) Q = Q false := wp_some _ _
theorem w_notNi (i Q) : wp (cmpop .isnot (.int i) .none) Q = Q true := wp_some _ _
theorem w_notNt (i Q) : wp (cmpop .isnot (.tuple i) .none) Q = Q true := wp_some _ _
theorem w_notNl (i Q) : wp (cmpop .isnot (.list i) .none) Q = Q true := wp_some _ _
theorem w_notNd (i Q) : wp (cmpop .isnot (.dict i) .none) Q = Q true := wp_some _ _
theorem w_notNs (i Q) : wp (cmpop .isnot (.str i) .none) Q = Q true := wp_some _ _
theorem w_notNb (i Q) : wp (cmpop .isnot (.bool i) .none) Q = Q true := wp_some _ _
theorem w_notNN (Q) : wp (cmpop .isnot .none .none) Q = Q false := wp_some _ _
theorem w_isB (a b Q) : wp (cmpop .is (.bool a) (.bool b)) Q = Q (a == b) := wp_some _ _
theorem w_notB (a b Q) : wp (cmpop .isnot (.bool a) (.bool b)) Q = Q (!(a == b)) := wp_some _ _
theorem w_intB (b : Bool) (Q) : wp (bltop .int [.bool b]) Q = Q (.int (if b then 1 else 0)) := wp_some _ _
theorem w_zipL (xs ys Q) : wp (zipD (.list xs) (.list ys)) Q = Q (.list (List.zipWith (fun a b => .tuple [a, b]) xs ys)) := wp_some _ _
theorem w_zipT (xs ys Q) : wp (zipD (.tuple xs) (.tuple ys)) Q = Q (.list (List.zipWith (fun a b => .tuple [a, b]) xs ys)) := wp_some _ _
theorem w_inr1 (i j Q) : wp (inRng (.int i) [.int j]) Q = Q (decide (0 ≤ i ∧ i < j)) := wp_some _ _
theorem w_inr2 (i a j Q) : wp (inRng (.int i) [.int a, .int j]) Q = Q (decide (a ≤ i ∧ i < j)) := wp_some _ _
theorem w_tyN (t Q) : wp (isTy .none t) Q = Q false := wp_some _ _
theorem w_tyBi (b Q) : wp (isTy (.bool b) .int) Q = Q true := wp_some _ _
theorem w_tyBb (b Q) : wp (isTy (.bool b) .bool) Q = Q true := wp_some _ _
theorem w_tyBs (b Q) : wp (isTy (.bool b) .str) Q = Q false := wp_some _ _
theorem w_tyBt (b Q) : wp (isTy (.bool b) .tuple) Q = Q false := wp_some _ _
theorem w_tyBl (b Q) : wp (isTy (.bool b) .list) Q = Q false := wp_some _ _
theorem w_tyBd (b Q) : wp (isTy (.bool b) .dict) Q = Q false := wp_some _ _
theorem w_tyIi (b Q) : wp (isTy (.int b) .int) Q = Q true := wp_some _ _
theorem w_tyIb (b Q) : wp (isTy (.int b) .bool) Q = Q false := wp_some _ _
theorem w_tyIs (b Q) : wp (isTy (.int b) .str) Q = Q false := wp_some _ _
theorem w_tyIt (b Q) : wp (isTy (.int b) .tuple) Q = Q false := wp_some _ _
theorem w_tyIl (b Q) : wp (isTy (.int b) .list) Q = Q false := wp_some _ _
theorem w_tyId (b Q) : wp (isTy (.int b) .dict) Q = Q false := wp_some _ _
theorem w_tySi (b Q) : wp (isTy (.str b) .int) Q = Q false := wp_some _ _
theorem w_tySb (b Q) : wp (isTy (.str b) .bool) Q = Q false := wp_some _ _
theorem w_tySs (b Q) : wp (isTy (.str b) .str) Q = Q true := wp_some _ _
theorem w_tySt (b Q) : wp (isTy (.str b) .tuple) Q = Q false := wp_some _ _
theorem w_tySl (b Q) : wp (isTy (.str b) .list) Q = Q false := wp_some _ _
theorem w_tySd (b Q) : wp (isTy (.str b) .dict) Q = Q false := wp_some _ _
theorem w_tyTi (b Q) : wp (isTy (.tuple b) .int) Q = Q false := wp_some _ _
theorem w_tyTb (b Q) : wp (isTy (.tuple b) .bool) Q = Q false := wp_some _ _
theorem w_tyTs (b Q) : wp (isTy (.tuple b) .str) Q = Q false := wp_some _ _
theorem w_tyTt (b Q) : wp (isTy (.tuple b) .tuple) Q = Q true := wp_some _ _
theorem w_tyTl (b Q) : wp (isTy (.tuple b) .list) Q = Q false := wp_some _ _
theorem w_tyTd (b Q) : wp (isTy (.tuple b) .dict) Q = Q false := wp_some _ _
theorem w_tyLi (b Q) : wp (isTy (.list b) .int) Q = Q false := wp_some _ _
theorem w_tyLb (b Q) : wp (isTy (.list b) .bool) Q = Q false := wp_some _ _
theorem w_tyLs (b Q) : wp (isTy (.list b) .str) Q = Q false := wp_some _ _
theorem w_tyLt (b Q) : wp (isTy (.list b) .tuple) Q = Q false := wp_some _ _
theorem w_tyLl (b Q) : wp (isTy (.list b) .list) Q = Q true := wp_some _ _
theorem w_tyLd (b Q) : wp (isTy (.list b) .dict) Q = Q false := wp_some _ _
theorem w_tyDd (kvs) (h : dOk kvs = true) (Q) : wp (isTy (.dict kvs) .dict) Q = Q true := by simp only [isTy, h, if_true, wp_some]
theorem w_tyDi (kvs) (h : dOk kvs = true) (Q) : wp (isTy (.dict kvs) .int) Q = Q false := by simp only [isTy, h, if_true, wp_some]
theorem w_tyDb (kvs) (h : dOk kvs = true) (Q) : wp (isTy (.dict kvs) .bool) Q = Q false := by simp only [isTy, h, if_true, wp_some]
theorem w_tyDs (kvs) (h : dOk kvs = true) (Q) : wp (isTy (.dict kvs) .str) Q = Q false := by simp only [isTy, h, if_true, wp_some]
theorem w_tyDt (kvs) (h : dOk kvs = true) (Q) : wp (isTy (.dict kvs) .tuple) Q = Q false := by simp only [isTy, h, if_true, wp_some]
theorem w_tyDl (kvs) (h : dOk kvs = true) (Q) : wp (isTy (.dict kvs) .list) Q = Q false := by simp only [isTy, h, if_true, wp_some]
/-- an item: where it stands -/
theorem at_nat {n j : Nat} {k : Int} (e : k = (j : Int)) (h : j < n) : at? n k = some j := by
  subst e
  unfold at?
  rw [if_pos (by omega), if_pos (by omega)]
  rfl
theorem at_neg {n j : Nat} {k : Int} (e : k + n = (j : Int)) (h : j < n) (hk : k < 0) : at? n k = some j := by
  unfold at?
  rw [if_neg (by omega), if_pos (by omega), e]
  rfl
theorem w_itL (xs : List D) (k : Int) (j : Nat) (d : D) (Q) (h : at? xs.length k = some j) (hd : xs[j]? = some d) : wp (item (.list xs) (.int k)) Q = Q d := by
  show wp ((at? xs.length k).bind fun j => xs[j]?) Q = _
  rw [h, wp_bind, wp_some, hd, wp_some]
theorem w_itT (xs : List D) (k : Int) (j : Nat) (d : D) (Q) (h : at? xs.length k = some j) (hd : xs[j]? = some d) : wp (item (.tuple xs) (.int k)) Q = Q d := by
  show wp ((at? xs.length k).bind fun j => xs[j]?) Q = _
  rw [h, wp_bind, wp_some, hd, wp_some]
theorem w_itS (xs : List D) (k : Int) (j : Nat) (d : D) (Q) (h : at? xs.length k = some j) (hd : xs[j]? = some d) : wp (item (.dict [(.none, .list xs)]) (.int k)) Q = Q d := by
  show wp ((at? xs.length k).bind fun j => xs[j]?) Q = _
  rw [h, wp_bind, wp_some, hd, wp_some]
theorem w_it0 (x : D) (r : List D) (Q) : wp (item (.tuple (x :: r)) (.int 0)) Q = Q x := w_itT _ _ 0 _ _ (at_nat rfl (by simp)) rfl
theorem w_it1 (x y : D) (r : List D) (Q) : wp (item (.tuple (x :: y :: r)) (.int 1)) Q = Q y := w_itT _ _ 1 _ _ (at_nat rfl (by simp)) rfl
theorem w_it2 (x y z : D) (r : List D) (Q) : wp (item (.tuple (x :: y :: z :: r)) (.int 2)) Q = Q z := w_itT _ _ 2 _ _ (at_nat rfl (by simp)) rfl
theorem w_it3 (x y z u : D) (r : List D) (Q) : wp (item (.tuple (x :: y :: z :: u :: r)) (.int 3)) Q = Q u := w_itT _ _ 3 _ _ (at_nat rfl (by simp)) rfl
theorem w_it4 (x y z u v : D) (r : List D) (Q) : wp (item (.tuple (x :: y :: z :: u :: v :: r)) (.int 4)) Q = Q v := w_itT _ _ 4 _ _ (at_nat rfl (by simp)) rfl
theorem w_it5 (x y z u v t : D) (r : List D) (Q) : wp (item (.tuple (x :: y :: z :: u :: v :: t :: r)) (.int 5)) Q = Q t := w_itT _ _ 5 _ _ (at_nat rfl (by simp)) rfl
theorem w_l1 (x y : D) (r : List D) (Q) : wp (item (.list (x :: y :: r)) (.int 1)) Q = Q y := w_itL _ _ 1 _ _ (at_nat rfl (by simp)) rfl
theorem w_l2 (x y z : D) (r : List D) (Q) : wp (item (.list (x :: y :: z :: r)) (.int 2)) Q = Q z := w_itL _ _ 2 _ _ (at_nat rfl (by simp)) rfl
theorem w_l0 (x : D) (r : List D) (Q) : wp (item (.list (x :: r)) (.int 0)) Q = Q x := w_itL _ _ 0 _ _ (at_nat rfl (by simp)) rfl
/-! ### loops -/
def lp (I : Env → Prop) (Q : Out → Prop) : Out → Prop
  | .nx E => I E
  | .ct E => I E
  | .brk E => Q (.nx E)
  | .ret d E => Q (.ret d E)
theorem lp_nx (I Q E) : lp I Q (.nx E) = I E := rfl
theorem lp_ct (I Q E) : lp I Q (.ct E) = I E := rfl
theorem lp_brk (I Q E) : lp I Q (.brk E) = Q (.nx E) := rfl
theorem lp_ret (I Q d E) : lp I Q (.ret d E) = Q (.ret d E) := rfl
theorem wFor_nil (t b Q) : wFor C t b [] E Q = Q (.nx E) := by unfold wFor; simp only [forL, wp_some]
theorem wFor_cons (t b x r Q) : wFor C t b (x :: r) E Q = wAs t x E fun E1 => wXs C b E1 (lp (fun E2 => wFor C t b r E2 Q) Q) := by
  unfold wFor wAs wXs; simp only [forL, wp_bind]
  congr 1; funext E1
  cases Pv.execs C b E1 with
  | none => simp only [wp_none]
  | some o => cases o <;> simp only [wp_some, lp]
theorem wXs_imp {ss : List SIR} {Q R : Out → Prop} (h : wXs C ss E Q) (m : ∀ o, Q o → R o) : wXs C ss E R := wp_imp h m
theorem wAs_imp {t : Tg} {d : D} {Q R : Env → Prop} (h : wAs t d E Q) (m : ∀ o, Q o → R o) : wAs t d E R := wp_imp h m
theorem wE_imp {e : IR} {Q R : D → Env → Prop} (h : wE C e E Q) (m : ∀ d o, Q d o → R d o) : wE C e E R := wp_imp h fun p => m p.1 p.2
theorem lp_imp {I J : Env → Prop} {Q : Out → Prop} (m : ∀ E, I E → J E) : ∀ o, lp I Q o → lp J Q o := fun o h => by cases o <;> first | exact m _ h | exact h
theorem wFor_at {t : Tg} {b : List SIR} {Q : Out → Prop} (I : Nat → Env → Prop) : ∀ (xs : List D) (k : Nat) (E : Env), (∀ i x E, xs[i]? = some x → I (k + i) E → wAs t x E fun E1 => wXs C b E1 (lp (I (k + i + 1)) Q)) → I k E →
    (∀ E', I (k + xs.length) E' → Q (.nx E')) → wFor C t b xs E Q
  | [], k, E, _, hi, hq => by rw [wFor_nil]; exact hq E hi
  | x :: r, k, E, h, hi, hq => by
    rw [wFor_cons]
    refine wAs_imp (h 0 x E rfl hi) fun E1 h1 => wXs_imp h1 (lp_imp fun E2 i2 => ?_)
    refine wFor_at I r (k + 1) E2 (fun i y E hy hI => ?_) i2 (fun E' hE => hq E' ?_)
    · have := h (i + 1) y E (by simpa using hy) (by rw [show k + (i + 1) = k + 1 + i by omega]; exact hI)
      rw [show k + 1 + i + 1 = k + (i + 1) + 1 by omega]
      exact this
    · rw [List.length_cons, show k + (r.length + 1) = k + 1 + r.length by omega]
      exact hE
/-- a for, by an invariant at each turn -/
theorem wFor_ok {t : Tg} {b : List SIR} {xs : List D} {E : Env} {Q : Out → Prop} (I : Nat → Env → Prop) (hi : I 0 E) (h : ∀ i x E, xs[i]? = some x → I i E → wAs t x E fun E1 => wXs C b E1 (lp (I (i + 1)) Q)) (hq : ∀ E', I xs.length E' → Q (.nx E')) : wFor C t b xs E Q :=
  wFor_at I xs 0 E (fun i x E hx hI => by rw [Nat.zero_add] at hI ⊢; exact h i x E hx hI) hi (fun E' hE => by rw [Nat.zero_add] at hE; exact hq E' hE)
theorem rngI_get {lo : Int} {n i : Nat} {x : D} (h : (rngI lo n)[i]? = some x) : i < n ∧ x = .int (lo + i) := by
  unfold rngI at h
  rw [List.getElem?_map, Option.map_eq_some_iff] at h
  obtain ⟨j, h1, rfl⟩ := h
  obtain ⟨h2, h3⟩ := List.getElem?_eq_some_iff.mp h1
  rw [List.length_range] at h2
  rw [List.getElem_range] at h3
  subst h3
  exact ⟨h2, rfl⟩
theorem rngI_len (lo : Int) (n : Nat) : (rngI lo n).length = n := by unfold rngI; simp
theorem wWh_go {c : IR} {b : List SIR} {Q : Out → Prop} (I : Nat → Env → Prop) (h : ∀ m E, I m E → wE C c E fun d E1 => wC d (wXs C b E1 (lp (fun E2 => ∃ k, k < m ∧ I k E2) Q)) (Q (.nx E1))) :
    ∀ (n m : Nat) (E : Env), I m E → m < n → wp (whileL (ev C c) (Pv.execs C b) n E) Q
  | 0, _, _, _, hn => by omega
  | n + 1, m, E, hi, hn => by
    obtain ⟨⟨d, E1⟩, e1, q⟩ := h m E hi
    simp only [whileL, e1]
    cases d with
    | bool v =>
      cases v with
      | true =>
        obtain ⟨o, e2, q2⟩ := q
        simp only [e2]
        cases o with
        | nx E2 => obtain ⟨k, hk, i2⟩ := q2; exact wWh_go I h n k E2 i2 (by omega)
        | ct E2 => obtain ⟨k, hk, i2⟩ := q2; exact wWh_go I h n k E2 i2 (by omega)
        | brk E2 => simp only [wp_some]; exact q2
        | ret d E2 => simp only [wp_some]; exact q2
      | false => simp only [wp_some]; exact q
    | _ => exact False.elim q
/-- a while, by an invariant with a measure -/
theorem wWh_ok {c : IR} {b : List SIR} {E : Env} {Q : Out → Prop} (I : Nat → Env → Prop) (m : Nat) (hi : I m E) (hm : m < 1000000) (h : ∀ m E, I m E → wE C c E fun d E1 => wC d (wXs C b E1 (lp (fun E2 => ∃ k, k < m ∧ I k E2) Q)) (Q (.nx E1))) : wWh C c b E Q :=
  wWh_go I h WF m E hi hm
theorem len_wipes (E : Env) : ∀ own : List Nat, (wipes E own).length = E.length
  | [] => rfl
  | i :: r => by show ((wipes E r).set i .un).length = _; rw [List.length_set, len_wipes E r]
theorem len_backs (E0 E : Env) : ∀ own : List Nat, (backs E0 E own).length = E.length
  | [] => rfl
  | i :: r => by show ((backs E0 E r).set i (gets E0 i)).length = _; rw [List.length_set, len_backs E0 E r]
theorem at_wipes (E : Env) : ∀ (own : List Nat) (j : Nat), j ∉ own → (wipes E own)[j]? = E[j]?
  | [], _, _ => rfl
  | i :: r, j, h => by
    simp only [List.mem_cons, not_or] at h
    show ((wipes E r).set i .un)[j]? = _
    rw [List.getElem?_set_ne (Ne.symm h.1), at_wipes E r j h.2]
theorem at_backs (E0 E : Env) (hl : E.length = E0.length) : ∀ (own : List Nat) (j : Nat), (backs E0 E own)[j]? = if j ∈ own then E0[j]? else E[j]?
  | [], _ => by simp [backs]
  | i :: r, j => by
    show ((backs E0 E r).set i (gets E0 i))[j]? = _
    by_cases q : i = j
    · subst q
      simp only [List.mem_cons, true_or, if_true]
      by_cases hi : i < E0.length
      · rw [List.getElem?_set_self (by rw [len_backs, hl]; exact hi)]
        unfold gets
        rw [List.getD_eq_getElem?_getD, List.getElem?_eq_getElem hi]
        rfl
      · rw [List.getElem?_eq_none (by rw [List.length_set, len_backs, hl]; omega), List.getElem?_eq_none (by omega)]
    · rw [List.getElem?_set_ne q, at_backs E0 E hl r j]
      simp [Ne.symm q]
theorem backs_wipes (E : Env) (own : List Nat) : backs E (wipes E own) own = E := by
  apply List.ext_getElem?
  intro j
  rw [at_backs E _ (len_wipes E own) own j]
  by_cases h : j ∈ own
  · rw [if_pos h]
  · rw [if_neg h, at_wipes E own j h]
def wWi (own : List Nat) (E : Env) (Q : Env → Prop) : Prop := Q (wipes E own)
theorem wWi_nil (E Q) : wWi [] E Q = Q E := rfl
theorem wWi_cons (i r E Q) : wWi (i :: r) E Q = wWi r E fun E1 => wSet i .un E1 Q := rfl
/-- a comprehension that changes nothing -/
theorem wComp_ok {elt c : IR} {t : Tg} {own : List Nat} {xs : List D} {E : Env} {Q : D → Env → Prop} (p : D → Bool) (f : D → D) (hl : xs.length ≤ 16777216)
    (h : ∀ x ∈ xs, wWi own E fun E0 => wAs t x E0 fun E1 => wE C c E1 fun d E2 => d = .bool (p x) ∧ (p x = true → wE C elt E2 fun y E3 => y = f x ∧ wWi own E3 fun E4 => E4 = wipes E own) ∧ (p x = false → wWi own E2 fun E4 => E4 = wipes E own))
    (hq : Q (.list ((xs.filter p).map f)) E) : wComp C elt t c own xs E Q := by
  have key : ∀ ys : List D, (∀ y ∈ ys, y ∈ xs) → compL (assignT t) own (ev C c) (ev C elt) ys (wipes E own) = some ((ys.filter p).map f, wipes E own) := by
    intro ys
    induction ys with
    | nil => intro _; simp only [compL]; rfl
    | cons x r ih =>
      intro hm
      have ih := ih fun y hy => hm y (List.mem_cons_of_mem _ hy)
      obtain ⟨E1, h1, ⟨d, E2⟩, h2, h3, h4, h5⟩ := h x (hm x List.mem_cons_self)
      simp only at h3 h4 h5
      subst h3
      simp only [compL, h1, Option.bind_some, h2]
      cases q : p x with
      | true =>
        obtain ⟨⟨y, E3⟩, h6, h7, h8⟩ := h4 q
        simp only at h7 h8
        subst h7
        have h8 : wipes E3 own = wipes E own := h8
        simp only [h6, Option.bind_some, h8, ih, Option.map_some, List.filter_cons, q, if_true, List.map_cons]
      | false =>
        have h8 : wipes E2 own = wipes E own := h5 q
        simp [h8, ih, List.filter_cons, q]
  refine ⟨hl, _, key xs fun _ h => h, ?_⟩
  show Q (.list ((xs.filter p).map f)) (backs E (wipes E own) own)
  rw [backs_wipes]
  exact hq
theorem wComp_map {α : Type} {elt c : IR} {t : Tg} {own : List Nat} {E : Env} {Q : D → Env → Prop} (l : List α) (g : α → D) (p : α → Bool) (f : α → D) (hl : l.length ≤ 16777216)
    (h : ∀ x ∈ l, wWi own E fun E0 => wAs t (g x) E0 fun E1 => wE C c E1 fun d E2 => d = .bool (p x) ∧ (p x = true → wE C elt E2 fun y E3 => y = f x ∧ wWi own E3 fun E4 => E4 = wipes E own) ∧ (p x = false → wWi own E2 fun E4 => E4 = wipes E own))
    (hq : Q (.list ((l.filter p).map f)) E) : wComp C elt t c own (l.map g) E Q := by
  have key : ∀ ys : List α, (∀ y ∈ ys, y ∈ l) → compL (assignT t) own (ev C c) (ev C elt) (ys.map g) (wipes E own) = some ((ys.filter p).map f, wipes E own) := by
    intro ys
    induction ys with
    | nil => intro _; simp only [List.map_nil, compL]; rfl
    | cons x r ih =>
      intro hm
      have ih := ih fun y hy => hm y (List.mem_cons_of_mem _ hy)
      obtain ⟨E1, h1, ⟨d, E2⟩, h2, h3, h4, h5⟩ := h x (hm x List.mem_cons_self)
      simp only at h3 h4 h5
      subst h3
      simp only [List.map_cons, compL, h1, Option.bind_some, h2]
      cases q : p x with
      | true =>
        obtain ⟨⟨y, E3⟩, h6, h7, h8⟩ := h4 q
        simp only at h7 h8
        subst h7
        have h8 : wipes E3 own = wipes E own := h8
        simp only [h6, Option.bind_some, h8, ih, Option.map_some, List.filter_cons, q, if_true, List.map_cons]
      | false =>
        have h8 : wipes E2 own = wipes E own := h5 q
        simp [h8, ih, List.filter_cons, q]
  refine ⟨by rw [List.length_map]; exact hl, _, key l fun _ h => h, ?_⟩
  show Q (.list ((l.filter p).map f)) (backs E (wipes E own) own)
  rw [backs_wipes]
  exact hq
theorem wComp_rng {elt c : IR} {t : Tg} {own : List Nat} {lo : Int} {n : Nat} {E : Env} {Q : D → Env → Prop} (p : Nat → Bool) (f : Nat → D) (hl : n ≤ 16777216)
    (h : ∀ x, x < n → wWi own E fun E0 => wAs t (.int (lo + (x : Int))) E0 fun E1 => wE C c E1 fun d E2 => d = .bool (p x) ∧ (p x = true → wE C elt E2 fun y E3 => y = f x ∧ wWi own E3 fun E4 => E4 = wipes E own) ∧ (p x = false → wWi own E2 fun E4 => E4 = wipes E own))
    (hq : Q (.list (((List.range n).filter p).map f)) E) : wComp C elt t c own (rngI lo n) E Q :=
  wComp_map (List.range n) _ p f (by simpa using hl) (fun x hx => h x (by simpa using hx)) hq
theorem wComp_mapA {α : Type} {elt : IR} {t : Tg} {own : List Nat} {E : Env} {Q : D → Env → Prop} (l : List α) (g : α → D) (f : α → D) (hl : l.length ≤ 16777216)
    (h : ∀ x ∈ l, wWi own E fun E0 => wAs t (g x) E0 fun E1 => wE C elt E1 fun y E3 => y = f x ∧ wWi own E3 fun E4 => E4 = wipes E own)
    (hq : Q (.list (l.map f)) E) : wComp C elt t (.k (.bool true)) own (l.map g) E Q := by
  refine wComp_map l g (fun _ => true) f hl (fun x hx => ?_) (by rw [show l.filter (fun _ => true) = l by simp]; exact hq)
  refine wAs_imp (h x hx) fun E1 h1 => ?_
  rw [wE_k]
  exact ⟨rfl, fun _ => h1, fun z => by cases z⟩
theorem wComp_rngA {elt : IR} {t : Tg} {own : List Nat} {lo : Int} {n : Nat} {E : Env} {Q : D → Env → Prop} (f : Nat → D) (hl : n ≤ 16777216)
    (h : ∀ x, x < n → wWi own E fun E0 => wAs t (.int (lo + (x : Int))) E0 fun E1 => wE C elt E1 fun y E3 => y = f x ∧ wWi own E3 fun E4 => E4 = wipes E own)
    (hq : Q (.list ((List.range n).map f)) E) : wComp C elt t (.k (.bool true)) own (rngI lo n) E Q :=
  wComp_mapA (List.range n) _ f (by simpa using hl) (fun x hx => h x (by simpa using hx)) hq
theorem filter_tt {α : Type} (l : List α) : l.filter (fun _ => true) = l := by simp
/-- a slot that may be stored to -/
def Fr (s : Slot) : Prop := ∀ d, s ≠ .io d
theorem fr_un : Fr .un := fun _ h => by cases h
theorem fr_sh (d) : Fr (.sh d) := fun _ h => by cases h
theorem fr_ow (d) : Fr (.ow d) := fun _ h => by cases h
theorem fr_Sv {s : Slot} (h : Fr s) (i d E Q) : wSv i false d E Q s = wSet i (.sh d) E Q := by
  cases s <;> first | rfl | exact absurd rfl (h _)
theorem fr_SvT {s : Slot} (h : Fr s) (i d E Q) : wSv i true d E Q s = wSet i (.ow d) E Q := by
  cases s <;> first | rfl | exact absurd rfl (h _)
/-! ### defs -/
def wOut (n : Nat) (Q : D → List D → Prop) : Out → Prop
  | .nx E => wp (iosOf E n) fun cs => Q .none cs
  | .ret d E => wp (iosOf E n) fun cs => Q d cs
  | _ => False
theorem wOut_nx (Q E) : wOut 0 Q (.nx E) = Q .none [] := wp_some _ _
theorem wOut_ret (Q d E) : wOut 0 Q (.ret d E) = Q d [] := wp_some _ _
theorem wOut_nx1 (Q d E) : wOut 1 Q (.nx (.io d :: E)) = Q .none [d] := wp_some _ _
theorem wOut_ret1 (Q r d E) : wOut 1 Q (.ret r (.io d :: E)) = Q r [d] := wp_some _ _
theorem wOut_nx2 (Q d d' E) : wOut 2 Q (.nx (.io d :: .io d' :: E)) = Q .none [d, d'] := wp_some _ _
theorem wOut_ret2 (Q r d d' E) : wOut 2 Q (.ret r (.io d :: .io d' :: E)) = Q r [d, d'] := wp_some _ _
theorem def_run {T : List FDef} {gl : List D} {n f : Nat} {args : List D} {F : FDef} {E : Env} {Q : D → List D → Prop} (hF : T[f]? = some F) (hl : args.length = F.np ∧ F.nio ≤ F.np ∧ F.np ≤ F.ns) (hE : startE F args = E) (h : wXs ⟨callN T gl n, gl⟩ F.body E (wOut F.nio Q)) :
    wK (callN T gl (n + 1) f args) Q := by
  have e : callN T gl (n + 1) f args = runDef ⟨callN T gl n, gl⟩ F args := by
    show (match T[f]? with | some F => _ | none => none) = _
    rw [hF]
  obtain ⟨o, h1, h2⟩ := h
  rw [e]
  subst hE
  unfold runDef
  rw [if_pos hl, h1]
  cases o with
  | nx E => obtain ⟨cs, e1, q⟩ := h2; exact ⟨(.none, cs), by simp only [e1, Option.map_some], q⟩
  | ret d E => obtain ⟨cs, e1, q⟩ := h2; exact ⟨(d, cs), by simp only [e1, Option.map_some], q⟩
  | brk E => exact False.elim h2
  | ct E => exact False.elim h2
/-- .. told as an equation -/
theorem def_eq {x : Option (D × List D)} {r : D} {cs : List D} (h : wK x fun d l => d = r ∧ l = cs) : x = some (r, cs) := by
  obtain ⟨⟨d, l⟩, e, h1, h2⟩ := h
  simp only at h1 h2
  rw [e, h1, h2]
end
end Pv

set_option Elab.async false
set_option linter.all false
set_option maxRecDepth 100000
set_option maxHeartbeats 1000000
/-! PvW: the laws' own draws. -/
namespace Pv
open PySem
def dDraws : FDef := { nio := 0, np := 2, ns := 8, body := [(.asg (.name 2) (.lst [])), (.asg (.name 3) (.k (.int 7))), (.for (.name 4) (.rng [(.blt .len [(.var 0)])]) [(.asg (.name 5) (.blt .abs [(.blt .int [(.idx (.var 0) (.var 4))])])), (.asg (.name 3) (.bin .mod (.blt .int [(.bin .add (.bin .add (.bin .mul (.var 3) (.k (.int 48271))) (.bin .mod (.var 5) (.k (.int 1000003)))) (.var 4))]) (.k (.int 65537)))), (.asg (.name 6) (.k (.int 0))), (.ite (.cmp .ge (.var 5) (.bin .pow (.k (.int 10)) (.k (.int 18)))) [(.asg (.name 6) (.var 5))] [(.exp (.mut .append 2 [(.bin .mod (.blt .int [(.var 5)]) (.k (.int 997)))])), (.exp (.mut .append 2 [(.bin .mod (.bin .mod (.blt .int [(.bin .add (.bin .mul (.var 3) (.k (.int 69621))) (.k (.int 5)))]) (.k (.int 65521))) (.k (.int 997)))]))]), (.for (.name 7) (.rng [(.k (.int 60))]) [(.ite (.cmp .gt (.var 6) (.k (.int 0))) [(.exp (.mut .append 2 [(.bin .mod (.blt .int [(.var 6)]) (.k (.int 997)))])), (.asg (.name 6) (.bin .fdiv (.var 6) (.k (.int 997))))] [])])]), (.for (.name 4) (.rng [(.var 1)]) [(.asg (.name 3) (.bin .mod (.blt .int [(.bin .add (.bin .add (.bin .mul (.var 3) (.k (.int 16807))) (.var 4)) (.k (.int 1)))]) (.k (.int 65537)))), (.exp (.mut .append 2 [(.bin .mod (.blt .int [(.var 3)]) (.k (.int 997)))]))]), (.ret (.slc (.var 2) (.k .none) (.var 1)))] }
def dNext : FDef := { nio := 1, np := 2, ns := 2, body := [(.augS 0 (.k (.str (PySem.Str.ofString "at"))) .add (.k (.int 1))), (.ite (.cmp .gt (.idx (.var 0) (.k (.str (PySem.Str.ofString "at")))) (.blt .len [(.idx (.var 0) (.k (.str (PySem.Str.ofString "draws"))))])) [(.ret (.k (.int 0)))] []), (.ret (.bin .mod (.blt .int [(.idx (.idx (.var 0) (.k (.str (PySem.Str.ofString "draws")))) (.bin .sub (.idx (.var 0) (.k (.str (PySem.Str.ofString "at")))) (.k (.int 1))))]) (.var 1)))] }
def kD : D := .str (PySem.Str.ofString "draws")
def kA : D := .str (PySem.Str.ofString "at")
def W (ds : List D) (n : Int) : D := .dict [(kD, .list ds), (kA, .int n)]
def Ints (ds : List D) : Prop := ∀ d ∈ ds, ∃ i : Int, d = .int i
theorem wDi_W (ds n P) : wDi (W ds n) P = P := rfl
theorem wDm_W (ds n P) : wDm (W ds n) P = P := rfl
theorem wDm2_W (ds n m P) : wDm2 (W ds n) (W ds m) P = P := rfl
theorem k_da : keyEq kD kA = false := by decide +kernel
theorem k_ad : keyEq kA kD = false := by decide +kernel
theorem k_dd : keyEq kD kD = true := by decide +kernel
theorem k_aa : keyEq kA kA = true := by decide +kernel
theorem item_A (ds n) : item (W ds n) kA = some (.int n) := by
  show (if isKey kA && dOk [(kD, .list ds), (kA, .int n)] then dval [(kD, .list ds), (kA, .int n)] kA else none) = _
  rw [if_pos (by rfl)]
  unfold dval
  simp only [List.find?, k_da, k_aa]
  rfl
theorem item_D (ds n) : item (W ds n) kD = some (.list ds) := by
  show (if isKey kD && dOk [(kD, .list ds), (kA, .int n)] then dval [(kD, .list ds), (kA, .int n)] kD else none) = _
  rw [if_pos (by rfl)]
  unfold dval
  simp only [List.find?, k_dd]
  rfl
theorem set_A (ds n m) : setItem (W ds n) kA (.int m) = some (W ds m) := by
  show (if isKey kA && dOk [(kD, .list ds), (kA, .int n)] && decide ([(kD, .list ds), (kA, PyData.int n)].length < LIM) then some (PyData.dict (dput [(kD, .list ds), (kA, .int n)] kA (.int m))) else none) = _
  rw [if_pos (by rfl)]
  unfold dput W
  simp [k_da, k_aa]
theorem wD_A (ds n Q) : wp (item (W ds n) (.str (PySem.Str.ofString "at"))) Q = Q (.int n) := wp_of (item_A ds n)
theorem wD_D (ds n Q) : wp (item (W ds n) (.str (PySem.Str.ofString "draws"))) Q = Q (.list ds) := wp_of (item_D ds n)
theorem wD_S (ds n m Q) : wp (setItem (W ds n) (.str (PySem.Str.ofString "at")) (.int m)) Q = Q (W ds m) := wp_of (set_A ds n m)
theorem wD_N (ds n Q) : wp (dputs [.str (PySem.Str.ofString "draws"), .list ds, .str (PySem.Str.ofString "at"), .int n] []) Q = Q [(kD, .list ds), (kA, .int n)] := by
  refine wp_of ?_
  show (if isKey kD then (if isKey kA then dputs [] (dput (dput [] kD (.list ds)) kA (.int n)) else none) else none) = _
  rw [if_pos (show isKey kD = true from rfl), if_pos (show isKey kA = true from rfl)]
  have e1 : dput [] kD (.list ds) = [(kD, .list ds)] := rfl
  rw [e1]
  unfold dput
  simp [k_da, dputs]
theorem W_fold (ds n) : (PyData.dict [(kD, .list ds), (kA, .int n)]) = W ds n := rfl
section
variable {C : Ctx} {Q : D → List D → Prop}
theorem next_body (ds : List D) (hd : Ints ds) (n : Nat) (m : Int) (hm : 0 < m) (hq : ∀ r : Int, 0 ≤ r → r < m → Q (.int r) [W ds ((n + 1 : Nat) : Int)]) : wXs C dNext.body [.io (W ds n), .sh (.int m)] (wOut 1 Q) := by
  unfold dNext
  simp only [↓wp_some, ↓wGet_z, ↓wGet_s, ↓wSet_z, ↓wSet_s, ↓wCt_sh, ↓wCt_ow, ↓wCt_io, ↓wG_val, ↓wG_bor, ↓wV_sh, ↓wV_ow, ↓wE_k, ↓wE_var, ↓wOv_sh, ↓wOv_ow, ↓wOv_io, ↓wO_var, ↓wO_k, ↓wO_glb, ↓wO_bin, ↓wO_neg, ↓wO_not, ↓wO_cmp, ↓wO_chain, ↓wO_chn3, ↓wO_and, ↓wO_or, ↓wO_ite, ↓wO_tup, ↓wO_lst, ↓wO_dctT, ↓wO_dct, ↓wO_idx, ↓wO_slc, ↓wO_call, ↓wO_blt, ↓wO_mth, ↓wO_upd, ↓wO_mut, ↓wO_rng, ↓wO_comp, ↓wO_callB, ↓wO_kys, ↓wO_fz, ↓wO_rev, ↓wO_lrg, ↓wO_lrs, ↓wO_lzp, ↓wO_trg, ↓wO_lix, ↓wO_cnt, ↓wO_srs, ↓wO_rgs, ↓wO_zip, ↓wO_inr, ↓wO_isi, ↓wO_comp2, ↓wE_bin, ↓wNeg_i, ↓wNot_b, ↓wE_neg, ↓wE_not, ↓wE_cmp, ↓wC_t, ↓wC_f, ↓wC_d, ↓wC_nd, ↓wE_chain, ↓wE_chn3, ↓wE_and, ↓wE_or, ↓wE_ite, ↓wEs_nil, ↓wEs_cons, ↓wOs_nil, ↓wOs_cons, ↓wLim_eq, ↓wE_tup, ↓wE_lst, ↓wE_dctT, ↓wE_dct, ↓wE_idx, ↓wE_slc, ↓wE_rev, ↓wMv_ow, ↓wMv_io, ↓wM_eq, ↓wPv_ow, ↓wPv_io, ↓wP_eq, ↓wMs_nil, ↓wMs_cons, ↓wPs_nil, ↓wPs_cons, ↓wA_nil, ↓wA_cons, ↓wE_call', ↓wLn_sh, ↓wLn_ow, ↓wLn_io, ↓wLns_nil, ↓wLns_cons, ↓wFl_int, ↓wFl_bool, ↓wFl_none, ↓wFl_str, ↓wE_callB', ↓wE_glb', ↓wTs_nil, ↓wTs_cons, ↓wE_blt, ↓wL_l, ↓wDm2_l, ↓wDm2_d, ↓wDm_l, ↓wDm_d, ↓wE_mth, ↓wE_lix, ↓wE_cnt, ↓wTd_t, ↓wE_upd, ↓wE_mut, ↓wE_kys, ↓wE_fz, ↓wE_rng, ↓wE_lrg, ↓wE_lrs, ↓wE_lzp, ↓wTr_l, ↓wE_trg, ↓wE_srs, ↓wE_rgs, ↓wE_zip, ↓wE_inr, ↓wE_isi, ↓wH_val, ↓wH_bor, ↓wI_l, ↓wI_t, ↓wE_comp, ↓wE_comp2, ↓wKo_nx, ↓wKo_ret, ↓wKo_brk, ↓wKo_ct, ↓wXs_nil, ↓wXs_cons, ↓wSv_un, ↓wSv_sh, ↓wSv_ow, ↓wSv_unT, ↓wSv_shT, ↓wSv_owT, ↓wS_eq, ↓wF_i, ↓wF_b, ↓wF_n, ↓wF_t, ↓wF_s, ↓wF_llst, ↓wF_lcmp, ↓wF_lrev, ↓wF_lslc, ↓wF_lbli, ↓wF_lsrs, ↓wF_lsrt, ↓wF_ladd, ↓wF_lmul, ↓wF_lcm2, ↓wF_llrg, ↓wF_llrs, ↓wF_llzp, ↓wF_lvar, ↓wF_lcal, ↓wF_lidx, ↓wF_lmut, ↓wF_lupd, ↓wF_lmth, ↓wF_liteV, ↓wF_liteK, ↓wF_liteI, ↓wF_liteC, ↓wF_liteM, ↓wF_liteS, ↓wF_liteT, ↓wF_liteB, ↓wF_liteN, ↓wF_liteG, ↓wF_liteLV, ↓wF_liteLK, ↓wF_liteLI, ↓wF_liteLC, ↓wF_liteLM, ↓wF_liteLS, ↓wF_liteLT, ↓wF_liteLB, ↓wF_liteLN, ↓wF_liteLG, ↓wF_liteLL, ↓wF_ddctT, ↓wF_ddct, ↓wF_dbld, ↓wF_dbldT, ↓wF_dvar, ↓wF_dcal, ↓wF_didx, ↓wX_asg, ↓wX_tup, ↓wAs_name, ↓wAs_tup, ↓wAs_tupL, ↓wAss_nil, ↓wAss_cons, ↓wPar_nil, ↓wPar_cons, ↓wX_par, ↓wX_aug, ↓wX_augS, ↓wX_setS, ↓w_ii2, ↓w_lsM, ↓wX_parS, ↓wX_exp, ↓wX_ret, ↓wX_ite, ↓wX_for, ↓wX_while, ↓wX_brk, ↓wX_ct, ↓wX_pass, ↓w_add, ↓w_sub, ↓w_mul, ↓w_fdiv, ↓w_mod, ↓w_pow, ↓w_addL, ↓w_addT, ↓w_mulL, ↓w_gadd, ↓w_gsub, ↓w_lt, ↓w_le, ↓w_gt, ↓w_ge, ↓w_eq, ↓w_ne, ↓w_isNN, ↓w_revL, ↓w_revT, ↓w_abs, ↓w_int, ↓w_lenL, ↓w_lenT, ↓w_lenS, ↓w_tupL, ↓w_tupT, ↓w_lisL, ↓w_lisT, ↓w_min2, ↓w_max2, ↓w_app, ↓wq_rng1, ↓wq_rng2, ↓w_isNi, ↓w_isNt, ↓w_isNl, ↓w_isNd, ↓w_isNs, ↓w_isNb, ↓w_notNi, ↓w_notNt, ↓w_notNl, ↓w_notNd, ↓w_notNs, ↓w_notNb, ↓w_notNN, ↓w_isB, ↓w_notB, ↓w_intB, ↓w_zipL, ↓w_zipT, ↓w_inr1, ↓w_inr2, ↓w_tyN, ↓w_tyBi, ↓w_tyBb, ↓w_tyBs, ↓w_tyBt, ↓w_tyBl, ↓w_tyBd, ↓w_tyIi, ↓w_tyIb, ↓w_tyIs, ↓w_tyIt, ↓w_tyIl, ↓w_tyId, ↓w_tySi, ↓w_tySb, ↓w_tySs, ↓w_tySt, ↓w_tySl, ↓w_tySd, ↓w_tyTi, ↓w_tyTb, ↓w_tyTs, ↓w_tyTt, ↓w_tyTl, ↓w_tyTd, ↓w_tyLi, ↓w_tyLb, ↓w_tyLs, ↓w_tyLt, ↓w_tyLl, ↓w_tyLd, ↓w_it0, ↓w_it1, ↓w_it2, ↓w_it3, ↓w_it4, ↓w_it5, ↓w_l1, ↓w_l2, ↓w_l0, ↓wWi_nil, ↓wWi_cons, ↓wComp_map, ↓wComp_rng, ↓wComp_mapA, ↓wComp_rngA, ↓wOut_nx, ↓wOut_ret, ↓wOut_nx1, ↓wOut_ret1, ↓wOut_nx2, ↓wOut_ret2, ↓lp_nx, ↓lp_ct, ↓lp_brk, ↓lp_ret, ↓wD_A, ↓wD_D, ↓wD_S, ↓wD_N, ↓wDi_W, ↓wDm_W, ↓wDm2_W]
  by_cases h : (ds.length : Int) < n + 1
  · rw [if_pos h]; exact hq 0 (by omega) hm
  · rw [if_neg h]
    have hl : n < ds.length := by omega
    obtain ⟨i, hi⟩ := hd _ (List.getElem_mem hl)
    rw [w_itL ds _ n (.int i) _ (at_nat (by omega) hl) (by rw [List.getElem?_eq_getElem hl, hi])]
    simp only [↓wp_some, ↓wGet_z, ↓wGet_s, ↓wSet_z, ↓wSet_s, ↓wCt_sh, ↓wCt_ow, ↓wCt_io, ↓wG_val, ↓wG_bor, ↓wV_sh, ↓wV_ow, ↓wE_k, ↓wE_var, ↓wOv_sh, ↓wOv_ow, ↓wOv_io, ↓wO_var, ↓wO_k, ↓wO_glb, ↓wO_bin, ↓wO_neg, ↓wO_not, ↓wO_cmp, ↓wO_chain, ↓wO_chn3, ↓wO_and, ↓wO_or, ↓wO_ite, ↓wO_tup, ↓wO_lst, ↓wO_dctT, ↓wO_dct, ↓wO_idx, ↓wO_slc, ↓wO_call, ↓wO_blt, ↓wO_mth, ↓wO_upd, ↓wO_mut, ↓wO_rng, ↓wO_comp, ↓wO_callB, ↓wO_kys, ↓wO_fz, ↓wO_rev, ↓wO_lrg, ↓wO_lrs, ↓wO_lzp, ↓wO_trg, ↓wO_lix, ↓wO_cnt, ↓wO_srs, ↓wO_rgs, ↓wO_zip, ↓wO_inr, ↓wO_isi, ↓wO_comp2, ↓wE_bin, ↓wNeg_i, ↓wNot_b, ↓wE_neg, ↓wE_not, ↓wE_cmp, ↓wC_t, ↓wC_f, ↓wC_d, ↓wC_nd, ↓wE_chain, ↓wE_chn3, ↓wE_and, ↓wE_or, ↓wE_ite, ↓wEs_nil, ↓wEs_cons, ↓wOs_nil, ↓wOs_cons, ↓wLim_eq, ↓wE_tup, ↓wE_lst, ↓wE_dctT, ↓wE_dct, ↓wE_idx, ↓wE_slc, ↓wE_rev, ↓wMv_ow, ↓wMv_io, ↓wM_eq, ↓wPv_ow, ↓wPv_io, ↓wP_eq, ↓wMs_nil, ↓wMs_cons, ↓wPs_nil, ↓wPs_cons, ↓wA_nil, ↓wA_cons, ↓wE_call', ↓wLn_sh, ↓wLn_ow, ↓wLn_io, ↓wLns_nil, ↓wLns_cons, ↓wFl_int, ↓wFl_bool, ↓wFl_none, ↓wFl_str, ↓wE_callB', ↓wE_glb', ↓wTs_nil, ↓wTs_cons, ↓wE_blt, ↓wL_l, ↓wDm2_l, ↓wDm2_d, ↓wDm_l, ↓wDm_d, ↓wE_mth, ↓wE_lix, ↓wE_cnt, ↓wTd_t, ↓wE_upd, ↓wE_mut, ↓wE_kys, ↓wE_fz, ↓wE_rng, ↓wE_lrg, ↓wE_lrs, ↓wE_lzp, ↓wTr_l, ↓wE_trg, ↓wE_srs, ↓wE_rgs, ↓wE_zip, ↓wE_inr, ↓wE_isi, ↓wH_val, ↓wH_bor, ↓wI_l, ↓wI_t, ↓wE_comp, ↓wE_comp2, ↓wKo_nx, ↓wKo_ret, ↓wKo_brk, ↓wKo_ct, ↓wXs_nil, ↓wXs_cons, ↓wSv_un, ↓wSv_sh, ↓wSv_ow, ↓wSv_unT, ↓wSv_shT, ↓wSv_owT, ↓wS_eq, ↓wF_i, ↓wF_b, ↓wF_n, ↓wF_t, ↓wF_s, ↓wF_llst, ↓wF_lcmp, ↓wF_lrev, ↓wF_lslc, ↓wF_lbli, ↓wF_lsrs, ↓wF_lsrt, ↓wF_ladd, ↓wF_lmul, ↓wF_lcm2, ↓wF_llrg, ↓wF_llrs, ↓wF_llzp, ↓wF_lvar, ↓wF_lcal, ↓wF_lidx, ↓wF_lmut, ↓wF_lupd, ↓wF_lmth, ↓wF_liteV, ↓wF_liteK, ↓wF_liteI, ↓wF_liteC, ↓wF_liteM, ↓wF_liteS, ↓wF_liteT, ↓wF_liteB, ↓wF_liteN, ↓wF_liteG, ↓wF_liteLV, ↓wF_liteLK, ↓wF_liteLI, ↓wF_liteLC, ↓wF_liteLM, ↓wF_liteLS, ↓wF_liteLT, ↓wF_liteLB, ↓wF_liteLN, ↓wF_liteLG, ↓wF_liteLL, ↓wF_ddctT, ↓wF_ddct, ↓wF_dbld, ↓wF_dbldT, ↓wF_dvar, ↓wF_dcal, ↓wF_didx, ↓wX_asg, ↓wX_tup, ↓wAs_name, ↓wAs_tup, ↓wAs_tupL, ↓wAss_nil, ↓wAss_cons, ↓wPar_nil, ↓wPar_cons, ↓wX_par, ↓wX_aug, ↓wX_augS, ↓wX_setS, ↓w_ii2, ↓w_lsM, ↓wX_parS, ↓wX_exp, ↓wX_ret, ↓wX_ite, ↓wX_for, ↓wX_while, ↓wX_brk, ↓wX_ct, ↓wX_pass, ↓w_add, ↓w_sub, ↓w_mul, ↓w_fdiv, ↓w_mod, ↓w_pow, ↓w_addL, ↓w_addT, ↓w_mulL, ↓w_gadd, ↓w_gsub, ↓w_lt, ↓w_le, ↓w_gt, ↓w_ge, ↓w_eq, ↓w_ne, ↓w_isNN, ↓w_revL, ↓w_revT, ↓w_abs, ↓w_int, ↓w_lenL, ↓w_lenT, ↓w_lenS, ↓w_tupL, ↓w_tupT, ↓w_lisL, ↓w_lisT, ↓w_min2, ↓w_max2, ↓w_app, ↓wq_rng1, ↓wq_rng2, ↓w_isNi, ↓w_isNt, ↓w_isNl, ↓w_isNd, ↓w_isNs, ↓w_isNb, ↓w_notNi, ↓w_notNt, ↓w_notNl, ↓w_notNd, ↓w_notNs, ↓w_notNb, ↓w_notNN, ↓w_isB, ↓w_notB, ↓w_intB, ↓w_zipL, ↓w_zipT, ↓w_inr1, ↓w_inr2, ↓w_tyN, ↓w_tyBi, ↓w_tyBb, ↓w_tyBs, ↓w_tyBt, ↓w_tyBl, ↓w_tyBd, ↓w_tyIi, ↓w_tyIb, ↓w_tyIs, ↓w_tyIt, ↓w_tyIl, ↓w_tyId, ↓w_tySi, ↓w_tySb, ↓w_tySs, ↓w_tySt, ↓w_tySl, ↓w_tySd, ↓w_tyTi, ↓w_tyTb, ↓w_tyTs, ↓w_tyTt, ↓w_tyTl, ↓w_tyTd, ↓w_tyLi, ↓w_tyLb, ↓w_tyLs, ↓w_tyLt, ↓w_tyLl, ↓w_tyLd, ↓w_it0, ↓w_it1, ↓w_it2, ↓w_it3, ↓w_it4, ↓w_it5, ↓w_l1, ↓w_l2, ↓w_l0, ↓wWi_nil, ↓wWi_cons, ↓wComp_map, ↓wComp_rng, ↓wComp_mapA, ↓wComp_rngA, ↓wOut_nx, ↓wOut_ret, ↓wOut_nx1, ↓wOut_ret1, ↓wOut_nx2, ↓wOut_ret2, ↓lp_nx, ↓lp_ct, ↓lp_brk, ↓lp_ret, ↓wD_A, ↓wD_D, ↓wD_S, ↓wD_N, ↓wDi_W, ↓wDm_W, ↓wDm2_W]
    exact ⟨by omega, hq _ (Int.fmod_nonneg_of_pos _ hm) (Int.fmod_lt_of_pos _ hm)⟩
theorem Ints.app {ds : List D} (h : Ints ds) (i : Int) : Ints (ds ++ [.int i]) := fun d hd => by
  rcases List.mem_append.mp hd with q | q
  · exact h d q
  · simp at q; exact ⟨i, q⟩
theorem draws_body (ns : List Int) (hn : ns.length ≤ 63) (m : Int) (hm : 0 ≤ m ∧ m < 100000) (hq : ∀ ds, Ints ds → Q (.list ds) []) : wXs C dDraws.body [.sh (.dict [(.none, .list (ns.map PyData.int))]), .sh (.int m), .un, .un, .un, .un, .un, .un] (wOut 0 Q) := by
  unfold dDraws
  simp only [↓wp_some, ↓wGet_z, ↓wGet_s, ↓wSet_z, ↓wSet_s, ↓wCt_sh, ↓wCt_ow, ↓wCt_io, ↓wG_val, ↓wG_bor, ↓wV_sh, ↓wV_ow, ↓wE_k, ↓wE_var, ↓wOv_sh, ↓wOv_ow, ↓wOv_io, ↓wO_var, ↓wO_k, ↓wO_glb, ↓wO_bin, ↓wO_neg, ↓wO_not, ↓wO_cmp, ↓wO_chain, ↓wO_chn3, ↓wO_and, ↓wO_or, ↓wO_ite, ↓wO_tup, ↓wO_lst, ↓wO_dctT, ↓wO_dct, ↓wO_idx, ↓wO_slc, ↓wO_call, ↓wO_blt, ↓wO_mth, ↓wO_upd, ↓wO_mut, ↓wO_rng, ↓wO_comp, ↓wO_callB, ↓wO_kys, ↓wO_fz, ↓wO_rev, ↓wO_lrg, ↓wO_lrs, ↓wO_lzp, ↓wO_trg, ↓wO_lix, ↓wO_cnt, ↓wO_srs, ↓wO_rgs, ↓wO_zip, ↓wO_inr, ↓wO_isi, ↓wO_comp2, ↓wE_bin, ↓wNeg_i, ↓wNot_b, ↓wE_neg, ↓wE_not, ↓wE_cmp, ↓wC_t, ↓wC_f, ↓wC_d, ↓wC_nd, ↓wE_chain, ↓wE_chn3, ↓wE_and, ↓wE_or, ↓wE_ite, ↓wEs_nil, ↓wEs_cons, ↓wOs_nil, ↓wOs_cons, ↓wLim_eq, ↓wE_tup, ↓wE_lst, ↓wE_dctT, ↓wE_dct, ↓wE_idx, ↓wE_slc, ↓wE_rev, ↓wMv_ow, ↓wMv_io, ↓wM_eq, ↓wPv_ow, ↓wPv_io, ↓wP_eq, ↓wMs_nil, ↓wMs_cons, ↓wPs_nil, ↓wPs_cons, ↓wA_nil, ↓wA_cons, ↓wE_call', ↓wLn_sh, ↓wLn_ow, ↓wLn_io, ↓wLns_nil, ↓wLns_cons, ↓wFl_int, ↓wFl_bool, ↓wFl_none, ↓wFl_str, ↓wE_callB', ↓wE_glb', ↓wTs_nil, ↓wTs_cons, ↓wE_blt, ↓wL_l, ↓wDm2_l, ↓wDm2_d, ↓wDm_l, ↓wDm_d, ↓wE_mth, ↓wE_lix, ↓wE_cnt, ↓wTd_t, ↓wE_upd, ↓wE_mut, ↓wE_kys, ↓wE_fz, ↓wE_rng, ↓wE_lrg, ↓wE_lrs, ↓wE_lzp, ↓wTr_l, ↓wE_trg, ↓wE_srs, ↓wE_rgs, ↓wE_zip, ↓wE_inr, ↓wE_isi, ↓wH_val, ↓wH_bor, ↓wI_l, ↓wI_t, ↓wE_comp, ↓wE_comp2, ↓wKo_nx, ↓wKo_ret, ↓wKo_brk, ↓wKo_ct, ↓wXs_nil, ↓wXs_cons, ↓wSv_un, ↓wSv_sh, ↓wSv_ow, ↓wSv_unT, ↓wSv_shT, ↓wSv_owT, ↓wS_eq, ↓wF_i, ↓wF_b, ↓wF_n, ↓wF_t, ↓wF_s, ↓wF_llst, ↓wF_lcmp, ↓wF_lrev, ↓wF_lslc, ↓wF_lbli, ↓wF_lsrs, ↓wF_lsrt, ↓wF_ladd, ↓wF_lmul, ↓wF_lcm2, ↓wF_llrg, ↓wF_llrs, ↓wF_llzp, ↓wF_lvar, ↓wF_lcal, ↓wF_lidx, ↓wF_lmut, ↓wF_lupd, ↓wF_lmth, ↓wF_liteV, ↓wF_liteK, ↓wF_liteI, ↓wF_liteC, ↓wF_liteM, ↓wF_liteS, ↓wF_liteT, ↓wF_liteB, ↓wF_liteN, ↓wF_liteG, ↓wF_liteLV, ↓wF_liteLK, ↓wF_liteLI, ↓wF_liteLC, ↓wF_liteLM, ↓wF_liteLS, ↓wF_liteLT, ↓wF_liteLB, ↓wF_liteLN, ↓wF_liteLG, ↓wF_liteLL, ↓wF_ddctT, ↓wF_ddct, ↓wF_dbld, ↓wF_dbldT, ↓wF_dvar, ↓wF_dcal, ↓wF_didx, ↓wX_asg, ↓wX_tup, ↓wAs_name, ↓wAs_tup, ↓wAs_tupL, ↓wAss_nil, ↓wAss_cons, ↓wPar_nil, ↓wPar_cons, ↓wX_par, ↓wX_aug, ↓wX_augS, ↓wX_setS, ↓w_ii2, ↓w_lsM, ↓wX_parS, ↓wX_exp, ↓wX_ret, ↓wX_ite, ↓wX_for, ↓wX_while, ↓wX_brk, ↓wX_ct, ↓wX_pass, ↓w_add, ↓w_sub, ↓w_mul, ↓w_fdiv, ↓w_mod, ↓w_pow, ↓w_addL, ↓w_addT, ↓w_mulL, ↓w_gadd, ↓w_gsub, ↓w_lt, ↓w_le, ↓w_gt, ↓w_ge, ↓w_eq, ↓w_ne, ↓w_isNN, ↓w_revL, ↓w_revT, ↓w_abs, ↓w_int, ↓w_lenL, ↓w_lenT, ↓w_lenS, ↓w_tupL, ↓w_tupT, ↓w_lisL, ↓w_lisT, ↓w_min2, ↓w_max2, ↓w_app, ↓wq_rng1, ↓wq_rng2, ↓w_isNi, ↓w_isNt, ↓w_isNl, ↓w_isNd, ↓w_isNs, ↓w_isNb, ↓w_notNi, ↓w_notNt, ↓w_notNl, ↓w_notNd, ↓w_notNs, ↓w_notNb, ↓w_notNN, ↓w_isB, ↓w_notB, ↓w_intB, ↓w_zipL, ↓w_zipT, ↓w_inr1, ↓w_inr2, ↓w_tyN, ↓w_tyBi, ↓w_tyBb, ↓w_tyBs, ↓w_tyBt, ↓w_tyBl, ↓w_tyBd, ↓w_tyIi, ↓w_tyIb, ↓w_tyIs, ↓w_tyIt, ↓w_tyIl, ↓w_tyId, ↓w_tySi, ↓w_tySb, ↓w_tySs, ↓w_tySt, ↓w_tySl, ↓w_tySd, ↓w_tyTi, ↓w_tyTb, ↓w_tyTs, ↓w_tyTt, ↓w_tyTl, ↓w_tyTd, ↓w_tyLi, ↓w_tyLb, ↓w_tyLs, ↓w_tyLt, ↓w_tyLl, ↓w_tyLd, ↓w_it0, ↓w_it1, ↓w_it2, ↓w_it3, ↓w_it4, ↓w_it5, ↓w_l1, ↓w_l2, ↓w_l0, ↓wWi_nil, ↓wWi_cons, ↓wComp_map, ↓wComp_rng, ↓wComp_mapA, ↓wComp_rngA, ↓wOut_nx, ↓wOut_ret, ↓wOut_nx1, ↓wOut_ret1, ↓wOut_nx2, ↓wOut_ret2, ↓lp_nx, ↓lp_ct, ↓lp_brk, ↓lp_ret, ↓wD_A, ↓wD_D, ↓wD_S, ↓wD_N, ↓wDi_W, ↓wDm_W, ↓wDm2_W]
  refine ⟨by decide, ?_⟩
  refine ⟨by simp; omega, ?_⟩
  refine wFor_ok (fun i E => ∃ ds x s4 s5 s6 s7, E = [.sh (.dict [(.none, .list (ns.map PyData.int))]), .sh (.int m), .ow (.list ds), .sh (.int x), s4, s5, s6, s7] ∧ Ints ds ∧ ds.length ≤ i * 62 ∧ Fr s4 ∧ Fr s5 ∧ Fr s6 ∧ Fr s7) ⟨[], 7, .un, .un, .un, .un, rfl, (fun d h => nomatch h), Nat.le_refl _, fr_un, fr_un, fr_un, fr_un⟩ (fun i x E hx hI => ?_) (fun E' hE => ?_)
  · obtain ⟨ds, y, s4, s5, s6, s7, rfl, h1, h2, h4, h5, h6, h7⟩ := hI
    obtain ⟨hi, rfl⟩ := rngI_get hx
    simp only [List.length_map] at hi
    have hi' : i < ns.length := by omega
    simp only [↓wp_some, ↓wGet_z, ↓wGet_s, ↓wSet_z, ↓wSet_s, ↓wCt_sh, ↓wCt_ow, ↓wCt_io, ↓wG_val, ↓wG_bor, ↓wV_sh, ↓wV_ow, ↓wE_k, ↓wE_var, ↓wOv_sh, ↓wOv_ow, ↓wOv_io, ↓wO_var, ↓wO_k, ↓wO_glb, ↓wO_bin, ↓wO_neg, ↓wO_not, ↓wO_cmp, ↓wO_chain, ↓wO_chn3, ↓wO_and, ↓wO_or, ↓wO_ite, ↓wO_tup, ↓wO_lst, ↓wO_dctT, ↓wO_dct, ↓wO_idx, ↓wO_slc, ↓wO_call, ↓wO_blt, ↓wO_mth, ↓wO_upd, ↓wO_mut, ↓wO_rng, ↓wO_comp, ↓wO_callB, ↓wO_kys, ↓wO_fz, ↓wO_rev, ↓wO_lrg, ↓wO_lrs, ↓wO_lzp, ↓wO_trg, ↓wO_lix, ↓wO_cnt, ↓wO_srs, ↓wO_rgs, ↓wO_zip, ↓wO_inr, ↓wO_isi, ↓wO_comp2, ↓wE_bin, ↓wNeg_i, ↓wNot_b, ↓wE_neg, ↓wE_not, ↓wE_cmp, ↓wC_t, ↓wC_f, ↓wC_d, ↓wC_nd, ↓wE_chain, ↓wE_chn3, ↓wE_and, ↓wE_or, ↓wE_ite, ↓wEs_nil, ↓wEs_cons, ↓wOs_nil, ↓wOs_cons, ↓wLim_eq, ↓wE_tup, ↓wE_lst, ↓wE_dctT, ↓wE_dct, ↓wE_idx, ↓wE_slc, ↓wE_rev, ↓wMv_ow, ↓wMv_io, ↓wM_eq, ↓wPv_ow, ↓wPv_io, ↓wP_eq, ↓wMs_nil, ↓wMs_cons, ↓wPs_nil, ↓wPs_cons, ↓wA_nil, ↓wA_cons, ↓wE_call', ↓wLn_sh, ↓wLn_ow, ↓wLn_io, ↓wLns_nil, ↓wLns_cons, ↓wFl_int, ↓wFl_bool, ↓wFl_none, ↓wFl_str, ↓wE_callB', ↓wE_glb', ↓wTs_nil, ↓wTs_cons, ↓wE_blt, ↓wL_l, ↓wDm2_l, ↓wDm2_d, ↓wDm_l, ↓wDm_d, ↓wE_mth, ↓wE_lix, ↓wE_cnt, ↓wTd_t, ↓wE_upd, ↓wE_mut, ↓wE_kys, ↓wE_fz, ↓wE_rng, ↓wE_lrg, ↓wE_lrs, ↓wE_lzp, ↓wTr_l, ↓wE_trg, ↓wE_srs, ↓wE_rgs, ↓wE_zip, ↓wE_inr, ↓wE_isi, ↓wH_val, ↓wH_bor, ↓wI_l, ↓wI_t, ↓wE_comp, ↓wE_comp2, ↓wKo_nx, ↓wKo_ret, ↓wKo_brk, ↓wKo_ct, ↓wXs_nil, ↓wXs_cons, ↓wSv_un, ↓wSv_sh, ↓wSv_ow, ↓wSv_unT, ↓wSv_shT, ↓wSv_owT, ↓wS_eq, ↓wF_i, ↓wF_b, ↓wF_n, ↓wF_t, ↓wF_s, ↓wF_llst, ↓wF_lcmp, ↓wF_lrev, ↓wF_lslc, ↓wF_lbli, ↓wF_lsrs, ↓wF_lsrt, ↓wF_ladd, ↓wF_lmul, ↓wF_lcm2, ↓wF_llrg, ↓wF_llrs, ↓wF_llzp, ↓wF_lvar, ↓wF_lcal, ↓wF_lidx, ↓wF_lmut, ↓wF_lupd, ↓wF_lmth, ↓wF_liteV, ↓wF_liteK, ↓wF_liteI, ↓wF_liteC, ↓wF_liteM, ↓wF_liteS, ↓wF_liteT, ↓wF_liteB, ↓wF_liteN, ↓wF_liteG, ↓wF_liteLV, ↓wF_liteLK, ↓wF_liteLI, ↓wF_liteLC, ↓wF_liteLM, ↓wF_liteLS, ↓wF_liteLT, ↓wF_liteLB, ↓wF_liteLN, ↓wF_liteLG, ↓wF_liteLL, ↓wF_ddctT, ↓wF_ddct, ↓wF_dbld, ↓wF_dbldT, ↓wF_dvar, ↓wF_dcal, ↓wF_didx, ↓wX_asg, ↓wX_tup, ↓wAs_name, ↓wAs_tup, ↓wAs_tupL, ↓wAss_nil, ↓wAss_cons, ↓wPar_nil, ↓wPar_cons, ↓wX_par, ↓wX_aug, ↓wX_augS, ↓wX_setS, ↓w_ii2, ↓w_lsM, ↓wX_parS, ↓wX_exp, ↓wX_ret, ↓wX_ite, ↓wX_for, ↓wX_while, ↓wX_brk, ↓wX_ct, ↓wX_pass, ↓w_add, ↓w_sub, ↓w_mul, ↓w_fdiv, ↓w_mod, ↓w_pow, ↓w_addL, ↓w_addT, ↓w_mulL, ↓w_gadd, ↓w_gsub, ↓w_lt, ↓w_le, ↓w_gt, ↓w_ge, ↓w_eq, ↓w_ne, ↓w_isNN, ↓w_revL, ↓w_revT, ↓w_abs, ↓w_int, ↓w_lenL, ↓w_lenT, ↓w_lenS, ↓w_tupL, ↓w_tupT, ↓w_lisL, ↓w_lisT, ↓w_min2, ↓w_max2, ↓w_app, ↓wq_rng1, ↓wq_rng2, ↓w_isNi, ↓w_isNt, ↓w_isNl, ↓w_isNd, ↓w_isNs, ↓w_isNb, ↓w_notNi, ↓w_notNt, ↓w_notNl, ↓w_notNd, ↓w_notNs, ↓w_notNb, ↓w_notNN, ↓w_isB, ↓w_notB, ↓w_intB, ↓w_zipL, ↓w_zipT, ↓w_inr1, ↓w_inr2, ↓w_tyN, ↓w_tyBi, ↓w_tyBb, ↓w_tyBs, ↓w_tyBt, ↓w_tyBl, ↓w_tyBd, ↓w_tyIi, ↓w_tyIb, ↓w_tyIs, ↓w_tyIt, ↓w_tyIl, ↓w_tyId, ↓w_tySi, ↓w_tySb, ↓w_tySs, ↓w_tySt, ↓w_tySl, ↓w_tySd, ↓w_tyTi, ↓w_tyTb, ↓w_tyTs, ↓w_tyTt, ↓w_tyTl, ↓w_tyTd, ↓w_tyLi, ↓w_tyLb, ↓w_tyLs, ↓w_tyLt, ↓w_tyLl, ↓w_tyLd, ↓w_it0, ↓w_it1, ↓w_it2, ↓w_it3, ↓w_it4, ↓w_it5, ↓w_l1, ↓w_l2, ↓w_l0, ↓wWi_nil, ↓wWi_cons, ↓wComp_map, ↓wComp_rng, ↓wComp_mapA, ↓wComp_rngA, ↓wOut_nx, ↓wOut_ret, ↓wOut_nx1, ↓wOut_ret1, ↓wOut_nx2, ↓wOut_ret2, ↓lp_nx, ↓lp_ct, ↓lp_brk, ↓lp_ret, ↓wD_A, ↓wD_D, ↓wD_S, ↓wD_N, ↓wDi_W, ↓wDm_W, ↓wDm2_W, ↓fr_Sv h4, ↓fr_Sv h5, ↓fr_Sv h6, ↓fr_Sv h7]
    rw [w_itS _ _ i (.int ns[i]) _ (at_nat (by omega) (by simpa using hi')) (by rw [List.getElem?_map, List.getElem?_eq_getElem hi']; rfl)]
    simp only [↓wp_some, ↓wGet_z, ↓wGet_s, ↓wSet_z, ↓wSet_s, ↓wCt_sh, ↓wCt_ow, ↓wCt_io, ↓wG_val, ↓wG_bor, ↓wV_sh, ↓wV_ow, ↓wE_k, ↓wE_var, ↓wOv_sh, ↓wOv_ow, ↓wOv_io, ↓wO_var, ↓wO_k, ↓wO_glb, ↓wO_bin, ↓wO_neg, ↓wO_not, ↓wO_cmp, ↓wO_chain, ↓wO_chn3, ↓wO_and, ↓wO_or, ↓wO_ite, ↓wO_tup, ↓wO_lst, ↓wO_dctT, ↓wO_dct, ↓wO_idx, ↓wO_slc, ↓wO_call, ↓wO_blt, ↓wO_mth, ↓wO_upd, ↓wO_mut, ↓wO_rng, ↓wO_comp, ↓wO_callB, ↓wO_kys, ↓wO_fz, ↓wO_rev, ↓wO_lrg, ↓wO_lrs, ↓wO_lzp, ↓wO_trg, ↓wO_lix, ↓wO_cnt, ↓wO_srs, ↓wO_rgs, ↓wO_zip, ↓wO_inr, ↓wO_isi, ↓wO_comp2, ↓wE_bin, ↓wNeg_i, ↓wNot_b, ↓wE_neg, ↓wE_not, ↓wE_cmp, ↓wC_t, ↓wC_f, ↓wC_d, ↓wC_nd, ↓wE_chain, ↓wE_chn3, ↓wE_and, ↓wE_or, ↓wE_ite, ↓wEs_nil, ↓wEs_cons, ↓wOs_nil, ↓wOs_cons, ↓wLim_eq, ↓wE_tup, ↓wE_lst, ↓wE_dctT, ↓wE_dct, ↓wE_idx, ↓wE_slc, ↓wE_rev, ↓wMv_ow, ↓wMv_io, ↓wM_eq, ↓wPv_ow, ↓wPv_io, ↓wP_eq, ↓wMs_nil, ↓wMs_cons, ↓wPs_nil, ↓wPs_cons, ↓wA_nil, ↓wA_cons, ↓wE_call', ↓wLn_sh, ↓wLn_ow, ↓wLn_io, ↓wLns_nil, ↓wLns_cons, ↓wFl_int, ↓wFl_bool, ↓wFl_none, ↓wFl_str, ↓wE_callB', ↓wE_glb', ↓wTs_nil, ↓wTs_cons, ↓wE_blt, ↓wL_l, ↓wDm2_l, ↓wDm2_d, ↓wDm_l, ↓wDm_d, ↓wE_mth, ↓wE_lix, ↓wE_cnt, ↓wTd_t, ↓wE_upd, ↓wE_mut, ↓wE_kys, ↓wE_fz, ↓wE_rng, ↓wE_lrg, ↓wE_lrs, ↓wE_lzp, ↓wTr_l, ↓wE_trg, ↓wE_srs, ↓wE_rgs, ↓wE_zip, ↓wE_inr, ↓wE_isi, ↓wH_val, ↓wH_bor, ↓wI_l, ↓wI_t, ↓wE_comp, ↓wE_comp2, ↓wKo_nx, ↓wKo_ret, ↓wKo_brk, ↓wKo_ct, ↓wXs_nil, ↓wXs_cons, ↓wSv_un, ↓wSv_sh, ↓wSv_ow, ↓wSv_unT, ↓wSv_shT, ↓wSv_owT, ↓wS_eq, ↓wF_i, ↓wF_b, ↓wF_n, ↓wF_t, ↓wF_s, ↓wF_llst, ↓wF_lcmp, ↓wF_lrev, ↓wF_lslc, ↓wF_lbli, ↓wF_lsrs, ↓wF_lsrt, ↓wF_ladd, ↓wF_lmul, ↓wF_lcm2, ↓wF_llrg, ↓wF_llrs, ↓wF_llzp, ↓wF_lvar, ↓wF_lcal, ↓wF_lidx, ↓wF_lmut, ↓wF_lupd, ↓wF_lmth, ↓wF_liteV, ↓wF_liteK, ↓wF_liteI, ↓wF_liteC, ↓wF_liteM, ↓wF_liteS, ↓wF_liteT, ↓wF_liteB, ↓wF_liteN, ↓wF_liteG, ↓wF_liteLV, ↓wF_liteLK, ↓wF_liteLI, ↓wF_liteLC, ↓wF_liteLM, ↓wF_liteLS, ↓wF_liteLT, ↓wF_liteLB, ↓wF_liteLN, ↓wF_liteLG, ↓wF_liteLL, ↓wF_ddctT, ↓wF_ddct, ↓wF_dbld, ↓wF_dbldT, ↓wF_dvar, ↓wF_dcal, ↓wF_didx, ↓wX_asg, ↓wX_tup, ↓wAs_name, ↓wAs_tup, ↓wAs_tupL, ↓wAss_nil, ↓wAss_cons, ↓wPar_nil, ↓wPar_cons, ↓wX_par, ↓wX_aug, ↓wX_augS, ↓wX_setS, ↓w_ii2, ↓w_lsM, ↓wX_parS, ↓wX_exp, ↓wX_ret, ↓wX_ite, ↓wX_for, ↓wX_while, ↓wX_brk, ↓wX_ct, ↓wX_pass, ↓w_add, ↓w_sub, ↓w_mul, ↓w_fdiv, ↓w_mod, ↓w_pow, ↓w_addL, ↓w_addT, ↓w_mulL, ↓w_gadd, ↓w_gsub, ↓w_lt, ↓w_le, ↓w_gt, ↓w_ge, ↓w_eq, ↓w_ne, ↓w_isNN, ↓w_revL, ↓w_revT, ↓w_abs, ↓w_int, ↓w_lenL, ↓w_lenT, ↓w_lenS, ↓w_tupL, ↓w_tupT, ↓w_lisL, ↓w_lisT, ↓w_min2, ↓w_max2, ↓w_app, ↓wq_rng1, ↓wq_rng2, ↓w_isNi, ↓w_isNt, ↓w_isNl, ↓w_isNd, ↓w_isNs, ↓w_isNb, ↓w_notNi, ↓w_notNt, ↓w_notNl, ↓w_notNd, ↓w_notNs, ↓w_notNb, ↓w_notNN, ↓w_isB, ↓w_notB, ↓w_intB, ↓w_zipL, ↓w_zipT, ↓w_inr1, ↓w_inr2, ↓w_tyN, ↓w_tyBi, ↓w_tyBb, ↓w_tyBs, ↓w_tyBt, ↓w_tyBl, ↓w_tyBd, ↓w_tyIi, ↓w_tyIb, ↓w_tyIs, ↓w_tyIt, ↓w_tyIl, ↓w_tyId, ↓w_tySi, ↓w_tySb, ↓w_tySs, ↓w_tySt, ↓w_tySl, ↓w_tySd, ↓w_tyTi, ↓w_tyTb, ↓w_tyTs, ↓w_tyTt, ↓w_tyTl, ↓w_tyTd, ↓w_tyLi, ↓w_tyLb, ↓w_tyLs, ↓w_tyLt, ↓w_tyLl, ↓w_tyLd, ↓w_it0, ↓w_it1, ↓w_it2, ↓w_it3, ↓w_it4, ↓w_it5, ↓w_l1, ↓w_l2, ↓w_l0, ↓wWi_nil, ↓wWi_cons, ↓wComp_map, ↓wComp_rng, ↓wComp_mapA, ↓wComp_rngA, ↓wOut_nx, ↓wOut_ret, ↓wOut_nx1, ↓wOut_ret1, ↓wOut_nx2, ↓wOut_ret2, ↓lp_nx, ↓lp_ct, ↓lp_brk, ↓lp_ret, ↓wD_A, ↓wD_D, ↓wD_S, ↓wD_N, ↓wDi_W, ↓wDm_W, ↓wDm2_W, ↓fr_Sv h4, ↓fr_Sv h5, ↓fr_Sv h6, ↓fr_Sv h7]
    have key : ∀ (ds : List D) (y k c r : Int), Ints ds → ds.length ≤ i * 62 + 2 → wFor C (Tg.name 7)
                [SIR.ite (IR.cmp Cop.gt (IR.var 6) (IR.k (PyData.int 0)))
                    [SIR.exp (IR.mut Mut.append 2 [IR.bin Bop.mod (IR.blt Blt.int [IR.var 6]) (IR.k (PyData.int 997))]),
                      SIR.asg (Tg.name 6) (IR.bin Bop.fdiv (IR.var 6) (IR.k (PyData.int 997)))]
                    []]
                (rngI 0 (Int.toNat 60))
        [.sh (.dict [(.none, .list (ns.map PyData.int))]), .sh (.int m), .ow (.list ds), .sh (.int y), .sh (.int k), .sh (.int c), .sh (.int r), s7]
        (fun o => ∃ ds x s4 s5 s6 s7, o = .nx [.sh (.dict [(.none, .list (ns.map PyData.int))]), .sh (.int m), .ow (.list ds), .sh (.int x), s4, s5, s6, s7] ∧ Ints ds ∧ ds.length ≤ (i + 1) * 62 ∧ Fr s4 ∧ Fr s5 ∧ Fr s6 ∧ Fr s7) := by
      intro ds y k c r h1 h2
      refine wFor_ok (fun j E => ∃ ds r s7, E = [.sh (.dict [(.none, .list (ns.map PyData.int))]), .sh (.int m), .ow (.list ds), .sh (.int y), .sh (.int k), .sh (.int c), .sh (.int r), s7] ∧ Ints ds ∧ ds.length ≤ i * 62 + 2 + j ∧ Fr s7) ⟨ds, r, s7, rfl, h1, by omega, h7⟩ (fun j x E hx hI => ?_) (fun E' hE => ?_)
      · obtain ⟨ds, r, s7, rfl, h1, h2, h7⟩ := hI
        obtain ⟨hj, rfl⟩ := rngI_get hx
        have hj : j < 60 := hj
        simp only [↓wp_some, ↓wGet_z, ↓wGet_s, ↓wSet_z, ↓wSet_s, ↓wCt_sh, ↓wCt_ow, ↓wCt_io, ↓wG_val, ↓wG_bor, ↓wV_sh, ↓wV_ow, ↓wE_k, ↓wE_var, ↓wOv_sh, ↓wOv_ow, ↓wOv_io, ↓wO_var, ↓wO_k, ↓wO_glb, ↓wO_bin, ↓wO_neg, ↓wO_not, ↓wO_cmp, ↓wO_chain, ↓wO_chn3, ↓wO_and, ↓wO_or, ↓wO_ite, ↓wO_tup, ↓wO_lst, ↓wO_dctT, ↓wO_dct, ↓wO_idx, ↓wO_slc, ↓wO_call, ↓wO_blt, ↓wO_mth, ↓wO_upd, ↓wO_mut, ↓wO_rng, ↓wO_comp, ↓wO_callB, ↓wO_kys, ↓wO_fz, ↓wO_rev, ↓wO_lrg, ↓wO_lrs, ↓wO_lzp, ↓wO_trg, ↓wO_lix, ↓wO_cnt, ↓wO_srs, ↓wO_rgs, ↓wO_zip, ↓wO_inr, ↓wO_isi, ↓wO_comp2, ↓wE_bin, ↓wNeg_i, ↓wNot_b, ↓wE_neg, ↓wE_not, ↓wE_cmp, ↓wC_t, ↓wC_f, ↓wC_d, ↓wC_nd, ↓wE_chain, ↓wE_chn3, ↓wE_and, ↓wE_or, ↓wE_ite, ↓wEs_nil, ↓wEs_cons, ↓wOs_nil, ↓wOs_cons, ↓wLim_eq, ↓wE_tup, ↓wE_lst, ↓wE_dctT, ↓wE_dct, ↓wE_idx, ↓wE_slc, ↓wE_rev, ↓wMv_ow, ↓wMv_io, ↓wM_eq, ↓wPv_ow, ↓wPv_io, ↓wP_eq, ↓wMs_nil, ↓wMs_cons, ↓wPs_nil, ↓wPs_cons, ↓wA_nil, ↓wA_cons, ↓wE_call', ↓wLn_sh, ↓wLn_ow, ↓wLn_io, ↓wLns_nil, ↓wLns_cons, ↓wFl_int, ↓wFl_bool, ↓wFl_none, ↓wFl_str, ↓wE_callB', ↓wE_glb', ↓wTs_nil, ↓wTs_cons, ↓wE_blt, ↓wL_l, ↓wDm2_l, ↓wDm2_d, ↓wDm_l, ↓wDm_d, ↓wE_mth, ↓wE_lix, ↓wE_cnt, ↓wTd_t, ↓wE_upd, ↓wE_mut, ↓wE_kys, ↓wE_fz, ↓wE_rng, ↓wE_lrg, ↓wE_lrs, ↓wE_lzp, ↓wTr_l, ↓wE_trg, ↓wE_srs, ↓wE_rgs, ↓wE_zip, ↓wE_inr, ↓wE_isi, ↓wH_val, ↓wH_bor, ↓wI_l, ↓wI_t, ↓wE_comp, ↓wE_comp2, ↓wKo_nx, ↓wKo_ret, ↓wKo_brk, ↓wKo_ct, ↓wXs_nil, ↓wXs_cons, ↓wSv_un, ↓wSv_sh, ↓wSv_ow, ↓wSv_unT, ↓wSv_shT, ↓wSv_owT, ↓wS_eq, ↓wF_i, ↓wF_b, ↓wF_n, ↓wF_t, ↓wF_s, ↓wF_llst, ↓wF_lcmp, ↓wF_lrev, ↓wF_lslc, ↓wF_lbli, ↓wF_lsrs, ↓wF_lsrt, ↓wF_ladd, ↓wF_lmul, ↓wF_lcm2, ↓wF_llrg, ↓wF_llrs, ↓wF_llzp, ↓wF_lvar, ↓wF_lcal, ↓wF_lidx, ↓wF_lmut, ↓wF_lupd, ↓wF_lmth, ↓wF_liteV, ↓wF_liteK, ↓wF_liteI, ↓wF_liteC, ↓wF_liteM, ↓wF_liteS, ↓wF_liteT, ↓wF_liteB, ↓wF_liteN, ↓wF_liteG, ↓wF_liteLV, ↓wF_liteLK, ↓wF_liteLI, ↓wF_liteLC, ↓wF_liteLM, ↓wF_liteLS, ↓wF_liteLT, ↓wF_liteLB, ↓wF_liteLN, ↓wF_liteLG, ↓wF_liteLL, ↓wF_ddctT, ↓wF_ddct, ↓wF_dbld, ↓wF_dbldT, ↓wF_dvar, ↓wF_dcal, ↓wF_didx, ↓wX_asg, ↓wX_tup, ↓wAs_name, ↓wAs_tup, ↓wAs_tupL, ↓wAss_nil, ↓wAss_cons, ↓wPar_nil, ↓wPar_cons, ↓wX_par, ↓wX_aug, ↓wX_augS, ↓wX_setS, ↓w_ii2, ↓w_lsM, ↓wX_parS, ↓wX_exp, ↓wX_ret, ↓wX_ite, ↓wX_for, ↓wX_while, ↓wX_brk, ↓wX_ct, ↓wX_pass, ↓w_add, ↓w_sub, ↓w_mul, ↓w_fdiv, ↓w_mod, ↓w_pow, ↓w_addL, ↓w_addT, ↓w_mulL, ↓w_gadd, ↓w_gsub, ↓w_lt, ↓w_le, ↓w_gt, ↓w_ge, ↓w_eq, ↓w_ne, ↓w_isNN, ↓w_revL, ↓w_revT, ↓w_abs, ↓w_int, ↓w_lenL, ↓w_lenT, ↓w_lenS, ↓w_tupL, ↓w_tupT, ↓w_lisL, ↓w_lisT, ↓w_min2, ↓w_max2, ↓w_app, ↓wq_rng1, ↓wq_rng2, ↓w_isNi, ↓w_isNt, ↓w_isNl, ↓w_isNd, ↓w_isNs, ↓w_isNb, ↓w_notNi, ↓w_notNt, ↓w_notNl, ↓w_notNd, ↓w_notNs, ↓w_notNb, ↓w_notNN, ↓w_isB, ↓w_notB, ↓w_intB, ↓w_zipL, ↓w_zipT, ↓w_inr1, ↓w_inr2, ↓w_tyN, ↓w_tyBi, ↓w_tyBb, ↓w_tyBs, ↓w_tyBt, ↓w_tyBl, ↓w_tyBd, ↓w_tyIi, ↓w_tyIb, ↓w_tyIs, ↓w_tyIt, ↓w_tyIl, ↓w_tyId, ↓w_tySi, ↓w_tySb, ↓w_tySs, ↓w_tySt, ↓w_tySl, ↓w_tySd, ↓w_tyTi, ↓w_tyTb, ↓w_tyTs, ↓w_tyTt, ↓w_tyTl, ↓w_tyTd, ↓w_tyLi, ↓w_tyLb, ↓w_tyLs, ↓w_tyLt, ↓w_tyLl, ↓w_tyLd, ↓w_it0, ↓w_it1, ↓w_it2, ↓w_it3, ↓w_it4, ↓w_it5, ↓w_l1, ↓w_l2, ↓w_l0, ↓wWi_nil, ↓wWi_cons, ↓wComp_map, ↓wComp_rng, ↓wComp_mapA, ↓wComp_rngA, ↓wOut_nx, ↓wOut_ret, ↓wOut_nx1, ↓wOut_ret1, ↓wOut_nx2, ↓wOut_ret2, ↓lp_nx, ↓lp_ct, ↓lp_brk, ↓lp_ret, ↓wD_A, ↓wD_D, ↓wD_S, ↓wD_N, ↓wDi_W, ↓wDm_W, ↓wDm2_W, ↓fr_Sv h7]
        by_cases q : (0 : Int) < r
        · rw [if_pos q]
          exact ⟨by decide, by omega, by decide, _, _, _, rfl, h1.app _, by simp; omega, fr_sh _⟩
        · rw [if_neg q]
          exact ⟨_, _, _, rfl, h1, by omega, fr_sh _⟩
      · obtain ⟨ds, r, s7, rfl, h1, h2, h7⟩ := hE
        rw [rngI_len] at h2
        have h2 : ds.length ≤ i * 62 + 2 + 60 := h2
        exact ⟨_, _, _, _, _, _, rfl, h1, by omega, fr_sh _, fr_sh _, fr_sh _, h7⟩
    have fin : ∀ {R : Out → Prop} (o : Out), (∃ ds x s4 s5 s6 s7, o = .nx [.sh (.dict [(.none, .list (ns.map PyData.int))]), .sh (.int m), .ow (.list ds), .sh (.int x), s4, s5, s6, s7] ∧ Ints ds ∧ ds.length ≤ (i + 1) * 62 ∧ Fr s4 ∧ Fr s5 ∧ Fr s6 ∧ Fr s7) → wKo C [] (lp (fun E => ∃ ds x s4 s5 s6 s7, E = [.sh (.dict [(.none, .list (ns.map PyData.int))]), .sh (.int m), .ow (.list ds), .sh (.int x), s4, s5, s6, s7] ∧ Ints ds ∧ ds.length ≤ (i + 1) * 62 ∧ Fr s4 ∧ Fr s5 ∧ Fr s6 ∧ Fr s7) R) o := by
      rintro R o ⟨ds, x, s4, s5, s6, s7, rfl, h⟩
      simp only [↓wp_some, ↓wGet_z, ↓wGet_s, ↓wSet_z, ↓wSet_s, ↓wCt_sh, ↓wCt_ow, ↓wCt_io, ↓wG_val, ↓wG_bor, ↓wV_sh, ↓wV_ow, ↓wE_k, ↓wE_var, ↓wOv_sh, ↓wOv_ow, ↓wOv_io, ↓wO_var, ↓wO_k, ↓wO_glb, ↓wO_bin, ↓wO_neg, ↓wO_not, ↓wO_cmp, ↓wO_chain, ↓wO_chn3, ↓wO_and, ↓wO_or, ↓wO_ite, ↓wO_tup, ↓wO_lst, ↓wO_dctT, ↓wO_dct, ↓wO_idx, ↓wO_slc, ↓wO_call, ↓wO_blt, ↓wO_mth, ↓wO_upd, ↓wO_mut, ↓wO_rng, ↓wO_comp, ↓wO_callB, ↓wO_kys, ↓wO_fz, ↓wO_rev, ↓wO_lrg, ↓wO_lrs, ↓wO_lzp, ↓wO_trg, ↓wO_lix, ↓wO_cnt, ↓wO_srs, ↓wO_rgs, ↓wO_zip, ↓wO_inr, ↓wO_isi, ↓wO_comp2, ↓wE_bin, ↓wNeg_i, ↓wNot_b, ↓wE_neg, ↓wE_not, ↓wE_cmp, ↓wC_t, ↓wC_f, ↓wC_d, ↓wC_nd, ↓wE_chain, ↓wE_chn3, ↓wE_and, ↓wE_or, ↓wE_ite, ↓wEs_nil, ↓wEs_cons, ↓wOs_nil, ↓wOs_cons, ↓wLim_eq, ↓wE_tup, ↓wE_lst, ↓wE_dctT, ↓wE_dct, ↓wE_idx, ↓wE_slc, ↓wE_rev, ↓wMv_ow, ↓wMv_io, ↓wM_eq, ↓wPv_ow, ↓wPv_io, ↓wP_eq, ↓wMs_nil, ↓wMs_cons, ↓wPs_nil, ↓wPs_cons, ↓wA_nil, ↓wA_cons, ↓wE_call', ↓wLn_sh, ↓wLn_ow, ↓wLn_io, ↓wLns_nil, ↓wLns_cons, ↓wFl_int, ↓wFl_bool, ↓wFl_none, ↓wFl_str, ↓wE_callB', ↓wE_glb', ↓wTs_nil, ↓wTs_cons, ↓wE_blt, ↓wL_l, ↓wDm2_l, ↓wDm2_d, ↓wDm_l, ↓wDm_d, ↓wE_mth, ↓wE_lix, ↓wE_cnt, ↓wTd_t, ↓wE_upd, ↓wE_mut, ↓wE_kys, ↓wE_fz, ↓wE_rng, ↓wE_lrg, ↓wE_lrs, ↓wE_lzp, ↓wTr_l, ↓wE_trg, ↓wE_srs, ↓wE_rgs, ↓wE_zip, ↓wE_inr, ↓wE_isi, ↓wH_val, ↓wH_bor, ↓wI_l, ↓wI_t, ↓wE_comp, ↓wE_comp2, ↓wKo_nx, ↓wKo_ret, ↓wKo_brk, ↓wKo_ct, ↓wXs_nil, ↓wXs_cons, ↓wSv_un, ↓wSv_sh, ↓wSv_ow, ↓wSv_unT, ↓wSv_shT, ↓wSv_owT, ↓wS_eq, ↓wF_i, ↓wF_b, ↓wF_n, ↓wF_t, ↓wF_s, ↓wF_llst, ↓wF_lcmp, ↓wF_lrev, ↓wF_lslc, ↓wF_lbli, ↓wF_lsrs, ↓wF_lsrt, ↓wF_ladd, ↓wF_lmul, ↓wF_lcm2, ↓wF_llrg, ↓wF_llrs, ↓wF_llzp, ↓wF_lvar, ↓wF_lcal, ↓wF_lidx, ↓wF_lmut, ↓wF_lupd, ↓wF_lmth, ↓wF_liteV, ↓wF_liteK, ↓wF_liteI, ↓wF_liteC, ↓wF_liteM, ↓wF_liteS, ↓wF_liteT, ↓wF_liteB, ↓wF_liteN, ↓wF_liteG, ↓wF_liteLV, ↓wF_liteLK, ↓wF_liteLI, ↓wF_liteLC, ↓wF_liteLM, ↓wF_liteLS, ↓wF_liteLT, ↓wF_liteLB, ↓wF_liteLN, ↓wF_liteLG, ↓wF_liteLL, ↓wF_ddctT, ↓wF_ddct, ↓wF_dbld, ↓wF_dbldT, ↓wF_dvar, ↓wF_dcal, ↓wF_didx, ↓wX_asg, ↓wX_tup, ↓wAs_name, ↓wAs_tup, ↓wAs_tupL, ↓wAss_nil, ↓wAss_cons, ↓wPar_nil, ↓wPar_cons, ↓wX_par, ↓wX_aug, ↓wX_augS, ↓wX_setS, ↓w_ii2, ↓w_lsM, ↓wX_parS, ↓wX_exp, ↓wX_ret, ↓wX_ite, ↓wX_for, ↓wX_while, ↓wX_brk, ↓wX_ct, ↓wX_pass, ↓w_add, ↓w_sub, ↓w_mul, ↓w_fdiv, ↓w_mod, ↓w_pow, ↓w_addL, ↓w_addT, ↓w_mulL, ↓w_gadd, ↓w_gsub, ↓w_lt, ↓w_le, ↓w_gt, ↓w_ge, ↓w_eq, ↓w_ne, ↓w_isNN, ↓w_revL, ↓w_revT, ↓w_abs, ↓w_int, ↓w_lenL, ↓w_lenT, ↓w_lenS, ↓w_tupL, ↓w_tupT, ↓w_lisL, ↓w_lisT, ↓w_min2, ↓w_max2, ↓w_app, ↓wq_rng1, ↓wq_rng2, ↓w_isNi, ↓w_isNt, ↓w_isNl, ↓w_isNd, ↓w_isNs, ↓w_isNb, ↓w_notNi, ↓w_notNt, ↓w_notNl, ↓w_notNd, ↓w_notNs, ↓w_notNb, ↓w_notNN, ↓w_isB, ↓w_notB, ↓w_intB, ↓w_zipL, ↓w_zipT, ↓w_inr1, ↓w_inr2, ↓w_tyN, ↓w_tyBi, ↓w_tyBb, ↓w_tyBs, ↓w_tyBt, ↓w_tyBl, ↓w_tyBd, ↓w_tyIi, ↓w_tyIb, ↓w_tyIs, ↓w_tyIt, ↓w_tyIl, ↓w_tyId, ↓w_tySi, ↓w_tySb, ↓w_tySs, ↓w_tySt, ↓w_tySl, ↓w_tySd, ↓w_tyTi, ↓w_tyTb, ↓w_tyTs, ↓w_tyTt, ↓w_tyTl, ↓w_tyTd, ↓w_tyLi, ↓w_tyLb, ↓w_tyLs, ↓w_tyLt, ↓w_tyLl, ↓w_tyLd, ↓w_it0, ↓w_it1, ↓w_it2, ↓w_it3, ↓w_it4, ↓w_it5, ↓w_l1, ↓w_l2, ↓w_l0, ↓wWi_nil, ↓wWi_cons, ↓wComp_map, ↓wComp_rng, ↓wComp_mapA, ↓wComp_rngA, ↓wOut_nx, ↓wOut_ret, ↓wOut_nx1, ↓wOut_ret1, ↓wOut_nx2, ↓wOut_ret2, ↓lp_nx, ↓lp_ct, ↓lp_brk, ↓lp_ret, ↓wD_A, ↓wD_D, ↓wD_S, ↓wD_N, ↓wDi_W, ↓wDm_W, ↓wDm2_W]
      exact ⟨ds, x, s4, s5, s6, s7, rfl, h⟩
    generalize (if ns[i] < 0 then -ns[i] else ns[i]) = cc
    refine ⟨.inr (by decide), by decide, by decide, by decide, ?_⟩
    split
    · exact ⟨by decide, wp_imp (key ds _ _ _ _ h1 (by omega)) fin⟩
    · exact ⟨by decide, by omega, .inr (by decide), by decide, by decide, by simp; omega, by decide, wp_imp (key _ _ _ _ _ ((h1.app _).app _) (by simp; omega)) fin⟩
  · obtain ⟨ds, x, s4, s5, s6, s7, rfl, h1, h2, h4, h5, h6, h7⟩ := hE
    have h2 : ds.length ≤ 63 * 62 := by rw [rngI_len] at h2; simp at h2; omega
    simp only [↓wp_some, ↓wGet_z, ↓wGet_s, ↓wSet_z, ↓wSet_s, ↓wCt_sh, ↓wCt_ow, ↓wCt_io, ↓wG_val, ↓wG_bor, ↓wV_sh, ↓wV_ow, ↓wE_k, ↓wE_var, ↓wOv_sh, ↓wOv_ow, ↓wOv_io, ↓wO_var, ↓wO_k, ↓wO_glb, ↓wO_bin, ↓wO_neg, ↓wO_not, ↓wO_cmp, ↓wO_chain, ↓wO_chn3, ↓wO_and, ↓wO_or, ↓wO_ite, ↓wO_tup, ↓wO_lst, ↓wO_dctT, ↓wO_dct, ↓wO_idx, ↓wO_slc, ↓wO_call, ↓wO_blt, ↓wO_mth, ↓wO_upd, ↓wO_mut, ↓wO_rng, ↓wO_comp, ↓wO_callB, ↓wO_kys, ↓wO_fz, ↓wO_rev, ↓wO_lrg, ↓wO_lrs, ↓wO_lzp, ↓wO_trg, ↓wO_lix, ↓wO_cnt, ↓wO_srs, ↓wO_rgs, ↓wO_zip, ↓wO_inr, ↓wO_isi, ↓wO_comp2, ↓wE_bin, ↓wNeg_i, ↓wNot_b, ↓wE_neg, ↓wE_not, ↓wE_cmp, ↓wC_t, ↓wC_f, ↓wC_d, ↓wC_nd, ↓wE_chain, ↓wE_chn3, ↓wE_and, ↓wE_or, ↓wE_ite, ↓wEs_nil, ↓wEs_cons, ↓wOs_nil, ↓wOs_cons, ↓wLim_eq, ↓wE_tup, ↓wE_lst, ↓wE_dctT, ↓wE_dct, ↓wE_idx, ↓wE_slc, ↓wE_rev, ↓wMv_ow, ↓wMv_io, ↓wM_eq, ↓wPv_ow, ↓wPv_io, ↓wP_eq, ↓wMs_nil, ↓wMs_cons, ↓wPs_nil, ↓wPs_cons, ↓wA_nil, ↓wA_cons, ↓wE_call', ↓wLn_sh, ↓wLn_ow, ↓wLn_io, ↓wLns_nil, ↓wLns_cons, ↓wFl_int, ↓wFl_bool, ↓wFl_none, ↓wFl_str, ↓wE_callB', ↓wE_glb', ↓wTs_nil, ↓wTs_cons, ↓wE_blt, ↓wL_l, ↓wDm2_l, ↓wDm2_d, ↓wDm_l, ↓wDm_d, ↓wE_mth, ↓wE_lix, ↓wE_cnt, ↓wTd_t, ↓wE_upd, ↓wE_mut, ↓wE_kys, ↓wE_fz, ↓wE_rng, ↓wE_lrg, ↓wE_lrs, ↓wE_lzp, ↓wTr_l, ↓wE_trg, ↓wE_srs, ↓wE_rgs, ↓wE_zip, ↓wE_inr, ↓wE_isi, ↓wH_val, ↓wH_bor, ↓wI_l, ↓wI_t, ↓wE_comp, ↓wE_comp2, ↓wKo_nx, ↓wKo_ret, ↓wKo_brk, ↓wKo_ct, ↓wXs_nil, ↓wXs_cons, ↓wSv_un, ↓wSv_sh, ↓wSv_ow, ↓wSv_unT, ↓wSv_shT, ↓wSv_owT, ↓wS_eq, ↓wF_i, ↓wF_b, ↓wF_n, ↓wF_t, ↓wF_s, ↓wF_llst, ↓wF_lcmp, ↓wF_lrev, ↓wF_lslc, ↓wF_lbli, ↓wF_lsrs, ↓wF_lsrt, ↓wF_ladd, ↓wF_lmul, ↓wF_lcm2, ↓wF_llrg, ↓wF_llrs, ↓wF_llzp, ↓wF_lvar, ↓wF_lcal, ↓wF_lidx, ↓wF_lmut, ↓wF_lupd, ↓wF_lmth, ↓wF_liteV, ↓wF_liteK, ↓wF_liteI, ↓wF_liteC, ↓wF_liteM, ↓wF_liteS, ↓wF_liteT, ↓wF_liteB, ↓wF_liteN, ↓wF_liteG, ↓wF_liteLV, ↓wF_liteLK, ↓wF_liteLI, ↓wF_liteLC, ↓wF_liteLM, ↓wF_liteLS, ↓wF_liteLT, ↓wF_liteLB, ↓wF_liteLN, ↓wF_liteLG, ↓wF_liteLL, ↓wF_ddctT, ↓wF_ddct, ↓wF_dbld, ↓wF_dbldT, ↓wF_dvar, ↓wF_dcal, ↓wF_didx, ↓wX_asg, ↓wX_tup, ↓wAs_name, ↓wAs_tup, ↓wAs_tupL, ↓wAss_nil, ↓wAss_cons, ↓wPar_nil, ↓wPar_cons, ↓wX_par, ↓wX_aug, ↓wX_augS, ↓wX_setS, ↓w_ii2, ↓w_lsM, ↓wX_parS, ↓wX_exp, ↓wX_ret, ↓wX_ite, ↓wX_for, ↓wX_while, ↓wX_brk, ↓wX_ct, ↓wX_pass, ↓w_add, ↓w_sub, ↓w_mul, ↓w_fdiv, ↓w_mod, ↓w_pow, ↓w_addL, ↓w_addT, ↓w_mulL, ↓w_gadd, ↓w_gsub, ↓w_lt, ↓w_le, ↓w_gt, ↓w_ge, ↓w_eq, ↓w_ne, ↓w_isNN, ↓w_revL, ↓w_revT, ↓w_abs, ↓w_int, ↓w_lenL, ↓w_lenT, ↓w_lenS, ↓w_tupL, ↓w_tupT, ↓w_lisL, ↓w_lisT, ↓w_min2, ↓w_max2, ↓w_app, ↓wq_rng1, ↓wq_rng2, ↓w_isNi, ↓w_isNt, ↓w_isNl, ↓w_isNd, ↓w_isNs, ↓w_isNb, ↓w_notNi, ↓w_notNt, ↓w_notNl, ↓w_notNd, ↓w_notNs, ↓w_notNb, ↓w_notNN, ↓w_isB, ↓w_notB, ↓w_intB, ↓w_zipL, ↓w_zipT, ↓w_inr1, ↓w_inr2, ↓w_tyN, ↓w_tyBi, ↓w_tyBb, ↓w_tyBs, ↓w_tyBt, ↓w_tyBl, ↓w_tyBd, ↓w_tyIi, ↓w_tyIb, ↓w_tyIs, ↓w_tyIt, ↓w_tyIl, ↓w_tyId, ↓w_tySi, ↓w_tySb, ↓w_tySs, ↓w_tySt, ↓w_tySl, ↓w_tySd, ↓w_tyTi, ↓w_tyTb, ↓w_tyTs, ↓w_tyTt, ↓w_tyTl, ↓w_tyTd, ↓w_tyLi, ↓w_tyLb, ↓w_tyLs, ↓w_tyLt, ↓w_tyLl, ↓w_tyLd, ↓w_it0, ↓w_it1, ↓w_it2, ↓w_it3, ↓w_it4, ↓w_it5, ↓w_l1, ↓w_l2, ↓w_l0, ↓wWi_nil, ↓wWi_cons, ↓wComp_map, ↓wComp_rng, ↓wComp_mapA, ↓wComp_rngA, ↓wOut_nx, ↓wOut_ret, ↓wOut_nx1, ↓wOut_ret1, ↓wOut_nx2, ↓wOut_ret2, ↓lp_nx, ↓lp_ct, ↓lp_brk, ↓lp_ret, ↓wD_A, ↓wD_D, ↓wD_S, ↓wD_N, ↓wDi_W, ↓wDm_W, ↓wDm2_W]
    refine ⟨by omega, ?_⟩
    refine wFor_ok (fun i E => ∃ ds x s4, E = [.sh (.dict [(.none, .list (ns.map PyData.int))]), .sh (.int m), .ow (.list ds), .sh (.int x), s4, s5, s6, s7] ∧ Ints ds ∧ ds.length ≤ 63 * 62 + i ∧ Fr s4) ⟨ds, x, s4, rfl, h1, by omega, h4⟩ (fun i x E hx hI => ?_) (fun E' hE => ?_)
    · obtain ⟨ds, x, s4, rfl, h1, h2, h4⟩ := hI
      obtain ⟨hi, rfl⟩ := rngI_get hx
      simp only [↓wp_some, ↓wGet_z, ↓wGet_s, ↓wSet_z, ↓wSet_s, ↓wCt_sh, ↓wCt_ow, ↓wCt_io, ↓wG_val, ↓wG_bor, ↓wV_sh, ↓wV_ow, ↓wE_k, ↓wE_var, ↓wOv_sh, ↓wOv_ow, ↓wOv_io, ↓wO_var, ↓wO_k, ↓wO_glb, ↓wO_bin, ↓wO_neg, ↓wO_not, ↓wO_cmp, ↓wO_chain, ↓wO_chn3, ↓wO_and, ↓wO_or, ↓wO_ite, ↓wO_tup, ↓wO_lst, ↓wO_dctT, ↓wO_dct, ↓wO_idx, ↓wO_slc, ↓wO_call, ↓wO_blt, ↓wO_mth, ↓wO_upd, ↓wO_mut, ↓wO_rng, ↓wO_comp, ↓wO_callB, ↓wO_kys, ↓wO_fz, ↓wO_rev, ↓wO_lrg, ↓wO_lrs, ↓wO_lzp, ↓wO_trg, ↓wO_lix, ↓wO_cnt, ↓wO_srs, ↓wO_rgs, ↓wO_zip, ↓wO_inr, ↓wO_isi, ↓wO_comp2, ↓wE_bin, ↓wNeg_i, ↓wNot_b, ↓wE_neg, ↓wE_not, ↓wE_cmp, ↓wC_t, ↓wC_f, ↓wC_d, ↓wC_nd, ↓wE_chain, ↓wE_chn3, ↓wE_and, ↓wE_or, ↓wE_ite, ↓wEs_nil, ↓wEs_cons, ↓wOs_nil, ↓wOs_cons, ↓wLim_eq, ↓wE_tup, ↓wE_lst, ↓wE_dctT, ↓wE_dct, ↓wE_idx, ↓wE_slc, ↓wE_rev, ↓wMv_ow, ↓wMv_io, ↓wM_eq, ↓wPv_ow, ↓wPv_io, ↓wP_eq, ↓wMs_nil, ↓wMs_cons, ↓wPs_nil, ↓wPs_cons, ↓wA_nil, ↓wA_cons, ↓wE_call', ↓wLn_sh, ↓wLn_ow, ↓wLn_io, ↓wLns_nil, ↓wLns_cons, ↓wFl_int, ↓wFl_bool, ↓wFl_none, ↓wFl_str, ↓wE_callB', ↓wE_glb', ↓wTs_nil, ↓wTs_cons, ↓wE_blt, ↓wL_l, ↓wDm2_l, ↓wDm2_d, ↓wDm_l, ↓wDm_d, ↓wE_mth, ↓wE_lix, ↓wE_cnt, ↓wTd_t, ↓wE_upd, ↓wE_mut, ↓wE_kys, ↓wE_fz, ↓wE_rng, ↓wE_lrg, ↓wE_lrs, ↓wE_lzp, ↓wTr_l, ↓wE_trg, ↓wE_srs, ↓wE_rgs, ↓wE_zip, ↓wE_inr, ↓wE_isi, ↓wH_val, ↓wH_bor, ↓wI_l, ↓wI_t, ↓wE_comp, ↓wE_comp2, ↓wKo_nx, ↓wKo_ret, ↓wKo_brk, ↓wKo_ct, ↓wXs_nil, ↓wXs_cons, ↓wSv_un, ↓wSv_sh, ↓wSv_ow, ↓wSv_unT, ↓wSv_shT, ↓wSv_owT, ↓wS_eq, ↓wF_i, ↓wF_b, ↓wF_n, ↓wF_t, ↓wF_s, ↓wF_llst, ↓wF_lcmp, ↓wF_lrev, ↓wF_lslc, ↓wF_lbli, ↓wF_lsrs, ↓wF_lsrt, ↓wF_ladd, ↓wF_lmul, ↓wF_lcm2, ↓wF_llrg, ↓wF_llrs, ↓wF_llzp, ↓wF_lvar, ↓wF_lcal, ↓wF_lidx, ↓wF_lmut, ↓wF_lupd, ↓wF_lmth, ↓wF_liteV, ↓wF_liteK, ↓wF_liteI, ↓wF_liteC, ↓wF_liteM, ↓wF_liteS, ↓wF_liteT, ↓wF_liteB, ↓wF_liteN, ↓wF_liteG, ↓wF_liteLV, ↓wF_liteLK, ↓wF_liteLI, ↓wF_liteLC, ↓wF_liteLM, ↓wF_liteLS, ↓wF_liteLT, ↓wF_liteLB, ↓wF_liteLN, ↓wF_liteLG, ↓wF_liteLL, ↓wF_ddctT, ↓wF_ddct, ↓wF_dbld, ↓wF_dbldT, ↓wF_dvar, ↓wF_dcal, ↓wF_didx, ↓wX_asg, ↓wX_tup, ↓wAs_name, ↓wAs_tup, ↓wAs_tupL, ↓wAss_nil, ↓wAss_cons, ↓wPar_nil, ↓wPar_cons, ↓wX_par, ↓wX_aug, ↓wX_augS, ↓wX_setS, ↓w_ii2, ↓w_lsM, ↓wX_parS, ↓wX_exp, ↓wX_ret, ↓wX_ite, ↓wX_for, ↓wX_while, ↓wX_brk, ↓wX_ct, ↓wX_pass, ↓w_add, ↓w_sub, ↓w_mul, ↓w_fdiv, ↓w_mod, ↓w_pow, ↓w_addL, ↓w_addT, ↓w_mulL, ↓w_gadd, ↓w_gsub, ↓w_lt, ↓w_le, ↓w_gt, ↓w_ge, ↓w_eq, ↓w_ne, ↓w_isNN, ↓w_revL, ↓w_revT, ↓w_abs, ↓w_int, ↓w_lenL, ↓w_lenT, ↓w_lenS, ↓w_tupL, ↓w_tupT, ↓w_lisL, ↓w_lisT, ↓w_min2, ↓w_max2, ↓w_app, ↓wq_rng1, ↓wq_rng2, ↓w_isNi, ↓w_isNt, ↓w_isNl, ↓w_isNd, ↓w_isNs, ↓w_isNb, ↓w_notNi, ↓w_notNt, ↓w_notNl, ↓w_notNd, ↓w_notNs, ↓w_notNb, ↓w_notNN, ↓w_isB, ↓w_notB, ↓w_intB, ↓w_zipL, ↓w_zipT, ↓w_inr1, ↓w_inr2, ↓w_tyN, ↓w_tyBi, ↓w_tyBb, ↓w_tyBs, ↓w_tyBt, ↓w_tyBl, ↓w_tyBd, ↓w_tyIi, ↓w_tyIb, ↓w_tyIs, ↓w_tyIt, ↓w_tyIl, ↓w_tyId, ↓w_tySi, ↓w_tySb, ↓w_tySs, ↓w_tySt, ↓w_tySl, ↓w_tySd, ↓w_tyTi, ↓w_tyTb, ↓w_tyTs, ↓w_tyTt, ↓w_tyTl, ↓w_tyTd, ↓w_tyLi, ↓w_tyLb, ↓w_tyLs, ↓w_tyLt, ↓w_tyLl, ↓w_tyLd, ↓w_it0, ↓w_it1, ↓w_it2, ↓w_it3, ↓w_it4, ↓w_it5, ↓w_l1, ↓w_l2, ↓w_l0, ↓wWi_nil, ↓wWi_cons, ↓wComp_map, ↓wComp_rng, ↓wComp_mapA, ↓wComp_rngA, ↓wOut_nx, ↓wOut_ret, ↓wOut_nx1, ↓wOut_ret1, ↓wOut_nx2, ↓wOut_ret2, ↓lp_nx, ↓lp_ct, ↓lp_brk, ↓lp_ret, ↓wD_A, ↓wD_D, ↓wD_S, ↓wD_N, ↓wDi_W, ↓wDm_W, ↓wDm2_W, ↓fr_Sv h4]
      exact ⟨.inr (by decide), by decide, by decide, by omega, _, _, _, rfl, h1.app _, by simp; omega, fr_sh _⟩
    · obtain ⟨ds, x, s4, rfl, h1, h2, h4⟩ := hE
      simp only [↓wp_some, ↓wGet_z, ↓wGet_s, ↓wSet_z, ↓wSet_s, ↓wCt_sh, ↓wCt_ow, ↓wCt_io, ↓wG_val, ↓wG_bor, ↓wV_sh, ↓wV_ow, ↓wE_k, ↓wE_var, ↓wOv_sh, ↓wOv_ow, ↓wOv_io, ↓wO_var, ↓wO_k, ↓wO_glb, ↓wO_bin, ↓wO_neg, ↓wO_not, ↓wO_cmp, ↓wO_chain, ↓wO_chn3, ↓wO_and, ↓wO_or, ↓wO_ite, ↓wO_tup, ↓wO_lst, ↓wO_dctT, ↓wO_dct, ↓wO_idx, ↓wO_slc, ↓wO_call, ↓wO_blt, ↓wO_mth, ↓wO_upd, ↓wO_mut, ↓wO_rng, ↓wO_comp, ↓wO_callB, ↓wO_kys, ↓wO_fz, ↓wO_rev, ↓wO_lrg, ↓wO_lrs, ↓wO_lzp, ↓wO_trg, ↓wO_lix, ↓wO_cnt, ↓wO_srs, ↓wO_rgs, ↓wO_zip, ↓wO_inr, ↓wO_isi, ↓wO_comp2, ↓wE_bin, ↓wNeg_i, ↓wNot_b, ↓wE_neg, ↓wE_not, ↓wE_cmp, ↓wC_t, ↓wC_f, ↓wC_d, ↓wC_nd, ↓wE_chain, ↓wE_chn3, ↓wE_and, ↓wE_or, ↓wE_ite, ↓wEs_nil, ↓wEs_cons, ↓wOs_nil, ↓wOs_cons, ↓wLim_eq, ↓wE_tup, ↓wE_lst, ↓wE_dctT, ↓wE_dct, ↓wE_idx, ↓wE_slc, ↓wE_rev, ↓wMv_ow, ↓wMv_io, ↓wM_eq, ↓wPv_ow, ↓wPv_io, ↓wP_eq, ↓wMs_nil, ↓wMs_cons, ↓wPs_nil, ↓wPs_cons, ↓wA_nil, ↓wA_cons, ↓wE_call', ↓wLn_sh, ↓wLn_ow, ↓wLn_io, ↓wLns_nil, ↓wLns_cons, ↓wFl_int, ↓wFl_bool, ↓wFl_none, ↓wFl_str, ↓wE_callB', ↓wE_glb', ↓wTs_nil, ↓wTs_cons, ↓wE_blt, ↓wL_l, ↓wDm2_l, ↓wDm2_d, ↓wDm_l, ↓wDm_d, ↓wE_mth, ↓wE_lix, ↓wE_cnt, ↓wTd_t, ↓wE_upd, ↓wE_mut, ↓wE_kys, ↓wE_fz, ↓wE_rng, ↓wE_lrg, ↓wE_lrs, ↓wE_lzp, ↓wTr_l, ↓wE_trg, ↓wE_srs, ↓wE_rgs, ↓wE_zip, ↓wE_inr, ↓wE_isi, ↓wH_val, ↓wH_bor, ↓wI_l, ↓wI_t, ↓wE_comp, ↓wE_comp2, ↓wKo_nx, ↓wKo_ret, ↓wKo_brk, ↓wKo_ct, ↓wXs_nil, ↓wXs_cons, ↓wSv_un, ↓wSv_sh, ↓wSv_ow, ↓wSv_unT, ↓wSv_shT, ↓wSv_owT, ↓wS_eq, ↓wF_i, ↓wF_b, ↓wF_n, ↓wF_t, ↓wF_s, ↓wF_llst, ↓wF_lcmp, ↓wF_lrev, ↓wF_lslc, ↓wF_lbli, ↓wF_lsrs, ↓wF_lsrt, ↓wF_ladd, ↓wF_lmul, ↓wF_lcm2, ↓wF_llrg, ↓wF_llrs, ↓wF_llzp, ↓wF_lvar, ↓wF_lcal, ↓wF_lidx, ↓wF_lmut, ↓wF_lupd, ↓wF_lmth, ↓wF_liteV, ↓wF_liteK, ↓wF_liteI, ↓wF_liteC, ↓wF_liteM, ↓wF_liteS, ↓wF_liteT, ↓wF_liteB, ↓wF_liteN, ↓wF_liteG, ↓wF_liteLV, ↓wF_liteLK, ↓wF_liteLI, ↓wF_liteLC, ↓wF_liteLM, ↓wF_liteLS, ↓wF_liteLT, ↓wF_liteLB, ↓wF_liteLN, ↓wF_liteLG, ↓wF_liteLL, ↓wF_ddctT, ↓wF_ddct, ↓wF_dbld, ↓wF_dbldT, ↓wF_dvar, ↓wF_dcal, ↓wF_didx, ↓wX_asg, ↓wX_tup, ↓wAs_name, ↓wAs_tup, ↓wAs_tupL, ↓wAss_nil, ↓wAss_cons, ↓wPar_nil, ↓wPar_cons, ↓wX_par, ↓wX_aug, ↓wX_augS, ↓wX_setS, ↓w_ii2, ↓w_lsM, ↓wX_parS, ↓wX_exp, ↓wX_ret, ↓wX_ite, ↓wX_for, ↓wX_while, ↓wX_brk, ↓wX_ct, ↓wX_pass, ↓w_add, ↓w_sub, ↓w_mul, ↓w_fdiv, ↓w_mod, ↓w_pow, ↓w_addL, ↓w_addT, ↓w_mulL, ↓w_gadd, ↓w_gsub, ↓w_lt, ↓w_le, ↓w_gt, ↓w_ge, ↓w_eq, ↓w_ne, ↓w_isNN, ↓w_revL, ↓w_revT, ↓w_abs, ↓w_int, ↓w_lenL, ↓w_lenT, ↓w_lenS, ↓w_tupL, ↓w_tupT, ↓w_lisL, ↓w_lisT, ↓w_min2, ↓w_max2, ↓w_app, ↓wq_rng1, ↓wq_rng2, ↓w_isNi, ↓w_isNt, ↓w_isNl, ↓w_isNd, ↓w_isNs, ↓w_isNb, ↓w_notNi, ↓w_notNt, ↓w_notNl, ↓w_notNd, ↓w_notNs, ↓w_notNb, ↓w_notNN, ↓w_isB, ↓w_notB, ↓w_intB, ↓w_zipL, ↓w_zipT, ↓w_inr1, ↓w_inr2, ↓w_tyN, ↓w_tyBi, ↓w_tyBb, ↓w_tyBs, ↓w_tyBt, ↓w_tyBl, ↓w_tyBd, ↓w_tyIi, ↓w_tyIb, ↓w_tyIs, ↓w_tyIt, ↓w_tyIl, ↓w_tyId, ↓w_tySi, ↓w_tySb, ↓w_tySs, ↓w_tySt, ↓w_tySl, ↓w_tySd, ↓w_tyTi, ↓w_tyTb, ↓w_tyTs, ↓w_tyTt, ↓w_tyTl, ↓w_tyTd, ↓w_tyLi, ↓w_tyLb, ↓w_tyLs, ↓w_tyLt, ↓w_tyLl, ↓w_tyLd, ↓w_it0, ↓w_it1, ↓w_it2, ↓w_it3, ↓w_it4, ↓w_it5, ↓w_l1, ↓w_l2, ↓w_l0, ↓wWi_nil, ↓wWi_cons, ↓wComp_map, ↓wComp_rng, ↓wComp_mapA, ↓wComp_rngA, ↓wOut_nx, ↓wOut_ret, ↓wOut_nx1, ↓wOut_ret1, ↓wOut_nx2, ↓wOut_ret2, ↓lp_nx, ↓lp_ct, ↓lp_brk, ↓lp_ret, ↓wD_A, ↓wD_D, ↓wD_S, ↓wD_N, ↓wDi_W, ↓wDm_W, ↓wDm2_W]
      simp only [optX, slice, wp_some]
      refine hq _ fun d hd => h1 d ?_
      unfold cut at hd
      exact List.mem_of_mem_drop (List.mem_of_mem_take hd)
end
end Pv

set_option Elab.async false
set_option linter.all false
set_option maxRecDepth 100000
set_option maxHeartbeats 1000000
/-! PvX: rows for lists of ints and the like; lists. -/
namespace Pv
open PySem
abbrev tuI (l : List Int) : D := .tuple (l.map .int)
abbrev liI (l : List Int) : D := .list (l.map .int)
theorem ints_map : ∀ L : List Int, intsOf (L.map .int) = some L
  | [] => rfl
  | x :: r => by rw [List.map_cons, intsOf, ints_map r]; rfl
theorem bools_map : ∀ L : List Bool, boolsOf (L.map .bool) = some L
  | [] => rfl
  | x :: r => by rw [List.map_cons, boolsOf, bools_map r]; rfl
theorem map_int {α : Type} (g : α → Int) (l : List α) : (l.map fun x => PyData.int (g x)) = (l.map g).map .int := by rw [List.map_map]; rfl
theorem map_bool {α : Type} (g : α → Bool) (l : List α) : (l.map fun x => PyData.bool (g x)) = (l.map g).map .bool := by rw [List.map_map]; rfl
theorem x_sum (L : List Int) (Q) : wp (bltop .sum [liI L]) Q = Q (.int L.sum) := wp_of (by show (intsOf (L.map .int)).map _ = _; rw [ints_map]; rfl)
theorem x_all (L : List Bool) (Q) : wp (bltop .all [.list (L.map .bool)]) Q = Q (.bool (L.all id)) := wp_of (by show (boolsOf (L.map .bool)).map _ = _; rw [bools_map]; rfl)
theorem x_any (L : List Bool) (Q) : wp (bltop .any [.list (L.map .bool)]) Q = Q (.bool (L.any id)) := wp_of (by show (boolsOf (L.map .bool)).map _ = _; rw [bools_map]; rfl)
theorem x_sumT (L : List Int) (Q) : wp (bltop .sum [tuI L]) Q = Q (.int L.sum) := wp_of (by show (intsOf (L.map .int)).map _ = _; rw [ints_map]; rfl)
theorem mxD_ints (L : List Int) : mxD (L.map .int) = (mxL L).map .int := by unfold mxD; rw [ints_map]
theorem mnD_ints (L : List Int) : mnD (L.map .int) = (mnL L).map .int := by unfold mnD; rw [ints_map]
theorem x_mx (L : List Int) (m : Int) (h : mxL L = some m) (Q) : wp (bltop .mx [liI L]) Q = Q (.int m) := wp_of (by show mxD (L.map .int) = _; rw [mxD_ints, h]; rfl)
theorem x_mn (L : List Int) (m : Int) (h : mnL L = some m) (Q) : wp (bltop .mn [liI L]) Q = Q (.int m) := wp_of (by show mnD (L.map .int) = _; rw [mnD_ints, h]; rfl)
theorem x_mxT (L : List Int) (m : Int) (h : mxL L = some m) (Q) : wp (bltop .mx [tuI L]) Q = Q (.int m) := wp_of (by show mxD (L.map .int) = _; rw [mxD_ints, h]; rfl)
theorem x_mnT (L : List Int) (m : Int) (h : mnL L = some m) (Q) : wp (bltop .mn [tuI L]) Q = Q (.int m) := wp_of (by show mnD (L.map .int) = _; rw [mnD_ints, h]; rfl)
theorem foldl_max (L : List Int) : ∀ a : Int, (L.foldl max a = a ∨ L.foldl max a ∈ L) ∧ a ≤ L.foldl max a ∧ ∀ y ∈ L, y ≤ L.foldl max a := by
  induction L with
  | nil => intro a; simp
  | cons b r ih =>
    intro a
    obtain ⟨h1, h2, h3⟩ := ih (max a b)
    rw [List.foldl_cons]
    refine ⟨?_, by omega, fun y hy => ?_⟩
    · rcases h1 with h1 | h1
      · rw [h1]
        by_cases c : a ≤ b
        · right; rw [show max a b = b by omega]; simp
        · left; omega
      · right; exact List.mem_cons_of_mem _ h1
    · rcases List.mem_cons.mp hy with rfl | hy
      · omega
      · exact h3 y hy
theorem mxL_spec {L : List Int} (h : L ≠ []) : ∃ m, mxL L = some m ∧ m ∈ L ∧ ∀ y ∈ L, y ≤ m := by
  cases L with
  | nil => exact absurd rfl h
  | cons a r =>
    obtain ⟨h1, h2, h3⟩ := foldl_max r a
    refine ⟨_, rfl, ?_, fun y hy => ?_⟩
    · rcases h1 with h1 | h1
      · rw [h1]; simp
      · exact List.mem_cons_of_mem _ h1
    · rcases List.mem_cons.mp hy with rfl | hy
      · exact h2
      · exact h3 y hy
theorem mxL_is {L : List Int} {m : Int} (h1 : m ∈ L) (h2 : ∀ y ∈ L, y ≤ m) : mxL L = some m := by
  obtain ⟨k, e, k1, k2⟩ := mxL_spec (L := L) (fun z => by subst z; simp at h1)
  have := h2 k k1
  have := k2 m h1
  rw [e]; congr 1; omega
theorem foldl_min (L : List Int) : ∀ a : Int, (L.foldl min a = a ∨ L.foldl min a ∈ L) ∧ L.foldl min a ≤ a ∧ ∀ y ∈ L, L.foldl min a ≤ y := by
  induction L with
  | nil => intro a; simp
  | cons b r ih =>
    intro a
    obtain ⟨h1, h2, h3⟩ := ih (min a b)
    rw [List.foldl_cons]
    refine ⟨?_, by omega, fun y hy => ?_⟩
    · rcases h1 with h1 | h1
      · rw [h1]
        by_cases c : b ≤ a
        · right; rw [show min a b = b by omega]; simp
        · left; omega
      · right; exact List.mem_cons_of_mem _ h1
    · rcases List.mem_cons.mp hy with rfl | hy
      · omega
      · exact h3 y hy
theorem mnL_spec {L : List Int} (h : L ≠ []) : ∃ m, mnL L = some m ∧ m ∈ L ∧ ∀ y ∈ L, m ≤ y := by
  cases L with
  | nil => exact absurd rfl h
  | cons a r =>
    obtain ⟨h1, h2, h3⟩ := foldl_min r a
    refine ⟨_, rfl, ?_, fun y hy => ?_⟩
    · rcases h1 with h1 | h1
      · rw [h1]; simp
      · exact List.mem_cons_of_mem _ h1
    · rcases List.mem_cons.mp hy with rfl | hy
      · exact h2
      · exact h3 y hy
theorem mnL_is {L : List Int} {m : Int} (h1 : m ∈ L) (h2 : ∀ y ∈ L, m ≤ y) : mnL L = some m := by
  obtain ⟨k, e, k1, k2⟩ := mnL_spec (L := L) (fun z => by subst z; simp at h1)
  have := h2 k k1
  have := k2 m h1
  rw [e]; congr 1; omega
/-- items of mapped lists -/
theorem x_itT {α : Type} (f : α → D) (L : List α) (k : Int) (j : Nat) (e : k = (j : Int)) (h : j < L.length) (Q) : wp (item (.tuple (L.map f)) (.int k)) Q = Q (f L[j]) :=
  w_itT _ _ j _ _ (at_nat e (by simpa using h)) (by rw [List.getElem?_map, List.getElem?_eq_getElem h]; rfl)
theorem x_itL {α : Type} (f : α → D) (L : List α) (k : Int) (j : Nat) (e : k = (j : Int)) (h : j < L.length) (Q) : wp (item (.list (L.map f)) (.int k)) Q = Q (f L[j]) :=
  w_itL _ _ j _ _ (at_nat e (by simpa using h)) (by rw [List.getElem?_map, List.getElem?_eq_getElem h]; rfl)
/-- of ints, with 0 beside them -/
def gI (L : List Int) (j : Nat) : Int := L.getD j 0
theorem gI_get {L : List Int} {j : Nat} (h : j < L.length) : L[j] = gI L j := by unfold gI; rw [List.getD_eq_getElem?_getD, List.getElem?_eq_getElem h]; rfl
theorem gI_at {L : List Int} {j : Nat} (h : j < L.length) : L[j]? = some (gI L j) := by rw [List.getElem?_eq_getElem h, gI_get h]
theorem gI_ext {L M : List Int} (hl : L.length = M.length) (h : ∀ i, i < L.length → gI L i = gI M i) : L = M := by
  refine List.ext_getElem hl fun i h1 h2 => ?_
  rw [gI_get h1, gI_get h2]; exact h i h1
theorem gI_set {L : List Int} {i j : Nat} {v : Int} (hi : i < L.length) : gI (L.set i v) j = if j = i then v else gI L j := by
  unfold gI
  rw [List.getD_eq_getElem?_getD, List.getD_eq_getElem?_getD, List.getElem?_set]
  by_cases h : i = j
  · subst h; simp [hi]
  · simp [h, Ne.symm h]
theorem gI_map {α : Type} (f : α → Int) (L : List α) (j : Nat) (h : j < L.length) : gI (L.map f) j = f L[j] := by
  unfold gI; rw [List.getD_eq_getElem?_getD, List.getElem?_map, List.getElem?_eq_getElem h]; rfl
theorem gI_range (f : Nat → Int) (n j : Nat) (h : j < n) : gI ((List.range n).map f) j = f j := by
  rw [gI_map _ _ _ (by simpa using h), List.getElem_range]
theorem x_iT (L : List Int) (k : Int) (j : Nat) (e : k = (j : Int)) (h : j < L.length) (Q) : wp (item (tuI L) (.int k)) Q = Q (.int (gI L j)) := by rw [x_itT .int L k j e h, gI_get h]
theorem x_iL (L : List Int) (k : Int) (j : Nat) (e : k = (j : Int)) (h : j < L.length) (Q) : wp (item (liI L) (.int k)) Q = Q (.int (gI L j)) := by rw [x_itL .int L k j e h, gI_get h]
theorem x_iTn (L : List Int) (k : Int) (h0 : 0 ≤ k) (h : k < L.length) (Q) : wp (item (tuI L) (.int k)) Q = Q (.int (gI L k.toNat)) := x_iT L k k.toNat (by omega) (by omega) Q
theorem x_iLn (L : List Int) (k : Int) (h0 : 0 ≤ k) (h : k < L.length) (Q) : wp (item (liI L) (.int k)) Q = Q (.int (gI L k.toNat)) := x_iL L k k.toNat (by omega) (by omega) Q
/-- == of lists and tuples of ints -/
theorem eqvs_ints : ∀ a b : List Int, PyData.eqvAll (a.map .int) (b.map .int) = decide (a = b)
  | [], [] => rfl
  | [], _ :: _ => rfl
  | _ :: _, [] => rfl
  | x :: a, y :: b => by
    rw [List.map_cons, List.map_cons, PyData.eqvAll, eqvs_ints a b, eqv_int]
    by_cases h : x = y <;> by_cases h2 : a = b <;> simp [h, h2]
theorem ok_tI (l : List Int) : okD (tuI l) = true := okd_ints 39 l
theorem ok_lI (l : List Int) : okD (liI l) = true := okd_ints 39 l
theorem eqv_tI (a b : List Int) : PyData.eqv (tuI a) (tuI b) = decide (a = b) := by rw [PyData.eqv]; exact eqvs_ints a b
theorem eqv_lI (a b : List Int) : PyData.eqv (liI a) (liI b) = decide (a = b) := by rw [PyData.eqv]; exact eqvs_ints a b
theorem x_eqT (a b : List Int) (Q) : wp (cmpop .eq (tuI a) (tuI b)) Q = Q (decide (a = b)) := by rw [w_eqG _ _ _ (ok_tI a) (ok_tI b), eqv_tI]
theorem x_neT (a b : List Int) (Q) : wp (cmpop .ne (tuI a) (tuI b)) Q = Q (!decide (a = b)) := by rw [w_neG _ _ _ (ok_tI a) (ok_tI b), eqv_tI]
theorem x_eqL (a b : List Int) (Q) : wp (cmpop .eq (liI a) (liI b)) Q = Q (decide (a = b)) := by rw [w_eqG _ _ _ (ok_lI a) (ok_lI b), eqv_lI]
theorem x_neL (a b : List Int) (Q) : wp (cmpop .ne (liI a) (liI b)) Q = Q (!decide (a = b)) := by rw [w_neG _ _ _ (ok_lI a) (ok_lI b), eqv_lI]
theorem okds_map {α : Type} (f : α → D) (n : Nat) : ∀ (l : List α), (∀ x ∈ l, okd (f x) n = true) → okds (l.map f) n = true
  | [], _ => rfl
  | x :: r, h => by rw [List.map_cons, okds, h x List.mem_cons_self, okds_map f n r fun y hy => h y (List.mem_cons_of_mem _ hy)]; rfl
/-- == [] and == () -/
theorem x_eqN (a : List D) (ha : okds a 39 = true) (Q) : wp (cmpop .eq (.list a) (.list [])) Q = Q a.isEmpty := by
  rw [w_eqG _ _ _ (show okd (.list a) 40 = true from ha) rfl, PyData.eqv]
  cases a <;> rfl
theorem x_neN (a : List D) (ha : okds a 39 = true) (Q) : wp (cmpop .ne (.list a) (.list [])) Q = Q (!a.isEmpty) := by
  rw [w_neG _ _ _ (show okd (.list a) 40 = true from ha) rfl, PyData.eqv]
  cases a <;> rfl
theorem x_eqU (a : List D) (ha : okds a 39 = true) (Q) : wp (cmpop .eq (.tuple a) (.tuple [])) Q = Q a.isEmpty := by
  rw [w_eqG _ _ _ (show okd (.tuple a) 40 = true from ha) rfl, PyData.eqv]
  cases a <;> rfl
theorem x_neU (a : List D) (ha : okds a 39 = true) (Q) : wp (cmpop .ne (.tuple a) (.tuple [])) Q = Q (!a.isEmpty) := by
  rw [w_neG _ _ _ (show okd (.tuple a) 40 = true from ha) rfl, PyData.eqv]
  cases a <;> rfl
theorem x_inL (x : Int) (L : List Int) (Q) : wp (cmpop .isin (.int x) (liI L)) Q = Q (decide (x ∈ L)) := by
  have e : ∀ L : List Int, (L.map PyData.int).any (fun z => PyData.eqv z (.int x)) = decide (x ∈ L) := fun L => by
    induction L with
    | nil => simp
    | cons y r ih =>
      rw [List.map_cons, List.any_cons, ih, eqv_int]
      by_cases h : y = x
      · simp [h]
      · have h' : ¬ x = y := fun z => h z.symm
        simp [h, h']
  show wp (if okD (.int x) && okD (liI L) then some ((L.map PyData.int).any fun z => PyData.eqv z (.int x)) else none) Q = _
  rw [ok_lI, e]; exact wp_some _ _
theorem x_inT (x : Int) (L : List Int) (Q) : wp (cmpop .isin (.int x) (tuI L)) Q = Q (decide (x ∈ L)) := by
  have e := x_inL x L Q
  rw [← e]
  show wp (if okD (.int x) && okD (tuI L) then some ((L.map PyData.int).any fun z => PyData.eqv z (.int x)) else none) Q = wp (if okD (.int x) && okD (liI L) then some ((L.map PyData.int).any fun z => PyData.eqv z (.int x)) else none) Q
  rw [ok_lI, ok_tI]
/-- texts -/
theorem eqv_str (a b : Str) : PyData.eqv (.str a) (.str b) = decide (a = b) := by rw [PyData.eqv]; exact Bool.beq_eq_decide_eq _ _
/-- the first that holds -/
theorem filter_first (P : Nat → Bool) {t n : Nat} (hn : t < n) (h0 : ∀ j, j < t → P j = false) (ht : P t = true) : ∃ r, (List.range n).filter P = t :: r := by
  induction n with
  | zero => omega
  | succ n ih =>
    rw [List.range_succ, List.filter_append]
    by_cases c : t < n
    · obtain ⟨r, e⟩ := ih c
      rw [e]; exact ⟨_, rfl⟩
    · have : t = n := by omega
      subst this
      have e : (List.range t).filter P = [] := by
        rw [List.filter_eq_nil_iff]
        intro a ha
        rw [h0 a (by simpa using ha)]; simp
      rw [e]; simp [ht]
theorem filter_none (P : Nat → Bool) {n : Nat} (h0 : ∀ j, j < n → P j = false) : (List.range n).filter P = [] := by
  rw [List.filter_eq_nil_iff]
  intro a ha
  rw [h0 a (by simpa using ha)]; simp
theorem rngI_0 (n : Nat) : rngI 0 n = (List.range n).map fun i : Nat => PyData.int (i : Int) := by unfold rngI; exact List.map_congr_left fun i _ => by rw [Int.zero_add]
theorem rngI_map (lo : Int) (n : Nat) : rngI lo n = (List.range n).map fun i : Nat => PyData.int (lo + (i : Int)) := rfl
/-- a comprehension that changes the frame: by an invariant -/
theorem wComp_inv {C : Pv.Ctx} {elt : IR} {t : Tg} {own : List Nat} {E : Pv.Env} {Q : D → Pv.Env → Prop} (xs : List D) (I : Pv.Env → Prop) (P : D → Prop) (hl : xs.length ≤ 16777216) (hi : wWi own E I)
    (h : ∀ x ∈ xs, ∀ E0, I E0 → wAs t x E0 fun E1 => wE C elt E1 fun y E3 => P y ∧ wWi own E3 I)
    (hq : ∀ ys E', ys.length = xs.length → (∀ y ∈ ys, P y) → I E' → Q (.list ys) (backs E E' own)) : wComp C elt t (.k (.bool true)) own xs E Q := by
  have key : ∀ (zs : List D) (E0 : Pv.Env), (∀ z ∈ zs, z ∈ xs) → I E0 → ∃ ys E', compL (assignT t) own (ev C (.k (.bool true))) (ev C elt) zs E0 = some (ys, E') ∧ ys.length = zs.length ∧ (∀ y ∈ ys, P y) ∧ I E' := by
    intro zs
    induction zs with
    | nil => intro E0 _ i0; exact ⟨[], E0, by simp only [compL], rfl, fun y hy => by simp at hy, i0⟩
    | cons x r ih =>
      intro E0 hm i0
      obtain ⟨E1, h1, ⟨y, E3⟩, h3, py, i3⟩ := h x (hm x List.mem_cons_self) E0 i0
      obtain ⟨ys, E', e', l', p', i'⟩ := ih (wipes E3 own) (fun z hz => hm z (List.mem_cons_of_mem _ hz)) i3
      refine ⟨y :: ys, E', ?_, by simp [l'], fun z hz => ?_, i'⟩
      · have hk : ev C (.k (.bool true)) E1 = some (.bool true, E1) := by simp only [ev]
        simp only [compL, h1, Option.bind_some, hk, h3, e', Option.map_some]
      · rcases List.mem_cons.mp hz with rfl | hz
        · exact py
        · exact p' z hz
  obtain ⟨ys, E', e', l', p', i'⟩ := key xs (wipes E own) (fun _ h => h) hi
  exact ⟨hl, _, e', hq ys E' l' p' i'⟩
/-- .. with a filter: some of the items -/
theorem wComp_invF {C : Pv.Ctx} {elt c : IR} {t : Tg} {own : List Nat} {E : Pv.Env} {Q : D → Pv.Env → Prop} {α : Type} (l : List α) (g f : α → D) (I : Pv.Env → Prop) (hl : l.length ≤ 16777216) (hi : wWi own E I)
    (h : ∀ x ∈ l, ∀ E0, I E0 → wAs t (g x) E0 fun E1 => wE C c E1 fun d E2 => ∃ b, d = .bool b ∧ (b = true → wE C elt E2 fun y E3 => y = f x ∧ wWi own E3 I) ∧ (b = false → wWi own E2 I))
    (hq : ∀ (ys : List α) E', ys.Sublist l → I E' → Q (.list (ys.map f)) (backs E E' own)) : wComp C elt t c own (l.map g) E Q := by
  have key : ∀ (zs : List α) (E0 : Pv.Env), (∀ z ∈ zs, z ∈ l) → I E0 → ∃ (ys : List α) (E' : Pv.Env), compL (assignT t) own (ev C c) (ev C elt) (zs.map g) E0 = some (ys.map f, E') ∧ ys.Sublist zs ∧ I E' := by
    intro zs
    induction zs with
    | nil => intro E0 _ i0; exact ⟨[], E0, by simp only [List.map_nil, compL], List.Sublist.slnil, i0⟩
    | cons x r ih =>
      intro E0 hm i0
      obtain ⟨E1, h1, ⟨d, E2⟩, h2, b, rfl, h3, h4⟩ := h x (hm x List.mem_cons_self) E0 i0
      cases b with
      | true =>
        obtain ⟨⟨y, E3⟩, h5, rfl, i3⟩ := h3 rfl
        obtain ⟨ys, E', e', p', i'⟩ := ih (wipes E3 own) (fun z hz => hm z (List.mem_cons_of_mem _ hz)) i3
        exact ⟨x :: ys, E', by simp only [List.map_cons, compL, h1, Option.bind_some, h2, h5, e', Option.map_some], p'.cons₂ _, i'⟩
      | false =>
        obtain ⟨ys, E', e', p', i'⟩ := ih (wipes E2 own) (fun z hz => hm z (List.mem_cons_of_mem _ hz)) (h4 rfl)
        exact ⟨ys, E', by simp only [List.map_cons, compL, h1, Option.bind_some, h2, e'], p'.cons _, i'⟩
  obtain ⟨ys, E', e', p', i'⟩ := key l (wipes E own) (fun _ h => h) hi
  exact ⟨by rw [List.length_map]; exact hl, _, e', hq ys E' p' i'⟩
theorem wXs_app {C : Pv.Ctx} (a b : List SIR) : ∀ (E : Pv.Env) (Q : Out → Prop), wXs C (a ++ b) E Q = wXs C a E (wKo C b Q) := by
  induction a with
  | nil => intro E Q; rw [List.nil_append, wXs_nil]; rfl
  | cons s r ih =>
    intro E Q
    rw [List.cons_append, wXs_cons, wXs_cons]
    congr 1
    funext o
    cases o <;> first | exact ih _ _ | rfl
/-- values that are such and such, as the images of plain ones -/
theorem all_map {α : Type} {P : α → Prop} {f : α → D} : ∀ (ys : List D), (∀ y ∈ ys, ∃ r, P r ∧ y = f r) → ∃ l : List α, ys = l.map f ∧ (∀ r ∈ l, P r) ∧ l.length = ys.length
  | [], _ => ⟨[], rfl, fun r h => by simp at h, rfl⟩
  | y :: ys, h => by
    obtain ⟨r, hr, rfl⟩ := h y List.mem_cons_self
    obtain ⟨l, rfl, h2, h3⟩ := all_map ys fun y hy => h y (List.mem_cons_of_mem _ hy)
    refine ⟨r :: l, rfl, fun q hq => ?_, by simp⟩
    rcases List.mem_cons.mp hq with rfl | hq
    · exact hr
    · exact h2 q hq
/-- the inner for of a comprehension of two -/
def wCL (C : Pv.Ctx) (elt : IR) (t : Tg) (c : IR) (own : List Nat) (xs : List D) (E : Pv.Env) (Q : List D → Pv.Env → Prop) : Prop := wp (compL (assignT t) own (ev C c) (ev C elt) xs (wipes E own)) fun p => Q p.1 (backs E p.2 own)
theorem wInn_row {C : Pv.Ctx} {E : Pv.Env} (elt t1 s1 c1 own1 Q) : wInn C elt t1 s1 c1 own1 E Q = wO C s1 E fun tk E1 => wG tk E1 fun x => wI x fun xs => wH tk own1 fun ow => wCL C elt t1 c1 ow xs E1 Q := rfl
theorem wCL_of {C : Pv.Ctx} {elt c : IR} {t : Tg} {own : List Nat} {xs : List D} {E : Pv.Env} {Q : List D → Pv.Env → Prop} (h : wComp C elt t c own xs E fun d E' => ∀ ys, d = .list ys → Q ys E') : wCL C elt t c own xs E Q := by
  obtain ⟨_, p, e, h⟩ := h
  exact ⟨p, e, h _ rfl⟩
theorem wCL_map {C : Pv.Ctx} {α : Type} {elt c : IR} {t : Tg} {own : List Nat} {E : Pv.Env} {Q : List D → Pv.Env → Prop} (l : List α) (g : α → D) (p : α → Bool) (f : α → D) (hl : l.length ≤ 16777216)
    (h : ∀ x ∈ l, wWi own E fun E0 => wAs t (g x) E0 fun E1 => wE C c E1 fun d E2 => d = .bool (p x) ∧ (p x = true → wE C elt E2 fun y E3 => y = f x ∧ wWi own E3 fun E4 => E4 = wipes E own) ∧ (p x = false → wWi own E2 fun E4 => E4 = wipes E own))
    (hq : Q ((l.filter p).map f) E) : wCL C elt t c own (l.map g) E Q := wCL_of (wComp_map l g p f hl h fun ys e => by cases e; exact hq)
theorem wCL_mapA {C : Pv.Ctx} {α : Type} {elt : IR} {t : Tg} {own : List Nat} {E : Pv.Env} {Q : List D → Pv.Env → Prop} (l : List α) (g : α → D) (f : α → D) (hl : l.length ≤ 16777216)
    (h : ∀ x ∈ l, wWi own E fun E0 => wAs t (g x) E0 fun E1 => wE C elt E1 fun y E3 => y = f x ∧ wWi own E3 fun E4 => E4 = wipes E own)
    (hq : Q (l.map f) E) : wCL C elt t (.k (.bool true)) own (l.map g) E Q := wCL_of (wComp_mapA l g f hl h fun ys e => by cases e; exact hq)
theorem wComp2_map {C : Pv.Ctx} {α : Type} {elt c s1 c1 : IR} {t t1 : Tg} {own own1 : List Nat} {E : Pv.Env} {Q : D → Pv.Env → Prop} (l : List α) (g : α → D) (p : α → Bool) (f : α → List D) (hl : l.length ≤ 16777216) (hl2 : ((l.filter p).flatMap f).length ≤ 16777216)
    (h : ∀ x ∈ l, wWi own E fun E0 => wAs t (g x) E0 fun E1 => wE C c E1 fun d E2 => d = .bool (p x) ∧ (p x = true → wInn C elt t1 s1 c1 own1 E2 fun zs E3 => zs = f x ∧ wWi own E3 fun E4 => E4 = wipes E own) ∧ (p x = false → wWi own E2 fun E4 => E4 = wipes E own))
    (hq : Q (.list ((l.filter p).flatMap f)) E) : wComp2 C elt t c own t1 s1 c1 own1 (l.map g) E Q := by
  have key : ∀ ys : List α, (∀ y ∈ ys, y ∈ l) → compL2 (assignT t) own (ev C c) (inn2 C elt t1 s1 c1 own1) (ys.map g) (wipes E own) = some ((ys.filter p).flatMap f, wipes E own) := by
    intro ys
    induction ys with
    | nil => intro _; simp only [List.map_nil, compL2]; rfl
    | cons x r ih =>
      intro hm
      have ih := ih fun y hy => hm y (List.mem_cons_of_mem _ hy)
      obtain ⟨E1, h1, ⟨d, E2⟩, h2, h3, h4, h5⟩ := h x (hm x List.mem_cons_self)
      simp only at h3 h4 h5
      subst h3
      simp only [List.map_cons, compL2, h1, Option.bind_some, h2]
      cases q : p x with
      | true =>
        have h4 := h4 q
        rw [wInn_eq] at h4
        obtain ⟨⟨zs, E3⟩, h6, h7, h8⟩ := h4
        simp only at h7 h8
        subst h7
        have h8 : wipes E3 own = wipes E own := h8
        simp only [h6, Option.bind_some, h8, ih, Option.map_some, List.filter_cons, q, if_true, List.flatMap_cons]
      | false =>
        have h8 : wipes E2 own = wipes E own := h5 q
        simp [h8, ih, List.filter_cons, q]
  refine ⟨by rw [List.length_map]; exact hl, _, key l fun _ h => h, hl2, ?_⟩
  show Q (.list ((l.filter p).flatMap f)) (backs E (wipes E own) own)
  rw [backs_wipes]
  exact hq
theorem wComp2_mapA {C : Pv.Ctx} {α : Type} {elt s1 c1 : IR} {t t1 : Tg} {own own1 : List Nat} {E : Pv.Env} {Q : D → Pv.Env → Prop} (l : List α) (g : α → D) (f : α → List D) (hl : l.length ≤ 16777216) (hl2 : (l.flatMap f).length ≤ 16777216)
    (h : ∀ x ∈ l, wWi own E fun E0 => wAs t (g x) E0 fun E1 => wInn C elt t1 s1 c1 own1 E1 fun zs E3 => zs = f x ∧ wWi own E3 fun E4 => E4 = wipes E own)
    (hq : Q (.list (l.flatMap f)) E) : wComp2 C elt t (.k (.bool true)) own t1 s1 c1 own1 (l.map g) E Q := by
  have e : l.filter (fun _ => true) = l := by simp
  refine wComp2_map l g (fun _ => true) f hl (by rw [e]; exact hl2) (fun x hx => ?_) (by rw [e]; exact hq)
  refine wAs_imp (h x hx) fun E1 h1 => ?_
  rw [wE_k]
  exact ⟨rfl, fun _ => h1, fun z => by cases z⟩
/-- the first of a list that is so -/
theorem find_filter {α : Type} (P : α → Bool) (l : List α) : l.find? P = (l.filter P).head? := by rw [List.head?_filter]
theorem okdsI (l : List Int) : okds (l.map PyData.int) 39 = true := okd_ints 39 l
theorem getD_get {α : Type} {L : List α} {j : Nat} (d : α) (h : j < L.length) : L[j] = L.getD j d := by rw [List.getD_eq_getElem?_getD, List.getElem?_eq_getElem h]; rfl
theorem x_gT {α : Type} (f : α → D) (L : List α) (d : α) (k : Int) (j : Nat) (e : k = (j : Int)) (h : j < L.length) (Q) : wp (item (.tuple (L.map f)) (.int k)) Q = Q (f (L.getD j d)) := by rw [x_itT f L k j e h, getD_get d h]
theorem x_gL {α : Type} (f : α → D) (L : List α) (d : α) (k : Int) (j : Nat) (e : k = (j : Int)) (h : j < L.length) (Q) : wp (item (.list (L.map f)) (.int k)) Q = Q (f (L.getD j d)) := by rw [x_itL f L k j e h, getD_get d h]
theorem x_eqS (a b : Str) (ha : PyData.strOk a = true) (hb : PyData.strOk b = true) (Q) : wp (cmpop .eq (.str a) (.str b)) Q = Q (decide (a = b)) := by
  rw [w_eqG _ _ _ (show okd (.str a) 40 = true from ha) (show okd (.str b) 40 = true from hb), eqv_str]
theorem x_neS (a b : Str) (ha : PyData.strOk a = true) (hb : PyData.strOk b = true) (Q) : wp (cmpop .ne (.str a) (.str b)) Q = Q (!decide (a = b)) := by
  rw [w_neG _ _ _ (show okd (.str a) 40 = true from ha) (show okd (.str b) 40 = true from hb), eqv_str]
/-- None, or a number -/
def optI : Option Nat → D
  | none => .none
  | some k => .int (k : Int)
theorem optI_is (o : Option Nat) (Q) : wp (cmpop .is (optI o) .none) Q = Q o.isNone := by cases o <;> exact wp_some _ _
theorem optI_not (o : Option Nat) (Q) : wp (cmpop .isnot (optI o) .none) Q = Q o.isSome := by cases o <;> exact wp_some _ _
theorem ok_optI (o : Option Nat) : okD (optI o) = true := by cases o <;> rfl
/-- the last of a list -/
theorem x_lastL {α : Type} (f : α → D) (L : List α) (d : α) (h : L ≠ []) (Q) : wp (item (.list (L.map f)) (.int (-1))) Q = Q (f (L.getLastD d)) := by
  have hl : 0 < L.length := List.length_pos_iff.mpr h
  refine w_itL _ _ (L.length - 1) _ _ (at_neg (by rw [List.length_map]; omega) (by rw [List.length_map]; omega) (by omega)) ?_
  rw [List.getElem?_map, ← List.getLast?_eq_getElem?, List.getLastD_eq_getLast?]
  cases q : L.getLast? with
  | none => simp at q; exact absurd q h
  | some x => rfl
theorem x_lastT {α : Type} (f : α → D) (L : List α) (d : α) (h : L ≠ []) (Q) : wp (item (.tuple (L.map f)) (.int (-1))) Q = Q (f (L.getLastD d)) := by
  have hl : 0 < L.length := List.length_pos_iff.mpr h
  refine w_itT _ _ (L.length - 1) _ _ (at_neg (by rw [List.length_map]; omega) (by rw [List.length_map]; omega) (by omega)) ?_
  rw [List.getElem?_map, ← List.getLast?_eq_getElem?, List.getLastD_eq_getLast?]
  cases q : L.getLast? with
  | none => simp at q; exact absurd q h
  | some x => rfl
/-! slices -/
theorem optX_i (ir : IR) (h : noneK ir = false) (k : Int) : optX ir (.int k) = some (some k) := by
  unfold optX
  split
  · simp [noneK] at h
  · rfl
theorem cut_lo {α : Type} (xs : List α) (k : Nat) (h : k ≤ xs.length) : cut xs none (some (k : Int)) = xs.take k := by
  unfold cut sIx
  simp only [List.drop_zero, Nat.sub_zero]
  rw [if_neg (by omega), show min (k : Int).toNat xs.length = k by omega]
theorem cut_hi {α : Type} (xs : List α) (k : Nat) (h : k ≤ xs.length) : cut xs (some (k : Int)) none = xs.drop k := by
  unfold cut sIx
  simp only
  rw [if_neg (by omega), show min (k : Int).toNat xs.length = k by omega, List.take_of_length_le (by rw [List.length_drop]; omega)]
theorem cut_mid {α : Type} (xs : List α) (b e : Nat) (hb : b ≤ e) (he : e ≤ xs.length) : cut xs (some (b : Int)) (some (e : Int)) = (xs.drop b).take (e - b) := by
  unfold cut sIx
  simp only
  rw [if_neg (by omega), if_neg (by omega), show min (b : Int).toNat xs.length = b by omega, show min (e : Int).toNat xs.length = e by omega]
theorem x_tkT {α : Type} (f : α → D) (L : List α) (ir : IR) (z : Int) (k : Nat) (e : z = (k : Int)) (hk : k ≤ L.length) (h : noneK ir = false) (Q) : wp (optX (.k .none) .none) (fun l => wp (optX ir (.int z)) fun h => wp (slice (.tuple (L.map f)) l h) Q) = Q (.tuple ((L.take k).map f)) := by
  subst e
  rw [optX_i ir h]
  simp only [optX, wp_some, slice]
  rw [cut_lo _ _ (by simpa using hk), List.map_take]
theorem x_tkL {α : Type} (f : α → D) (L : List α) (ir : IR) (z : Int) (k : Nat) (e : z = (k : Int)) (hk : k ≤ L.length) (h : noneK ir = false) (Q) : wp (optX (.k .none) .none) (fun l => wp (optX ir (.int z)) fun h => wp (slice (.list (L.map f)) l h) Q) = Q (.list ((L.take k).map f)) := by
  subst e
  rw [optX_i ir h]
  simp only [optX, wp_some, slice]
  rw [cut_lo _ _ (by simpa using hk), List.map_take]
theorem x_drT {α : Type} (f : α → D) (L : List α) (ir : IR) (z : Int) (k : Nat) (e : z = (k : Int)) (hk : k ≤ L.length) (h : noneK ir = false) (Q) : wp (optX ir (.int z)) (fun l => wp (optX (.k .none) .none) fun h => wp (slice (.tuple (L.map f)) l h) Q) = Q (.tuple ((L.drop k).map f)) := by
  subst e
  rw [optX_i ir h]
  simp only [optX, wp_some, slice]
  rw [cut_hi _ _ (by simpa using hk), List.map_drop]
theorem x_drL {α : Type} (f : α → D) (L : List α) (ir : IR) (z : Int) (k : Nat) (e : z = (k : Int)) (hk : k ≤ L.length) (h : noneK ir = false) (Q) : wp (optX ir (.int z)) (fun l => wp (optX (.k .none) .none) fun h => wp (slice (.list (L.map f)) l h) Q) = Q (.list ((L.drop k).map f)) := by
  subst e
  rw [optX_i ir h]
  simp only [optX, wp_some, slice]
  rw [cut_hi _ _ (by simpa using hk), List.map_drop]
theorem x_mdT {α : Type} (f : α → D) (L : List α) (i1 i2 : IR) (z y : Int) (b e : Nat) (e1 : z = (b : Int)) (e2 : y = (e : Int)) (hb : b ≤ e) (he : e ≤ L.length) (h1 : noneK i1 = false) (h2 : noneK i2 = false) (Q) : wp (optX i1 (.int z)) (fun l => wp (optX i2 (.int y)) fun h => wp (slice (.tuple (L.map f)) l h) Q) = Q (.tuple (((L.drop b).take (e - b)).map f)) := by
  subst e1 e2
  rw [optX_i i1 h1, optX_i i2 h2]
  simp only [wp_some, slice]
  rw [cut_mid _ _ _ hb (by simpa using he), List.map_take, List.map_drop]
theorem x_mdL {α : Type} (f : α → D) (L : List α) (i1 i2 : IR) (z y : Int) (b e : Nat) (e1 : z = (b : Int)) (e2 : y = (e : Int)) (hb : b ≤ e) (he : e ≤ L.length) (h1 : noneK i1 = false) (h2 : noneK i2 = false) (Q) : wp (optX i1 (.int z)) (fun l => wp (optX i2 (.int y)) fun h => wp (slice (.list (L.map f)) l h) Q) = Q (.list (((L.drop b).take (e - b)).map f)) := by
  subst e1 e2
  rw [optX_i i1 h1, optX_i i2 h2]
  simp only [wp_some, slice]
  rw [cut_mid _ _ _ hb (by simpa using he), List.map_take, List.map_drop]
/-- the last is the greatest -/
theorem last_max : ∀ L : List Int, L.Pairwise (· ≤ ·) → L ≠ [] → L.getLastD 0 ∈ L ∧ ∀ y ∈ L, y ≤ L.getLastD 0
  | [], _, h => absurd rfl h
  | [x], _, _ => by simp
  | x :: y :: r, hp, _ => by
    obtain ⟨h1, h2⟩ := last_max (y :: r) (List.pairwise_cons.mp hp).2 (by simp)
    have e : (x :: y :: r).getLastD 0 = (y :: r).getLastD 0 := by simp [List.getLastD]
    rw [e]
    refine ⟨List.mem_cons_of_mem _ h1, fun z hz => ?_⟩
    rcases List.mem_cons.mp hz with rfl | hz
    · exact (List.pairwise_cons.mp hp).1 _ h1
    · exact h2 z hz
end Pv

set_option maxRecDepth 1000000
set_option maxHeartbeats 0
namespace LawP
open PySem PySem.Spec L2 Pv
def d_packets_of : FDef := { nio := 0, np := 3, ns := 5, body := [(.asg (.name 3) (.neg (.bin .fdiv (.neg (.blt .len [(.var 0)])) (.var 1)))), (.ret (.blt .tuple [(.comp (.tup [(.bin .mod (.var 4) (.var 2)), (.blt .tuple [(.slc (.var 0) (.bin .mul (.var 4) (.var 1)) (.bin .add (.bin .mul (.var 4) (.var 1)) (.var 1)))])]) (.name 4) (.rng [(.var 3)]) (.k (.bool true)) [4])]))] }
def d_nearest_place : FDef := { nio := 0, np := 3, ns := 5, body := [(.asg (.name 3) (.bin .sub (.var 2) (.bin .mod (.bin .sub (.var 2) (.var 0)) (.var 1)))), (.asg (.name 4) (.bin .add (.var 3) (.var 1))), (.ite (.or (.cmp .lt (.var 3) (.k (.int 0))) (.cmp .lt (.bin .sub (.var 4) (.var 2)) (.bin .sub (.var 2) (.var 3)))) [(.ret (.var 4))] []), (.ret (.var 3))] }
def d_put_back : FDef := { nio := 0, np := 4, ns := 11, body := [(.par [4, 5] [(.dct []), (.neg (.k (.int 1)))]), (.for (.tup [(.name 6), (.name 7)]) (.var 0) [(.asg (.name 8) (.call 1 [] [(.var 6), (.var 2), (.bin .add (.var 5) (.k (.int 1)))])), (.setS 4 (.var 8) (.var 7)), (.asg (.name 5) (.blt .max2 [(.var 5), (.var 8)]))]), (.asg (.name 9) (.blt .tuple [(.comp (.var 8) (.name 8) (.rng [(.var 3)]) (.cmp .notin (.var 8) (.var 4)) [8])])), (.ite (.cmp .ne (.var 9) (.tup [])) [(.ret (.tup [(.k (.str (PySem.Str.ofString "no"))), (.var 9)]))] []), (.ret (.tup [(.k (.str (PySem.Str.ofString "yes"))), (.blt .tuple [(.comp2 (.var 10) (.name 8) (.rng [(.var 3)]) (.k (.bool true)) [8, 10] (.name 10) (.slc (.idx (.var 4) (.var 8)) (.k .none) (.var 1)) (.k (.bool true)) [10])])]))] }
def d_missing_spans : FDef := { nio := 0, np := 1, ns := 3, body := [(.asg (.name 1) (.lst [])), (.for (.name 2) (.var 0) [(.ite (.and (.cmp .ne (.var 1) (.lst [])) (.cmp .eq (.idx (.idx (.var 1) (.neg (.k (.int 1)))) (.k (.int 1))) (.var 2))) [(.setS 1 (.neg (.k (.int 1))) (.tup [(.idx (.idx (.var 1) (.neg (.k (.int 1)))) (.k (.int 0))), (.bin .add (.var 2) (.k (.int 1)))]))] [(.exp (.mut .append 1 [(.tup [(.var 2), (.bin .add (.var 2) (.k (.int 1)))])]))])]), (.ret (.blt .tuple [(.var 1)]))] }
def d_left_by : FDef := { nio := 0, np := 2, ns := 6, body := [(.par [2, 3] [(.lrg [(.var 0)]), (.lst [])]), (.for (.name 4) (.var 1) [(.asg (.name 2) (.comp (.var 5) (.name 5) (.var 2) (.cmp .isin (.var 5) (.var 4)) [5])), (.exp (.mut .append 3 [(.blt .len [(.var 2)])])), (.ite (.cmp .eq (.var 2) (.lst [])) [.brk] [])]), (.ret (.var 3))] }
def d_rounds_for : FDef := { nio := 0, np := 2, ns := 3, body := [(.asg (.name 2) (.call 4 [] [(.var 0), (.var 1)])), (.ret (.ite (.and (.cmp .ne (.var 2) (.lst [])) (.cmp .eq (.idx (.var 2) (.neg (.k (.int 1)))) (.k (.int 0)))) (.blt .len [(.var 2)]) (.k .none)))] }
def d_sent_in_all : FDef := { nio := 0, np := 2, ns := 3, body := [(.asg (.name 2) (.call 4 [] [(.var 0), (.var 1)])), (.ret (.bin .add (.var 0) (.blt .sum [(.ite (.and (.cmp .ne (.var 2) (.lst [])) (.cmp .eq (.idx (.var 2) (.neg (.k (.int 1)))) (.k (.int 0)))) (.slc (.var 2) (.k .none) (.neg (.k (.int 1)))) (.var 2))])))] }
def d_worst_rounds : FDef := { nio := 0, np := 3, ns := 3, body := [(.ret (.ite (.cmp .gt (.var 1) (.k (.int 0))) (.bin .add (.k (.int 1)) (.ite (.cmp .gt (.var 0) (.k (.int 0))) (.var 2) (.k (.int 0)))) (.k (.int 1))))] }
def d_parity_of : FDef := { nio := 0, np := 1, ns := 3, body := [(.ret (.blt .tuple [(.comp (.bin .mod (.blt .sum [(.comp (.idx (.var 1) (.var 2)) (.name 1) (.var 0) (.k (.bool true)) [1])]) (.k (.int 2))) (.name 2) (.rng [(.blt .len [(.idx (.var 0) (.k (.int 0)))])]) (.k (.bool true)) [2])]))] }
def d_mended : FDef := { nio := 0, np := 2, ns := 4, body := [(.asg (.name 2) (.comp (.var 3) (.name 3) (.var 0) (.cmp .isnot (.var 3) (.k .none)) [3])), (.ite (.cmp .ne (.blt .len [(.var 2)]) (.bin .sub (.blt .len [(.var 0)]) (.k (.int 1)))) [(.ret (.k .none))] []), (.ret (.call 8 [] [(.bin .add (.var 2) (.lst [(.var 1)]))]))] }
def d__law_draws : FDef := { nio := 0, np := 2, ns := 8, body := [(.asg (.name 2) (.lst [])), (.asg (.name 3) (.k (.int 7))), (.for (.name 4) (.rng [(.blt .len [(.var 0)])]) [(.asg (.name 5) (.blt .abs [(.blt .int [(.idx (.var 0) (.var 4))])])), (.asg (.name 3) (.bin .mod (.blt .int [(.bin .add (.bin .add (.bin .mul (.var 3) (.k (.int 48271))) (.bin .mod (.var 5) (.k (.int 1000003)))) (.var 4))]) (.k (.int 65537)))), (.asg (.name 6) (.k (.int 0))), (.ite (.cmp .ge (.var 5) (.bin .pow (.k (.int 10)) (.k (.int 18)))) [(.asg (.name 6) (.var 5))] [(.exp (.mut .append 2 [(.bin .mod (.blt .int [(.var 5)]) (.k (.int 997)))])), (.exp (.mut .append 2 [(.bin .mod (.bin .mod (.blt .int [(.bin .add (.bin .mul (.var 3) (.k (.int 69621))) (.k (.int 5)))]) (.k (.int 65521))) (.k (.int 997)))]))]), (.for (.name 7) (.rng [(.k (.int 60))]) [(.ite (.cmp .gt (.var 6) (.k (.int 0))) [(.exp (.mut .append 2 [(.bin .mod (.blt .int [(.var 6)]) (.k (.int 997)))])), (.asg (.name 6) (.bin .fdiv (.var 6) (.k (.int 997))))] [])])]), (.for (.name 4) (.rng [(.var 1)]) [(.asg (.name 3) (.bin .mod (.blt .int [(.bin .add (.bin .add (.bin .mul (.var 3) (.k (.int 16807))) (.var 4)) (.k (.int 1)))]) (.k (.int 65537)))), (.exp (.mut .append 2 [(.bin .mod (.blt .int [(.var 3)]) (.k (.int 997)))]))]), (.ret (.slc (.var 2) (.k .none) (.var 1)))] }
def d__law_next : FDef := { nio := 1, np := 2, ns := 2, body := [(.augS 0 (.k (.str (PySem.Str.ofString "at"))) .add (.k (.int 1))), (.ite (.cmp .gt (.idx (.var 0) (.k (.str (PySem.Str.ofString "at")))) (.blt .len [(.idx (.var 0) (.k (.str (PySem.Str.ofString "draws"))))])) [(.ret (.k (.int 0)))] []), (.ret (.bin .mod (.blt .int [(.idx (.idx (.var 0) (.k (.str (PySem.Str.ofString "draws")))) (.bin .sub (.idx (.var 0) (.k (.str (PySem.Str.ofString "at")))) (.k (.int 1))))]) (.var 1)))] }
def d__law_pick : FDef := { nio := 1, np := 2, ns := 2, body := [(.ret (.idx (.var 1) (.call 11 [0] [(.blt .len [(.var 1)])])))] }
def d__law_alike : FDef := { nio := 0, np := 2, ns := 3, body := [(.ite (.isi (.var 1) .tuple) [(.ite (.or (.not (.isi (.var 0) .tuple)) (.cmp .ne (.blt .len [(.var 0)]) (.blt .len [(.var 1)]))) [(.ret (.k (.bool false)))] []), (.ret (.cmp .eq (.comp (.var 2) (.name 2) (.rng [(.blt .len [(.var 1)])]) (.not (.call 13 [] [(.idx (.var 0) (.var 2)), (.idx (.var 1) (.var 2))])) [2]) (.lst [])))] []), (.ite (.cmp .is (.var 1) (.k .none)) [(.ret (.cmp .is (.var 0) (.k .none)))] []), (.ite (.isi (.var 1) .bool) [(.ret (.and (.isi (.var 0) .bool) (.cmp .eq (.var 0) (.var 1))))] []), (.ite (.isi (.var 1) .int) [(.ret (.and (.isi (.var 0) .int) (.and (.not (.isi (.var 0) .bool)) (.cmp .eq (.var 0) (.var 1)))))] []), (.ret (.and (.isi (.var 0) .str) (.cmp .eq (.var 0) (.var 1))))] }
def d__law_rounds : FDef := { nio := 0, np := 2, ns := 6, body := [(.par [2, 3] [(.lrg [(.var 0)]), (.k (.int 0))]), (.for (.name 4) (.rng [(.blt .len [(.var 1)])]) [(.par [3, 2] [(.bin .add (.var 3) (.blt .len [(.var 2)])), (.comp (.var 5) (.name 5) (.var 2) (.cmp .isin (.var 5) (.idx (.var 1) (.var 4))) [5])]), (.ite (.cmp .eq (.var 2) (.lst [])) [(.ret (.tup [(.bin .add (.var 4) (.k (.int 1))), (.var 3)]))] [])]), (.ret (.k .none))] }
def d__law_nearest : FDef := { nio := 0, np := 3, ns := 5, body := [(.asg (.name 3) (.comp (.tup [(.blt .abs [(.bin .sub (.var 4) (.var 2))]), (.var 4)]) (.name 4) (.rng [(.bin .add (.var 2) (.bin .mul (.k (.int 2)) (.var 1)))]) (.cmp .eq (.bin .mod (.blt .int [(.var 4)]) (.var 1)) (.var 0)) [4])), (.ret (.idx (.blt .mn [(.var 3)]) (.k (.int 1))))] }
def d_law : FDef := { nio := 0, np := 1, ns := 32, body := [(.asg (.name 1) (.dct [(.k (.str (PySem.Str.ofString "draws"))), (.call 10 [] [(.var 0), (.k (.int 600))]), (.k (.str (PySem.Str.ofString "at"))), (.k (.int 0))])), (.for (.name 2) (.rng [(.k (.int 7))]) [(.par [3, 4, 5] [(.blt .tuple [(.comp (.call 11 [1] [(.k (.int 256))]) (.name 6) (.rng [(.call 11 [1] [(.k (.int 10))])]) (.k (.bool true)) [6])]), (.bin .add (.k (.int 1)) (.call 11 [1] [(.k (.int 3))])), (.bin .add (.k (.int 2)) (.call 11 [1] [(.k (.int 6))]))]), (.asg (.name 7) (.bin .fdiv (.bin .sub (.bin .add (.blt .len [(.var 3)]) (.var 4)) (.k (.int 1))) (.var 4))), (.asg (.name 8) (.blt .tuple [(.comp (.tup [(.bin .mod (.blt .int [(.var 6)]) (.var 5)), (.slc (.var 3) (.bin .mul (.var 6) (.var 4)) (.bin .add (.bin .mul (.var 6) (.var 4)) (.var 4)))]) (.name 6) (.rng [(.var 7)]) (.k (.bool true)) [6])])), (.ite (.not (.call 13 [] [(.call 0 [] [(.var 3), (.var 4), (.var 5)]), (.var 8)])) [(.ret (.k (.bool false)))] []), (.par [9, 10, 11] [(.lrg [(.var 7)]), (.lst []), (.k (.int 0))]), (.for (.name 6) (.rng [(.bin .add (.bin .mul (.k (.int 2)) (.var 7)) (.k (.int 2)))]) [(.asg (.name 12) (.comp (.var 13) (.name 13) (.rng [(.var 7)]) (.and (.cmp .eq (.call 15 [] [(.bin .mod (.blt .int [(.var 13)]) (.var 5)), (.var 5), (.var 11)]) (.var 13)) (.and (.cmp .le (.blt .abs [(.bin .sub (.var 13) (.var 11))]) (.bin .fdiv (.var 5) (.k (.int 2)))) (.or (.cmp .isin (.var 13) (.var 9)) (.cmp .eq (.call 11 [1] [(.k (.int 4))]) (.k (.int 0)))))) [13])), (.ite (.and (.cmp .ne (.var 12) (.lst [])) (.cmp .gt (.call 11 [1] [(.k (.int 9))]) (.k (.int 0)))) [(.asg (.name 13) (.call 12 [1] [(.slc (.var 12) (.k .none) (.k (.int 3)))])), (.par [10, 9, 11] [(.bin .add (.var 10) (.lst [(.idx (.var 8) (.var 13))])), (.comp (.var 14) (.name 14) (.var 9) (.cmp .ne (.var 14) (.var 13)) [14]), (.blt .max2 [(.var 11), (.bin .add (.var 13) (.k (.int 1)))])])] [])]), (.ite (.not (.call 13 [] [(.call 2 [] [(.blt .tuple [(.var 10)]), (.var 4), (.var 5), (.var 7)]), (.ite (.cmp .eq (.var 9) (.lst [])) (.tup [(.k (.str (PySem.Str.ofString "yes"))), (.var 3)]) (.tup [(.k (.str (PySem.Str.ofString "no"))), (.blt .tuple [(.var 9)])]))])) [(.ret (.k (.bool false)))] []), (.par [15, 16] [(.blt .tuple [(.comp (.var 6) (.name 6) (.rng [(.k (.int 9))]) (.cmp .eq (.call 11 [1] [(.k (.int 2))]) (.k (.int 0))) [6])]), (.lst [])]), (.for (.name 13) (.var 15) [(.asg (.name 16) (.ite (.and (.cmp .ne (.var 16) (.lst [])) (.cmp .eq (.idx (.idx (.var 16) (.neg (.k (.int 1)))) (.k (.int 1))) (.var 13))) (.bin .add (.slc (.var 16) (.k .none) (.neg (.k (.int 1)))) (.lst [(.tup [(.idx (.idx (.var 16) (.neg (.k (.int 1)))) (.k (.int 0))), (.bin .add (.var 13) (.k (.int 1)))])])) (.bin .add (.var 16) (.lst [(.tup [(.var 13), (.bin .add (.var 13) (.k (.int 1)))])]))))]), (.ite (.not (.call 13 [] [(.call 3 [] [(.var 15)]), (.blt .tuple [(.var 16)])])) [(.ret (.k (.bool false)))] []), (.asg (.name 17) (.bin .add (.k (.int 1)) (.call 11 [1] [(.k (.int 6))]))), (.asg (.name 18) (.blt .tuple [(.comp (.blt .tuple [(.comp (.var 13) (.name 13) (.rng [(.var 17)]) (.cmp .eq (.call 11 [1] [(.k (.int 3))]) (.k (.int 0))) [13])]) (.name 6) (.rng [(.call 11 [1] [(.k (.int 6))])]) (.k (.bool true)) [6])])), (.asg (.name 19) (.call 14 [] [(.var 17), (.var 18)])), (.ite (.or (.not (.call 13 [] [(.call 5 [] [(.var 17), (.var 18)]), (.ite (.cmp .isnot (.var 19) (.k .none)) (.idx (.var 19) (.k (.int 0))) (.k .none))])) (.and (.cmp .isnot (.var 19) (.k .none)) (.not (.call 13 [] [(.call 6 [] [(.var 17), (.var 18)]), (.idx (.var 19) (.k (.int 1)))])))) [(.ret (.k (.bool false)))] []), (.par [20, 21, 22, 23] [(.bin .add (.k (.int 1)) (.call 11 [1] [(.k (.int 3))])), (.call 11 [1] [(.k (.int 6))]), (.k (.int 0)), (.lst [])]), (.asg (.name 23) (.lst [(.tup [(.var 17), (.var 21)])])), (.while (.cmp .ne (.var 23) (.lst [])) [(.par [22, 24] [(.bin .add (.var 22) (.k (.int 1))), .dctT]), (.for (.tup [(.name 25), (.name 26)]) (.var 23) [(.exp (.upd 24 (.blt .dictT [(.comp (.tup [(.tup [(.var 27), (.bin .sub (.var 26) (.var 27))]), (.k (.bool true))]) (.name 27) (.rng [(.k (.int 1)), (.bin .add (.blt .min2 [(.var 25), (.var 20), (.var 26)]) (.k (.int 1)))]) (.k (.bool true)) [27])])))]), (.asg (.name 23) (.blt .sorted [(.var 24)]))]), (.ite (.not (.call 13 [] [(.call 7 [] [(.var 17), (.var 20), (.var 21)]), (.var 22)])) [(.ret (.k (.bool false)))] []), (.asg (.name 28) (.blt .tuple [(.comp (.blt .tuple [(.comp (.call 11 [1] [(.k (.int 2))]) (.name 6) (.rng [(.k (.int 4))]) (.k (.bool true)) [6])]) (.name 29) (.rng [(.bin .add (.k (.int 1)) (.call 11 [1] [(.k (.int 4))]))]) (.k (.bool true)) [29])])), (.asg (.name 30) (.blt .tuple [(.comp (.bin .mod (.blt .int [(.blt .sum [(.comp (.idx (.var 14) (.var 6)) (.name 14) (.var 28) (.k (.bool true)) [14])])]) (.k (.int 2))) (.name 6) (.rng [(.k (.int 4))]) (.k (.bool true)) [6])])), (.asg (.name 31) (.call 11 [1] [(.blt .len [(.var 28)])])), (.ite (.or (.not (.call 13 [] [(.call 8 [] [(.var 28)]), (.var 30)])) (.or (.not (.call 13 [] [(.call 9 [] [(.bin .add (.bin .add (.slc (.var 28) (.k .none) (.var 31)) (.tup [(.k .none)])) (.slc (.var 28) (.bin .add (.var 31) (.k (.int 1))) (.k .none))), (.var 30)]), (.idx (.var 28) (.var 31))])) (.or (.cmp .isnot (.call 9 [] [(.var 28), (.var 30)]) (.k .none)) (.cmp .isnot (.call 9 [] [(.bin .add (.var 28) (.tup [(.k .none), (.k .none)])), (.var 30)]) (.k .none))))) [(.ret (.k (.bool false)))] [])]), (.ret (.k (.bool true)))] }
def tab : List FDef := [d_packets_of, d_nearest_place, d_put_back, d_missing_spans, d_left_by, d_rounds_for, d_sent_in_all, d_worst_rounds, d_parity_of, d_mended, d__law_draws, d__law_next, d__law_pick, d__law_alike, d__law_rounds, d__law_nearest, d_law]
def gls : List D := []
def top (i : Nat) : Stmt := PySem.Challenge.pw_farwheels_k20_packets_put_back.main.body.getD i (.Pass ⟨0, 0, 0, 0⟩)
def n_packets_of : List Str := ["row", "size", "turn", "many", "k"]
def n_nearest_place : List Str := ["number", "turn", "place", "low", "high"]
def n_put_back : List Str := ["packets", "size", "turn", "many", "found", "greatest", "number", "part", "place", "missing", "byte"]
def n_missing_spans : List Str := ["missing", "found", "place"]
def n_left_by : List Str := ["many", "losses", "missing", "found", "lost", "place"]
def n_rounds_for : List Str := ["many", "losses", "left"]
def n_sent_in_all : List Str := ["many", "losses", "left"]
def n_worst_rounds : List Str := ["many", "most", "whole"]
def n_parity_of : List Str := ["rows", "row", "k"]
def n_mended : List Str := ["rows", "parity", "known", "row"]
def n__law_draws : List Str := ["script", "many", "draws", "mixed", "k", "cell", "rest", "turn"]
def n__law_next : List Str := ["w", "many"]
def n__law_pick : List Str := ["w", "rows"]
def n__law_alike : List Str := ["given", "due", "k"]
def n__law_rounds : List Str := ["many", "losses", "left", "sent", "k", "place"]
def n__law_nearest : List Str := ["number", "turn", "near", "able", "place"]
def n_law : List Str := ["script", "w", "turn", "row", "size", "round_so", "k", "many", "packets", "left", "come", "near", "able", "place", "own", "missing", "spans", "count", "losses", "due", "most", "whole", "best", "layer", "later", "left_now", "room", "lost", "bits", "j", "parity", "at"]
def rows : List Pv.Row := [⟨defD "packets_of" (top 1), d_packets_of, n_packets_of⟩,
  ⟨defD "nearest_place" (top 2), d_nearest_place, n_nearest_place⟩,
  ⟨defD "put_back" (top 3), d_put_back, n_put_back⟩,
  ⟨defD "missing_spans" (top 4), d_missing_spans, n_missing_spans⟩,
  ⟨defD "left_by" (top 5), d_left_by, n_left_by⟩,
  ⟨defD "rounds_for" (top 6), d_rounds_for, n_rounds_for⟩,
  ⟨defD "sent_in_all" (top 7), d_sent_in_all, n_sent_in_all⟩,
  ⟨defD "worst_rounds" (top 8), d_worst_rounds, n_worst_rounds⟩,
  ⟨defD "parity_of" (top 9), d_parity_of, n_parity_of⟩,
  ⟨defD "mended" (top 10), d_mended, n_mended⟩,
  ⟨defD "_law_draws" (top 12), d__law_draws, n__law_draws⟩,
  ⟨defD "_law_next" (top 13), d__law_next, n__law_next⟩,
  ⟨defD "_law_pick" (top 14), d__law_pick, n__law_pick⟩,
  ⟨defD "_law_alike" (top 15), d__law_alike, n__law_alike⟩,
  ⟨defD "_law_rounds" (top 16), d__law_rounds, n__law_rounds⟩,
  ⟨defD "_law_nearest" (top 17), d__law_nearest, n__law_nearest⟩,
  ⟨defD "law" (top 18), d_law, n_law⟩]
def gfs0 : List (Str × Nat × Nat) := [("packets_of", 0, 3), ("nearest_place", 1, 3), ("put_back", 2, 4), ("missing_spans", 3, 1), ("left_by", 4, 2), ("rounds_for", 5, 2), ("sent_in_all", 6, 2), ("worst_rounds", 7, 3), ("parity_of", 8, 1), ("mended", 9, 2), ("_law_draws", 10, 2), ("_law_next", 11, 2), ("_law_pick", 12, 2), ("_law_alike", 13, 2), ("_law_rounds", 14, 2), ("_law_nearest", 15, 3)]
def gfs1 : List (Str × Nat × Nat) := [("law", 16, 1)]
def ge : GE := { fs := gfs0 ++ gfs1, cs := [], free := ["tuple", "len", "range", "max", "list", "sum", "abs", "int", "isinstance", "bool", "str", "min", "sorted", "dict"] }
theorem tab_eq : tabOf rows = tab := rfl
theorem plain_ok : plainB rows ge = true := by decide +kernel
theorem mcons {α : Type} {P : α → Prop} {a : α} {l : List α} (h : P a) (t : ∀ r ∈ l, P r) : ∀ r ∈ a :: l, P r := fun r hr => by
  rcases List.mem_cons.mp hr with rfl | hr
  · exact h
  · exact t r hr
theorem b_packets_of : BindP (defD "packets_of" (top 1)) (n_packets_of.take 3) := fun _ _ _ _ _ _ us hl => match us, hl with | [_, _, _], _ => rfl
theorem b_nearest_place : BindP (defD "nearest_place" (top 2)) (n_nearest_place.take 3) := fun _ _ _ _ _ _ us hl => match us, hl with | [_, _, _], _ => rfl
theorem b_put_back : BindP (defD "put_back" (top 3)) (n_put_back.take 4) := fun _ _ _ _ _ _ us hl => match us, hl with | [_, _, _, _], _ => rfl
theorem b_missing_spans : BindP (defD "missing_spans" (top 4)) (n_missing_spans.take 1) := fun _ _ _ _ _ _ us hl => match us, hl with | [_], _ => rfl
theorem b_left_by : BindP (defD "left_by" (top 5)) (n_left_by.take 2) := fun _ _ _ _ _ _ us hl => match us, hl with | [_, _], _ => rfl
theorem b_rounds_for : BindP (defD "rounds_for" (top 6)) (n_rounds_for.take 2) := fun _ _ _ _ _ _ us hl => match us, hl with | [_, _], _ => rfl
theorem b_sent_in_all : BindP (defD "sent_in_all" (top 7)) (n_sent_in_all.take 2) := fun _ _ _ _ _ _ us hl => match us, hl with | [_, _], _ => rfl
theorem b_worst_rounds : BindP (defD "worst_rounds" (top 8)) (n_worst_rounds.take 3) := fun _ _ _ _ _ _ us hl => match us, hl with | [_, _, _], _ => rfl
theorem b_parity_of : BindP (defD "parity_of" (top 9)) (n_parity_of.take 1) := fun _ _ _ _ _ _ us hl => match us, hl with | [_], _ => rfl
theorem b_mended : BindP (defD "mended" (top 10)) (n_mended.take 2) := fun _ _ _ _ _ _ us hl => match us, hl with | [_, _], _ => rfl
theorem b__law_draws : BindP (defD "_law_draws" (top 12)) (n__law_draws.take 2) := fun _ _ _ _ _ _ us hl => match us, hl with | [_, _], _ => rfl
theorem b__law_next : BindP (defD "_law_next" (top 13)) (n__law_next.take 2) := fun _ _ _ _ _ _ us hl => match us, hl with | [_, _], _ => rfl
theorem b__law_pick : BindP (defD "_law_pick" (top 14)) (n__law_pick.take 2) := fun _ _ _ _ _ _ us hl => match us, hl with | [_, _], _ => rfl
theorem b__law_alike : BindP (defD "_law_alike" (top 15)) (n__law_alike.take 2) := fun _ _ _ _ _ _ us hl => match us, hl with | [_, _], _ => rfl
theorem b__law_rounds : BindP (defD "_law_rounds" (top 16)) (n__law_rounds.take 2) := fun _ _ _ _ _ _ us hl => match us, hl with | [_, _], _ => rfl
theorem b__law_nearest : BindP (defD "_law_nearest" (top 17)) (n__law_nearest.take 3) := fun _ _ _ _ _ _ us hl => match us, hl with | [_, _, _], _ => rfl
theorem b_law : BindP (defD "law" (top 18)) (n_law.take 1) := fun _ _ _ _ _ _ us hl => match us, hl with | [_], _ => rfl
theorem binds_ok : ∀ r ∈ rows, BindP r.d (r.N.take r.F.np) := (mcons b_packets_of (mcons b_nearest_place (mcons b_put_back (mcons b_missing_spans (mcons b_left_by (mcons b_rounds_for (mcons b_sent_in_all (mcons b_worst_rounds (mcons b_parity_of (mcons b_mended (mcons b__law_draws (mcons b__law_next (mcons b__law_pick (mcons b__law_alike (mcons b__law_rounds (mcons b__law_nearest (mcons b_law (fun r hr => nomatch hr))))))))))))))))))
abbrev R : PySem.W.OpenRow := PySem.W.OpenLaw.row PySem.Challenge.rw_farwheels_k20_packets_put_back
abbrev fa : List He.Fa := faL rows ge
abbrev fn : List He.DefD := fnL rows
abbrev hk : PySem.W.Hook := He.hookX 5 fa fn [] [] (exL ge gls)
def ob (s : PySem.W.SharedT) : He.AlX := He.obsX 5 fa fn [] [] (exL ge gls) (HandSHeadRun.getT s)
theorem ob_eq (s : PySem.W.SharedT) : ob s = hk.obs s.abs := He.obsX_eq (HandSHeadRun.getT_eq s)
def names0 : List Str := ["packets_of", "nearest_place", "put_back", "missing_spans", "left_by", "rounds_for", "sent_in_all", "worst_rounds", "parity_of", "mended", "_law_draws", "_law_next", "_law_pick", "_law_alike", "_law_rounds", "_law_nearest"]
def names : List Str := names0
theorem run (w : World) : HandSHeadRun.RunEq R (PySem.W.view R.prog [18]) hk ob 6000 names w := by
  intro os
  kernel_rfl
def spLaw (K : PySem.W.Frag) : Sp := fun vs H Q _ => ∃ (a : Addr) (ns : List Int), vs = [.ref a] ∧ SqL K H a (ns.map V.int) ∧ ns.length ≤ 63 ∧ ∀ H', Q (.bl true) H'

end LawP
set_option Elab.async false
set_option linter.all false
set_option maxRecDepth 100000
set_option maxHeartbeats 2000000
namespace LawP
open PySem Pv
local macro_rules
  | `(tactic| push_cast [$args,*]) => `(tactic| try simp only [↓wp_some, ↓wGet_z, ↓wGet_s, ↓wSet_z, ↓wSet_s, ↓wCt_sh, ↓wCt_ow, ↓wCt_io, ↓wG_val, ↓wG_bor, ↓wV_sh, ↓wV_ow, ↓wE_k, ↓wE_var, ↓wOv_sh, ↓wOv_ow, ↓wOv_io, ↓wO_var, ↓wO_k, ↓wO_glb, ↓wO_bin, ↓wO_neg, ↓wO_not, ↓wO_cmp, ↓wO_chain, ↓wO_chn3, ↓wO_and, ↓wO_or, ↓wO_ite, ↓wO_tup, ↓wO_lst, ↓wO_dctT, ↓wO_dct, ↓wO_idx, ↓wO_slc, ↓wO_call, ↓wO_blt, ↓wO_mth, ↓wO_upd, ↓wO_mut, ↓wO_rng, ↓wO_comp, ↓wO_callB, ↓wO_kys, ↓wO_fz, ↓wO_rev, ↓wO_lrg, ↓wO_lrs, ↓wO_lzp, ↓wO_trg, ↓wO_lix, ↓wO_cnt, ↓wO_srs, ↓wO_rgs, ↓wO_zip, ↓wO_inr, ↓wO_isi, ↓wO_comp2, ↓wE_bin, ↓wNeg_i, ↓wNot_b, ↓wE_neg, ↓wE_not, ↓wE_cmp, ↓wC_t, ↓wC_f, ↓wC_d, ↓wC_nd, ↓wE_chain, ↓wE_chn3, ↓wE_and, ↓wE_or, ↓wE_ite, ↓wEs_nil, ↓wEs_cons, ↓wOs_nil, ↓wOs_cons, ↓wLim_eq, ↓wE_tup, ↓wE_lst, ↓wE_dctT, ↓wE_dct, ↓wE_idx, ↓wE_slc, ↓wE_rev, ↓wMv_ow, ↓wMv_io, ↓wM_eq, ↓wPv_ow, ↓wPv_io, ↓wP_eq, ↓wMs_nil, ↓wMs_cons, ↓wPs_nil, ↓wPs_cons, ↓wA_nil, ↓wA_cons, ↓wE_call', ↓wLn_sh, ↓wLn_ow, ↓wLn_io, ↓wLns_nil, ↓wLns_cons, ↓wFl_int, ↓wFl_bool, ↓wFl_none, ↓wFl_str, ↓wE_callB', ↓wE_glb', ↓wTs_nil, ↓wTs_cons, ↓wE_blt, ↓wL_l, ↓wDm2_l, ↓wDm2_d, ↓wDm_l, ↓wDm_d, ↓wE_mth, ↓wE_lix, ↓wE_cnt, ↓wTd_t, ↓wE_upd, ↓wE_mut, ↓wE_kys, ↓wE_fz, ↓wE_rng, ↓wE_lrg, ↓wE_lrs, ↓wE_lzp, ↓wTr_l, ↓wE_trg, ↓wE_srs, ↓wE_rgs, ↓wE_zip, ↓wE_inr, ↓wE_isi, ↓wH_val, ↓wH_bor, ↓wI_l, ↓wI_t, ↓wE_comp, ↓wE_comp2, ↓wKo_nx, ↓wKo_ret, ↓wKo_brk, ↓wKo_ct, ↓wXs_nil, ↓wXs_cons, ↓wSv_un, ↓wSv_sh, ↓wSv_ow, ↓wSv_unT, ↓wSv_shT, ↓wSv_owT, ↓wS_eq, ↓wF_i, ↓wF_b, ↓wF_n, ↓wF_t, ↓wF_s, ↓wF_llst, ↓wF_lcmp, ↓wF_lrev, ↓wF_lslc, ↓wF_lbli, ↓wF_lsrs, ↓wF_lsrt, ↓wF_ladd, ↓wF_lmul, ↓wF_lcm2, ↓wF_llrg, ↓wF_llrs, ↓wF_llzp, ↓wF_lvar, ↓wF_lcal, ↓wF_lidx, ↓wF_lmut, ↓wF_lupd, ↓wF_lmth, ↓wF_liteV, ↓wF_liteK, ↓wF_liteI, ↓wF_liteC, ↓wF_liteM, ↓wF_liteS, ↓wF_liteT, ↓wF_liteB, ↓wF_liteN, ↓wF_liteG, ↓wF_liteLV, ↓wF_liteLK, ↓wF_liteLI, ↓wF_liteLC, ↓wF_liteLM, ↓wF_liteLS, ↓wF_liteLT, ↓wF_liteLB, ↓wF_liteLN, ↓wF_liteLG, ↓wF_liteLL, ↓wF_ddctT, ↓wF_ddct, ↓wF_dbld, ↓wF_dbldT, ↓wF_dvar, ↓wF_dcal, ↓wF_didx, ↓wX_asg, ↓wX_tup, ↓wAs_name, ↓wAs_tup, ↓wAs_tupL, ↓wAss_nil, ↓wAss_cons, ↓wPar_nil, ↓wPar_cons, ↓wX_par, ↓wX_aug, ↓wX_augS, ↓wX_setS, ↓w_ii2, ↓w_lsM, ↓wX_parS, ↓wX_exp, ↓wX_ret, ↓wX_ite, ↓wX_for, ↓wX_while, ↓wX_brk, ↓wX_ct, ↓wX_pass, ↓w_add, ↓w_sub, ↓w_mul, ↓w_fdiv, ↓w_mod, ↓w_pow, ↓w_addL, ↓w_addT, ↓w_mulL, ↓w_gadd, ↓w_gsub, ↓w_lt, ↓w_le, ↓w_gt, ↓w_ge, ↓w_eq, ↓w_ne, ↓w_isNN, ↓w_revL, ↓w_revT, ↓w_abs, ↓w_int, ↓w_lenL, ↓w_lenT, ↓w_lenS, ↓w_tupL, ↓w_tupT, ↓w_lisL, ↓w_lisT, ↓w_min2, ↓w_max2, ↓w_app, ↓wq_rng1, ↓wq_rng2, ↓w_isNi, ↓w_isNt, ↓w_isNl, ↓w_isNd, ↓w_isNs, ↓w_isNb, ↓w_notNi, ↓w_notNt, ↓w_notNl, ↓w_notNd, ↓w_notNs, ↓w_notNb, ↓w_notNN, ↓w_isB, ↓w_notB, ↓w_intB, ↓w_zipL, ↓w_zipT, ↓w_inr1, ↓w_inr2, ↓w_tyN, ↓w_tyBi, ↓w_tyBb, ↓w_tyBs, ↓w_tyBt, ↓w_tyBl, ↓w_tyBd, ↓w_tyIi, ↓w_tyIb, ↓w_tyIs, ↓w_tyIt, ↓w_tyIl, ↓w_tyId, ↓w_tySi, ↓w_tySb, ↓w_tySs, ↓w_tySt, ↓w_tySl, ↓w_tySd, ↓w_tyTi, ↓w_tyTb, ↓w_tyTs, ↓w_tyTt, ↓w_tyTl, ↓w_tyTd, ↓w_tyLi, ↓w_tyLb, ↓w_tyLs, ↓w_tyLt, ↓w_tyLl, ↓w_tyLd, ↓w_it0, ↓w_it1, ↓w_it2, ↓w_it3, ↓w_it4, ↓w_it5, ↓w_l1, ↓w_l2, ↓w_l0, ↓wWi_nil, ↓wWi_cons, ↓wComp_map, ↓wComp_rng, ↓wComp_mapA, ↓wComp_rngA, ↓wOut_nx, ↓wOut_ret, ↓wOut_nx1, ↓wOut_ret1, ↓wOut_nx2, ↓wOut_ret2, ↓wDi_W, ↓wDm_W, ↓wDm2_W, ↓wD_A, ↓wD_D, ↓wD_S, ↓wD_N, ↓lp_nx, ↓lp_ct, ↓lp_brk, ↓lp_ret, ↓x_sum, ↓x_sumT, ↓x_all, ↓x_any, ↓x_eqT, ↓x_neT, ↓x_eqL, ↓x_neL, ↓x_inL, ↓x_inT, ↓wInn_row, List.length_cons, List.length_nil, Nat.reduceAdd, Nat.reduceLeDiff, true_and, if_true, if_false, eq_self, decide_true, decide_false, Bool.not_true, Bool.not_false, Bool.false_eq_true, $args,*])
inductive Sm : Nat → D → Prop where
  | none (k : Nat) : Sm k .none
  | bool (k : Nat) (b : Bool) : Sm k (.bool b)
  | int (k : Nat) (i : Int) : Sm k (.int i)
  | str (k : Nat) (s : Str) (h : PyData.strOk s = true) : Sm k (.str s)
  | tup (k : Nat) (L : List D) (h : ∀ d ∈ L, Sm k d) (hl : L.length ≤ 1000) : Sm (k + 1) (.tuple L)
theorem eqBB (a : Bool) (Q) : wp (cmpop .eq (.bool a) (.bool a)) Q = Q true := w_eqS _ _ _ rfl rfl
local macro_rules
  | `(tactic| push_cast [$args,*]) => `(tactic| try simp only [↓eqBB, ↓wp_some, ↓wGet_z, ↓wGet_s, ↓wSet_z, ↓wSet_s, ↓wCt_sh, ↓wCt_ow, ↓wCt_io, ↓wG_val, ↓wG_bor, ↓wV_sh, ↓wV_ow, ↓wE_k, ↓wE_var, ↓wOv_sh, ↓wOv_ow, ↓wOv_io, ↓wO_var, ↓wO_k, ↓wO_glb, ↓wO_bin, ↓wO_neg, ↓wO_not, ↓wO_cmp, ↓wO_chain, ↓wO_chn3, ↓wO_and, ↓wO_or, ↓wO_ite, ↓wO_tup, ↓wO_lst, ↓wO_dctT, ↓wO_dct, ↓wO_idx, ↓wO_slc, ↓wO_call, ↓wO_blt, ↓wO_mth, ↓wO_upd, ↓wO_mut, ↓wO_rng, ↓wO_comp, ↓wO_callB, ↓wO_kys, ↓wO_fz, ↓wO_rev, ↓wO_lrg, ↓wO_lrs, ↓wO_lzp, ↓wO_trg, ↓wO_lix, ↓wO_cnt, ↓wO_srs, ↓wO_rgs, ↓wO_zip, ↓wO_inr, ↓wO_isi, ↓wO_comp2, ↓wE_bin, ↓wNeg_i, ↓wNot_b, ↓wE_neg, ↓wE_not, ↓wE_cmp, ↓wC_t, ↓wC_f, ↓wC_d, ↓wC_nd, ↓wE_chain, ↓wE_chn3, ↓wE_and, ↓wE_or, ↓wE_ite, ↓wEs_nil, ↓wEs_cons, ↓wOs_nil, ↓wOs_cons, ↓wLim_eq, ↓wE_tup, ↓wE_lst, ↓wE_dctT, ↓wE_dct, ↓wE_idx, ↓wE_slc, ↓wE_rev, ↓wMv_ow, ↓wMv_io, ↓wM_eq, ↓wPv_ow, ↓wPv_io, ↓wP_eq, ↓wMs_nil, ↓wMs_cons, ↓wPs_nil, ↓wPs_cons, ↓wA_nil, ↓wA_cons, ↓wE_call', ↓wLn_sh, ↓wLn_ow, ↓wLn_io, ↓wLns_nil, ↓wLns_cons, ↓wFl_int, ↓wFl_bool, ↓wFl_none, ↓wFl_str, ↓wE_callB', ↓wE_glb', ↓wTs_nil, ↓wTs_cons, ↓wE_blt, ↓wL_l, ↓wDm2_l, ↓wDm2_d, ↓wDm_l, ↓wDm_d, ↓wE_mth, ↓wE_lix, ↓wE_cnt, ↓wTd_t, ↓wE_upd, ↓wE_mut, ↓wE_kys, ↓wE_fz, ↓wE_rng, ↓wE_lrg, ↓wE_lrs, ↓wE_lzp, ↓wTr_l, ↓wE_trg, ↓wE_srs, ↓wE_rgs, ↓wE_zip, ↓wE_inr, ↓wE_isi, ↓wH_val, ↓wH_bor, ↓wI_l, ↓wI_t, ↓wE_comp, ↓wE_comp2, ↓wKo_nx, ↓wKo_ret, ↓wKo_brk, ↓wKo_ct, ↓wXs_nil, ↓wXs_cons, ↓wSv_un, ↓wSv_sh, ↓wSv_ow, ↓wSv_unT, ↓wSv_shT, ↓wSv_owT, ↓wS_eq, ↓wF_i, ↓wF_b, ↓wF_n, ↓wF_t, ↓wF_s, ↓wF_llst, ↓wF_lcmp, ↓wF_lrev, ↓wF_lslc, ↓wF_lbli, ↓wF_lsrs, ↓wF_lsrt, ↓wF_ladd, ↓wF_lmul, ↓wF_lcm2, ↓wF_llrg, ↓wF_llrs, ↓wF_llzp, ↓wF_lvar, ↓wF_lcal, ↓wF_lidx, ↓wF_lmut, ↓wF_lupd, ↓wF_lmth, ↓wF_liteV, ↓wF_liteK, ↓wF_liteI, ↓wF_liteC, ↓wF_liteM, ↓wF_liteS, ↓wF_liteT, ↓wF_liteB, ↓wF_liteN, ↓wF_liteG, ↓wF_liteLV, ↓wF_liteLK, ↓wF_liteLI, ↓wF_liteLC, ↓wF_liteLM, ↓wF_liteLS, ↓wF_liteLT, ↓wF_liteLB, ↓wF_liteLN, ↓wF_liteLG, ↓wF_liteLL, ↓wF_ddctT, ↓wF_ddct, ↓wF_dbld, ↓wF_dbldT, ↓wF_dvar, ↓wF_dcal, ↓wF_didx, ↓wX_asg, ↓wX_tup, ↓wAs_name, ↓wAs_tup, ↓wAs_tupL, ↓wAss_nil, ↓wAss_cons, ↓wPar_nil, ↓wPar_cons, ↓wX_par, ↓wX_aug, ↓wX_augS, ↓wX_setS, ↓w_ii2, ↓w_lsM, ↓wX_parS, ↓wX_exp, ↓wX_ret, ↓wX_ite, ↓wX_for, ↓wX_while, ↓wX_brk, ↓wX_ct, ↓wX_pass, ↓w_add, ↓w_sub, ↓w_mul, ↓w_fdiv, ↓w_mod, ↓w_pow, ↓w_addL, ↓w_addT, ↓w_mulL, ↓w_gadd, ↓w_gsub, ↓w_lt, ↓w_le, ↓w_gt, ↓w_ge, ↓w_eq, ↓w_ne, ↓w_isNN, ↓w_revL, ↓w_revT, ↓w_abs, ↓w_int, ↓w_lenL, ↓w_lenT, ↓w_lenS, ↓w_tupL, ↓w_tupT, ↓w_lisL, ↓w_lisT, ↓w_min2, ↓w_max2, ↓w_app, ↓wq_rng1, ↓wq_rng2, ↓w_isNi, ↓w_isNt, ↓w_isNl, ↓w_isNd, ↓w_isNs, ↓w_isNb, ↓w_notNi, ↓w_notNt, ↓w_notNl, ↓w_notNd, ↓w_notNs, ↓w_notNb, ↓w_notNN, ↓w_isB, ↓w_notB, ↓w_intB, ↓w_zipL, ↓w_zipT, ↓w_inr1, ↓w_inr2, ↓w_tyN, ↓w_tyBi, ↓w_tyBb, ↓w_tyBs, ↓w_tyBt, ↓w_tyBl, ↓w_tyBd, ↓w_tyIi, ↓w_tyIb, ↓w_tyIs, ↓w_tyIt, ↓w_tyIl, ↓w_tyId, ↓w_tySi, ↓w_tySb, ↓w_tySs, ↓w_tySt, ↓w_tySl, ↓w_tySd, ↓w_tyTi, ↓w_tyTb, ↓w_tyTs, ↓w_tyTt, ↓w_tyTl, ↓w_tyTd, ↓w_tyLi, ↓w_tyLb, ↓w_tyLs, ↓w_tyLt, ↓w_tyLl, ↓w_tyLd, ↓w_it0, ↓w_it1, ↓w_it2, ↓w_it3, ↓w_it4, ↓w_it5, ↓w_l1, ↓w_l2, ↓w_l0, ↓wWi_nil, ↓wWi_cons, ↓wComp_map, ↓wComp_rng, ↓wComp_mapA, ↓wComp_rngA, ↓wOut_nx, ↓wOut_ret, ↓wOut_nx1, ↓wOut_ret1, ↓wOut_nx2, ↓wOut_ret2, ↓wDi_W, ↓wDm_W, ↓wDm2_W, ↓wD_A, ↓wD_D, ↓wD_S, ↓wD_N, ↓lp_nx, ↓lp_ct, ↓lp_brk, ↓lp_ret, ↓x_sum, ↓x_sumT, ↓x_all, ↓x_any, ↓x_eqT, ↓x_neT, ↓x_eqL, ↓x_neL, ↓x_inL, ↓x_inT, ↓wInn_row, List.length_cons, List.length_nil, Nat.reduceAdd, Nat.reduceLeDiff, true_and, if_true, if_false, eq_self, decide_true, decide_false, Bool.not_true, Bool.not_false, Bool.false_eq_true, $args,*])
theorem sameN_w (n : Nat)  (Q) : wK (callN tab gls (n + 1) 13 [.none, .none]) Q = Q (.bool true) [] := by
  refine wK_of (def_eq (def_run (F := d__law_alike) (E := [.sh (.none), .sh (.none), .un]) rfl ⟨rfl, by decide, by decide⟩ rfl ?_)) Q
  unfold d__law_alike
  push_cast [List.length_nil]
  (first | done | exact ⟨rfl, trivial⟩ | exact ⟨rfl, rfl⟩ | rfl | trivial | exact ⟨fun _ => rfl, fun _ => rfl⟩ | exact ⟨rfl, fun _ => rfl, fun _ => rfl⟩ | exact ⟨trivial, fun _ => rfl, fun _ => rfl⟩ | exact fun _ => rfl)
theorem sameI_w (n : Nat) (i : Int) (Q) : wK (callN tab gls (n + 1) 13 [.int i, .int i]) Q = Q (.bool true) [] := by
  refine wK_of (def_eq (def_run (F := d__law_alike) (E := [.sh (.int i), .sh (.int i), .un]) rfl ⟨rfl, by decide, by decide⟩ rfl ?_)) Q
  unfold d__law_alike
  push_cast [List.length_nil]
  (first | done | exact ⟨rfl, trivial⟩ | exact ⟨rfl, rfl⟩ | rfl | trivial | exact ⟨fun _ => rfl, fun _ => rfl⟩ | exact ⟨rfl, fun _ => rfl, fun _ => rfl⟩ | exact ⟨trivial, fun _ => rfl, fun _ => rfl⟩ | exact fun _ => rfl)
theorem sameB_w (n : Nat) (b : Bool) (Q) : wK (callN tab gls (n + 1) 13 [.bool b, .bool b]) Q = Q (.bool true) [] := by
  refine wK_of (def_eq (def_run (F := d__law_alike) (E := [.sh (.bool b), .sh (.bool b), .un]) rfl ⟨rfl, by decide, by decide⟩ rfl ?_)) Q
  unfold d__law_alike
  push_cast [List.length_nil]
  (first | done | exact ⟨rfl, trivial⟩ | exact ⟨rfl, rfl⟩ | rfl | trivial | exact ⟨fun _ => rfl, fun _ => rfl⟩ | exact ⟨rfl, fun _ => rfl, fun _ => rfl⟩ | exact ⟨trivial, fun _ => rfl, fun _ => rfl⟩ | exact fun _ => rfl)
theorem sameS_w (n : Nat) (s : Str) (h : PyData.strOk s = true) (Q) : wK (callN tab gls (n + 1) 13 [.str s, .str s]) Q = Q (.bool true) [] := by
  refine wK_of (def_eq (def_run (F := d__law_alike) (E := [.sh (.str s), .sh (.str s), .un]) rfl ⟨rfl, by decide, by decide⟩ rfl ?_)) Q
  unfold d__law_alike
  push_cast [List.length_nil]
  rw [w_eqS _ _ _ rfl (show okd (.str s) 40 = true from h)]
  (first | done | exact ⟨rfl, trivial⟩ | exact ⟨rfl, rfl⟩ | rfl | trivial | exact ⟨fun _ => rfl, fun _ => rfl⟩ | exact ⟨rfl, fun _ => rfl, fun _ => rfl⟩ | exact ⟨trivial, fun _ => rfl, fun _ => rfl⟩ | exact fun _ => rfl)
theorem sameT_w (n : Nat) (L : List D) (hl : L.length ≤ 1000) (hin : ∀ d ∈ L, ∀ Q, wK (callN tab gls n 13 [d, d]) Q = Q (.bool true) []) (Q) : wK (callN tab gls (n + 1) 13 [.tuple L, .tuple L]) Q = Q (.bool true) [] := by
  refine wK_of (def_eq (def_run (F := d__law_alike) (E := [.sh (.tuple L), .sh (.tuple L), .un]) rfl ⟨rfl, by decide, by decide⟩ rfl ?_)) Q
  unfold d__law_alike
  push_cast [List.length_nil]
  rw [Int.toNat_natCast, rngI_0]
  refine ⟨by omega, ?_⟩
  refine wComp_map (List.range L.length) _ (fun _ => false) (fun _ => .none) (by simp; omega) (fun k hk => ?_) ?_
  · have hk : k < L.length := by simpa using hk
    push_cast [List.length_nil]
    rw [w_itT L _ k L[k] _ (at_nat rfl hk) (List.getElem?_eq_getElem hk)]
    push_cast [List.length_nil]
    rw [w_itT L _ k L[k] _ (at_nat rfl hk) (List.getElem?_eq_getElem hk)]
    push_cast [List.length_nil]
    rw [hin _ (List.getElem_mem hk)]
    push_cast [List.length_nil]
    first | exact ⟨rfl, fun z => (by cases z), fun _ => rfl⟩ | exact ⟨fun z => (by cases z), fun _ => rfl⟩ | trivial
  rw [show (List.range L.length).filter (fun _ => false) = [] by simp]
  push_cast [List.map_nil]
  rw [x_eqN _ rfl]
  (first | done | exact ⟨rfl, trivial⟩ | exact ⟨rfl, rfl⟩ | rfl | trivial | exact ⟨fun _ => rfl, fun _ => rfl⟩ | exact ⟨rfl, fun _ => rfl, fun _ => rfl⟩ | exact ⟨trivial, fun _ => rfl, fun _ => rfl⟩ | exact fun _ => rfl)
theorem same_all : ∀ (k : Nat) (d : D), Sm k d → ∀ (n : Nat) (Q), wK (callN tab gls (n + k + 1) 13 [d, d]) Q = Q (.bool true) []
  | k, _, .none _, n, Q => sameN_w (n + k) Q
  | k, _, .bool _ b, n, Q => sameB_w (n + k) b Q
  | k, _, .int _ i, n, Q => sameI_w (n + k) i Q
  | k, _, .str _ s h, n, Q => sameS_w (n + k) s h Q
  | _, _, .tup k L h hl, n, Q => sameT_w (n + (k + 1)) L hl (fun d hd Q => same_all k d (h d hd) n Q) Q
theorem sm_map {α : Type} (k : Nat) (f : α → D) (p : List α) (hf : ∀ x ∈ p, Sm k (f x)) (h : p.length ≤ 1000) : Sm (k + 1) (.tuple (p.map f)) := .tup k _ (fun d hd => by
  obtain ⟨i, hi, rfl⟩ := List.mem_map.mp hd
  exact hf i hi) (by rw [List.length_map]; exact h)
theorem sm_2 (k : Nat) (a b : D) (ha : Sm k a) (hb : Sm k b) : Sm (k + 1) (.tuple [a, b]) := .tup k _ (fun d hd => by
  simp only [List.mem_cons, List.not_mem_nil, or_false] at hd
  rcases hd with rfl | rfl
  · exact ha
  · exact hb) (by simp)
theorem sm_tuI (k : Nat) (l : List Int) (h : l.length ≤ 1000) : Sm (k + 1) (tuI l) := sm_map k .int l (fun x _ => .int k x) h
abbrev natI (k : Nat) : D := .int (k : Int)
/-! packets -/
theorem sIx_n (n d k : Nat) : sIx n d (some (k : Int)) = min k n := by
  show (if (k : Int) < 0 then ((k : Int) + n).toNat else min (k : Int).toNat n) = _
  rw [if_neg (by omega), Int.toNat_natCast]
theorem cut_nn {α : Type} (L : List α) (k m : Nat) : cut L (some (k : Int)) (some (m : Int)) = (L.drop k).take (m - k) := by
  unfold cut
  rw [sIx_n, sIx_n]
  by_cases hk : k ≤ L.length
  · rw [Nat.min_eq_left hk]
    by_cases hm : m ≤ L.length
    · rw [Nat.min_eq_left hm]
    · rw [Nat.min_eq_right (by omega), List.take_of_length_le (by rw [List.length_drop]; omega), List.take_of_length_le (by rw [List.length_drop]; omega)]
  · rw [Nat.min_eq_right (show L.length ≤ k by omega), List.drop_eq_nil_of_le (Nat.le_refl _), List.drop_eq_nil_of_le (show L.length ≤ k by omega), List.take_nil, List.take_nil]
theorem x_slT (L : List Int) (irl irh : IR) (zl zh : Int) (k m : Nat) (el : zl = (k : Int)) (eh : zh = (m : Int)) (hl : noneK irl = false) (hh : noneK irh = false) (Q) : wp (optX irl (.int zl)) (fun l => wp (optX irh (.int zh)) fun h => wp (slice (tuI L) l h) Q) = Q (tuI ((L.drop k).take (m - k))) := by
  subst el; subst eh
  rw [optX_i irl hl, wp_some, optX_i irh hh, wp_some]
  show wp (some (PyData.tuple (cut (L.map PyData.int) (some (k : Int)) (some (m : Int))))) Q = _
  rw [wp_some, cut_nn, show tuI ((L.drop k).take (m - k)) = .tuple (((L.drop k).take (m - k)).map PyData.int) from rfl, List.map_take, List.map_drop]
theorem fmn (a b : Nat) : (a : Int).fmod (b : Int) = ((a % b : Nat) : Int) := by
  rw [Int.fmod_eq_emod_of_nonneg _ (by omega)]; rfl
theorem fdn (a b : Nat) : (a : Int).fdiv (b : Int) = ((a / b : Nat) : Int) := by
  rw [Int.fdiv_eq_ediv_of_nonneg _ (by omega)]; rfl
def mny (L s : Nat) : Nat := (L + s - 1) / s
theorem mny_le {L s : Nat} (hs : 1 ≤ s) : mny L s ≤ L := by
  unfold mny
  rcases Nat.eq_zero_or_pos L with rfl | h
  · rw [Nat.div_eq_of_lt (by omega)]; exact Nat.le_refl _
  · refine Nat.div_le_of_le_mul ?_
    have : s * L ≥ s + L - 1 := by
      obtain ⟨s, rfl⟩ : ∃ t, s = t + 1 := ⟨s - 1, by omega⟩
      obtain ⟨L, rfl⟩ : ∃ t, L = t + 1 := ⟨L - 1, by omega⟩
      rw [Nat.succ_mul, Nat.mul_succ]; omega
    omega
theorem ceil_eq (L s : Nat) (hs : 1 ≤ s) : -((-(L : Int)).fdiv (s : Int)) = ((mny L s : Nat) : Int) := by
  rw [Int.fdiv_eq_ediv_of_nonneg _ (by omega)]
  have h1 := Nat.div_add_mod (L + s - 1) s
  have h2 := Nat.mod_lt (L + s - 1) (show s > 0 by omega)
  have e : (-(L : Int)) / (s : Int) = -((mny L s : Nat) : Int) := by
    have h3 : ((s * mny L s : Nat) : Int) = (s : Int) * ((mny L s : Nat) : Int) := Int.natCast_mul _ _
    unfold mny at h3 ⊢
    refine (Int.ediv_emod_unique (a := -(L : Int)) (b := (s : Int)) (r := ((s * ((L + s - 1) / s) : Nat) : Int) - (L : Int)) (q := -(((L + s - 1) / s : Nat) : Int)) (by omega)).mpr ⟨?_, by omega, by omega⟩ |>.1
    rw [Int.mul_neg, ← h3]; omega
  rw [e, Int.neg_neg]
theorem lmny (L s : Nat) (hs : 1 ≤ s) : ((L : Int) + (s : Int) - 1).fdiv (s : Int) = ((mny L s : Nat) : Int) := by
  rw [show (L : Int) + (s : Int) - 1 = ((L + s - 1 : Nat) : Int) by omega, fdn]; rfl
def part (row : List Int) (s k : Nat) : List Int := (row.drop (k * s)).take s
def pkD (row : List Int) (s t k : Nat) : D := .tuple [natI (k % t), tuI (part row s k)]
def pksL (row : List Int) (s t : Nat) : List D := (List.range (mny row.length s)).map (pkD row s t)
theorem part_eq (row : List Int) (s k : Nat) : (row.drop (k * s)).take (k * s + s - k * s) = part row s k := by
  unfold part; rw [Nat.add_sub_cancel_left]
theorem packets_w (n : Nat) {row : List Int} (hr : row.length ≤ 100) {s t : Nat} (hs : 1 ≤ s) (hs2 : s ≤ 100) (ht : 1 ≤ t) (Q) : wK (callN tab gls (n + 1) 0 [tuI row, natI s, natI t]) Q = Q (.tuple (pksL row s t)) [] := by
  refine wK_of (def_eq (def_run (F := d_packets_of) (E := [.sh (tuI row), .sh (natI s), .sh (natI t), .un, .un]) rfl ⟨rfl, by decide, by decide⟩ rfl ?_)) Q
  unfold d_packets_of
  have hm := mny_le (L := row.length) hs
  push_cast [List.length_nil]
  rw [List.length_map]
  refine ⟨by omega, ?_⟩
  rw [ceil_eq _ _ hs]
  push_cast [List.length_nil]
  refine ⟨by omega, ?_⟩
  rw [Int.toNat_natCast, rngI_0]
  refine wComp_mapA (List.range (mny row.length s)) _ (pkD row s t) (by rw [List.length_range]; omega) (fun k hk => ?_) ?_
  · have hk : k < mny row.length s := List.mem_range.mp hk
    push_cast [List.length_nil]
    refine ⟨by omega, by omega, by omega, ?_⟩
    rw [x_slT row _ _ _ _ (k * s) (k * s + s) (Int.natCast_mul k s).symm (by rw [Int.natCast_add, Int.natCast_mul]) rfl rfl, part_eq, fmn]
    push_cast [List.length_nil]
    exact ⟨rfl, rfl⟩
  push_cast [List.length_nil]
  (first | done | exact ⟨rfl, trivial⟩ | exact ⟨rfl, rfl⟩ | rfl | trivial | exact ⟨fun _ => rfl, fun _ => rfl⟩ | exact ⟨rfl, fun _ => rfl, fun _ => rfl⟩ | exact ⟨trivial, fun _ => rfl, fun _ => rfl⟩ | exact fun _ => rfl)
/-! the nearest place -/
def NP (num t near : Nat) : Nat :=
  let low : Int := (near : Int) - ((near : Int) - (num : Int)) % (t : Int)
  if low < 0 ∨ low + t - near < near - low then (low + t).toNat else low.toNat
theorem near_w (n : Nat) {num t near : Nat} (ht : 1 ≤ t) (Q) : wK (callN tab gls (n + 1) 1 [natI num, natI t, natI near]) Q = Q (natI (NP num t near)) [] := by
  refine wK_of (def_eq (def_run (F := d_nearest_place) (E := [.sh (natI num), .sh (natI t), .sh (natI near), .un, .un]) rfl ⟨rfl, by decide, by decide⟩ rfl ?_)) Q
  unfold d_nearest_place
  have h1 := Int.emod_nonneg ((near : Int) - (num : Int)) (show (t : Int) ≠ 0 by omega)
  have h2 := Int.emod_lt_of_pos ((near : Int) - (num : Int)) (show (0 : Int) < (t : Int) by omega)
  have hN : natI (NP num t near) = .int (if (near : Int) - ((near : Int) - (num : Int)) % (t : Int) < 0 ∨ (near : Int) - ((near : Int) - (num : Int)) % (t : Int) + t - near < near - ((near : Int) - ((near : Int) - (num : Int)) % (t : Int)) then (near : Int) - ((near : Int) - (num : Int)) % (t : Int) + t else (near : Int) - ((near : Int) - (num : Int)) % (t : Int)) := by
    by_cases cc : (near : Int) - ((near : Int) - (num : Int)) % (t : Int) < 0 ∨ (near : Int) - ((near : Int) - (num : Int)) % (t : Int) + t - near < near - ((near : Int) - ((near : Int) - (num : Int)) % (t : Int))
    · rw [if_pos cc, show NP num t near = ((near : Int) - ((near : Int) - (num : Int)) % (t : Int) + t).toNat from if_pos cc, natI, Int.toNat_of_nonneg (by omega)]
    · rw [if_neg cc, show NP num t near = ((near : Int) - ((near : Int) - (num : Int)) % (t : Int)).toNat from if_neg cc, natI, Int.toNat_of_nonneg (by omega)]
  rw [hN]
  push_cast [List.length_nil]
  rw [Int.fmod_eq_emod_of_nonneg _ (by omega)]
  generalize ((near : Int) - (num : Int)) % (t : Int) = r at *
  refine ⟨by omega, ?_⟩
  by_cases c : (near : Int) - r < 0
  · rw [if_pos c, if_pos (Or.inl c)]
    exact ⟨rfl, trivial⟩
  · by_cases c2 : (near : Int) - r + t - near < near - ((near : Int) - r)
    · rw [if_neg c, if_pos c2, if_pos (Or.inr c2)]
      exact ⟨rfl, trivial⟩
    · rw [if_neg c, if_neg c2, if_neg (fun z => z.elim c c2)]
      exact ⟨rfl, trivial⟩
theorem np_mod {num t near : Nat} (ht : 1 ≤ t) (hn : num < t) : NP num t near % t = num ∧ NP num t near < near + 2 * t ∧ ∀ p : Nat, p % t = num → p = NP num t near ∨ ((NP num t near : Int) - near).natAbs < ((p : Int) - near).natAbs ∨ (((NP num t near : Int) - near).natAbs = ((p : Int) - near).natAbs ∧ NP num t near < p) := by
  have h1 := Int.emod_nonneg ((near : Int) - (num : Int)) (show (t : Int) ≠ 0 by omega)
  have h2 := Int.emod_lt_of_pos ((near : Int) - (num : Int)) (show (0 : Int) < (t : Int) by omega)
  have h3 := Int.mul_ediv_add_emod ((near : Int) - (num : Int)) (t : Int)
  have hp : ∀ p : Nat, p % t = num → ∃ j : Int, (p : Int) = num + t * j := fun p e => ⟨((p / t : Nat) : Int), by
    have := Nat.div_add_mod p t
    rw [e] at this
    rw [← Int.natCast_mul]; omega⟩
  have hq : ∀ (p : Nat) (j : Int), (p : Int) = num + t * j → p % t = num := fun p j e => by
    have : ((p % t : Nat) : Int) = (num : Int) := by
      rw [Int.natCast_emod, e, Int.add_mul_emod_self_left]
      exact Int.emod_eq_of_lt (by omega) (by omega)
    omega
  unfold NP
  generalize ((near : Int) - (num : Int)) % (t : Int) = r at *
  generalize ((near : Int) - (num : Int)) / (t : Int) = d at *
  have el : (near : Int) - r = num + t * d := by omega
  have key : ∀ p : Nat, p % t = num → ∃ i : Int, (p : Int) = near - r + t * i := fun p e => by
    obtain ⟨j, hj⟩ := hp p e
    exact ⟨j - d, by rw [Int.mul_sub]; omega⟩
  have far : ∀ i : Int, (i ≤ -1 ∧ (t : Int) * i ≤ -t) ∨ i = 0 ∨ i = 1 ∨ (2 ≤ i ∧ 2 * (t : Int) ≤ t * i) := fun i => by
    have ht0 : (0 : Int) ≤ t := by omega
    by_cases a : i ≤ -1
    · have := Int.mul_le_mul_of_nonneg_left a ht0
      exact .inl ⟨a, by omega⟩
    · by_cases b : 2 ≤ i
      · have := Int.mul_le_mul_of_nonneg_left b ht0
        exact .inr (.inr (.inr ⟨b, by omega⟩))
      · omega
  by_cases c : (near : Int) - r < 0 ∨ (near : Int) - r + t - near < near - ((near : Int) - r)
  · rw [if_pos c]
    have e : (((near : Int) - r + t).toNat : Int) = near - r + t := Int.toNat_of_nonneg (by omega)
    refine ⟨hq _ (d + 1) (by rw [e, Int.mul_add]; omega), by omega, fun p hpm => ?_⟩
    obtain ⟨i, hi⟩ := key p hpm
    rcases far i with ⟨a, b⟩ | rfl | rfl | ⟨a, b⟩
    · generalize (t : Int) * i = z at *
      omega
    · rw [Int.mul_zero] at hi; omega
    · rw [Int.mul_one] at hi; left; omega
    · generalize (t : Int) * i = z at *
      omega
  · rw [if_neg c]
    have e : (((near : Int) - r).toNat : Int) = near - r := Int.toNat_of_nonneg (by omega)
    refine ⟨hq _ d (by rw [e]; omega), by omega, fun p hpm => ?_⟩
    obtain ⟨i, hi⟩ := key p hpm
    rcases far i with ⟨a, b⟩ | rfl | rfl | ⟨a, b⟩
    · generalize (t : Int) * i = z at *
      omega
    · rw [Int.mul_zero] at hi; left; omega
    · rw [Int.mul_one] at hi; omega
    · generalize (t : Int) * i = z at *
      omega
abbrev pD (p : Int × Int) : D := .tuple [.int p.1, .int p.2]
theorem pD_ord (L : List (Int × Int)) : ordB (L.map pD) = true := by
  unfold ordB
  rw [Bool.and_eq_true_iff, Bool.and_eq_true_iff]
  refine ⟨⟨okds_map _ _ _ fun _ _ => rfl, ?_⟩, ?_⟩
  · unfold AlkB
    rw [List.all_map, List.all_eq_true]
    intro p hp
    show (((L.map pD).all (PySem.W.alike (pD p))) && true) = true
    rw [Bool.and_true, List.all_map, List.all_eq_true]
    intro q hq
    show PySem.W.alike (pD p) (pD q) = true
    unfold pD
    simp [PySem.W.alike, PySem.W.alikeAll]
  · rw [List.all_map, List.all_eq_true]
    intro p hp
    rfl
theorem foldl_pick {α : Type} (lt : α → α → Bool) (g : α) (hg : lt g g = false) : ∀ (r : List α) (x : α), (∀ y ∈ x :: r, y = g ∨ (lt y g = true ∧ lt g y = false)) → g ∈ x :: r → r.foldl (fun a y => if lt a y = true then y else a) x = g
  | [], x, _, h => by rw [List.mem_singleton] at h; exact h.symm
  | y :: r, x, h, hm => by
    rw [List.foldl_cons]
    have hx := h x (by simp)
    have hy := h y (by simp)
    refine foldl_pick lt g hg r _ (fun z hz => ?_) ?_
    · rcases List.mem_cons.mp hz with rfl | hz
      · split
        · exact hy
        · exact hx
      · exact h z (by simp [hz])
    · rcases hx with rfl | ⟨a, b⟩
      · by_cases q : lt x y = true
        · rw [if_pos q]
          rcases hy with rfl | ⟨_, b⟩
          · simp
          · rw [b] at q; cases q
        · rw [if_neg q]; simp
      · rcases List.mem_cons.mp hm with e | hm
        · subst e; rw [hg] at a; cases a
        · rcases List.mem_cons.mp hm with e | hm
          · subst e; rw [if_pos a]; simp
          · exact List.mem_cons_of_mem _ hm
/-- the least of pairs -/
theorem mn_pairs (L : List (Int × Int)) (p : Int × Int) (h1 : p ∈ L) (h2 : ∀ q ∈ L, q = p ∨ p.1 < q.1 ∨ (p.1 = q.1 ∧ p.2 < q.2)) (Q) : wp (bltop .mn [.list (L.map pD)]) Q = Q (pD p) := by
  refine wp_of ?_
  show mnD (L.map pD) = _
  cases L with
  | nil => simp at h1
  | cons x r =>
    unfold mnD
    have e1 : intsOf ((x :: r).map pD) = none := rfl
    rw [e1, List.map_cons]
    show (if ordB ((x :: r).map pD) then _ else _) = _
    rw [pD_ord, if_pos rfl]
    congr 1
    unfold PySem.W.minD
    refine foldl_pick (fun a b => PySem.W.dataLt b a) (pD p) ?_ _ _ (fun y hy => ?_) ?_
    · show PySem.W.dataLt (pD p) (pD p) = false
      rw [PySem.W.dataLt_ii]; exact decide_eq_false (by omega)
    · rw [← List.map_cons] at hy
      obtain ⟨q, hq, rfl⟩ := List.mem_map.mp hy
      rcases h2 q hq with rfl | h
      · exact .inl rfl
      · right
        show PySem.W.dataLt (pD p) (pD q) = true ∧ PySem.W.dataLt (pD q) (pD p) = false
        rw [PySem.W.dataLt_ii, PySem.W.dataLt_ii]
        exact ⟨decide_eq_true h, decide_eq_false (by omega)⟩
    · rw [← List.map_cons]; exact List.mem_map.mpr ⟨p, h1, rfl⟩
theorem lnear_w (n : Nat) {num t near : Nat} (ht : 1 ≤ t) (hn : num < t) (hb : near + 2 * t ≤ 1000) (Q) : wK (callN tab gls (n + 1) 15 [natI num, natI t, natI near]) Q = Q (natI (NP num t near)) [] := by
  refine wK_of (def_eq (def_run (F := d__law_nearest) (E := [.sh (natI num), .sh (natI t), .sh (natI near), .un, .un]) rfl ⟨rfl, by decide, by decide⟩ rfl ?_)) Q
  unfold d__law_nearest
  obtain ⟨h1, h2, h3⟩ := np_mod (near := near) ht hn
  push_cast [List.length_nil]
  refine ⟨by omega, ?_⟩
  rw [show ((near : Int) + 2 * (t : Int)).toNat = near + 2 * t by omega, rngI_0]
  refine ⟨by omega, ?_⟩
  refine wComp_map (List.range (near + 2 * t)) _ (fun p : Nat => decide (p % t = num)) (fun p : Nat => pD (((((p : Int) - near).natAbs : Nat) : Int), (p : Int))) (by rw [List.length_range]; omega) (fun p hp => ?_) ?_
  · push_cast [fmn]
    have e : (decide (((p % t : Nat) : Int) = (num : Int))) = decide (p % t = num) := by rw [decide_eq_decide]; omega
    rw [e]
    refine ⟨by omega, rfl, fun _ => ?_, fun _ => rfl⟩
    push_cast [List.length_nil]
    refine ⟨?_, rfl⟩
    congr 3
    split <;> omega
  push_cast [List.length_nil]
  rw [show ((List.range (near + 2 * t)).filter (fun p : Nat => decide (p % t = num))).map (fun p : Nat => pD (((((p : Int) - near).natAbs : Nat) : Int), (p : Int))) = (((List.range (near + 2 * t)).filter (fun p : Nat => decide (p % t = num))).map (fun p : Nat => ((((((p : Int) - near).natAbs : Nat) : Int), (p : Int)) : Int × Int))).map pD by rw [List.map_map]; rfl]
  rw [mn_pairs _ (((((NP num t near : Nat) : Int) - near).natAbs : Nat), ((NP num t near : Nat) : Int)) (List.mem_map.mpr ⟨NP num t near, List.mem_filter.mpr ⟨List.mem_range.mpr h2, decide_eq_true h1⟩, rfl⟩) fun q hq => ?_]
  · unfold pD
    push_cast [List.length_nil]
    (first | done | exact ⟨rfl, trivial⟩ | exact ⟨rfl, rfl⟩ | rfl | trivial | exact ⟨fun _ => rfl, fun _ => rfl⟩ | exact ⟨rfl, fun _ => rfl, fun _ => rfl⟩ | exact ⟨trivial, fun _ => rfl, fun _ => rfl⟩ | exact fun _ => rfl)
  · obtain ⟨p, hp, rfl⟩ := List.mem_map.mp hq
    obtain ⟨_, hp⟩ := List.mem_filter.mp hp
    rcases h3 p (of_decide_eq_true hp) with e | e | ⟨e1, e2⟩
    · rw [← e]; exact .inl rfl
    · right; left; show ((_ : Nat) : Int) < ((_ : Nat) : Int); omega
    · right; right; exact ⟨by show ((_ : Nat) : Int) = ((_ : Nat) : Int); omega, by show ((_ : Nat) : Int) < ((_ : Nat) : Int); omega⟩
end LawP

set_option Elab.async false
set_option linter.all false
set_option maxRecDepth 100000
set_option maxHeartbeats 2000000
namespace LawP
open PySem Pv
local macro_rules
  | `(tactic| push_cast [$args,*]) => `(tactic| try simp only [↓wp_some, ↓wGet_z, ↓wGet_s, ↓wSet_z, ↓wSet_s, ↓wCt_sh, ↓wCt_ow, ↓wCt_io, ↓wG_val, ↓wG_bor, ↓wV_sh, ↓wV_ow, ↓wE_k, ↓wE_var, ↓wOv_sh, ↓wOv_ow, ↓wOv_io, ↓wO_var, ↓wO_k, ↓wO_glb, ↓wO_bin, ↓wO_neg, ↓wO_not, ↓wO_cmp, ↓wO_chain, ↓wO_chn3, ↓wO_and, ↓wO_or, ↓wO_ite, ↓wO_tup, ↓wO_lst, ↓wO_dctT, ↓wO_dct, ↓wO_idx, ↓wO_slc, ↓wO_call, ↓wO_blt, ↓wO_mth, ↓wO_upd, ↓wO_mut, ↓wO_rng, ↓wO_comp, ↓wO_callB, ↓wO_kys, ↓wO_fz, ↓wO_rev, ↓wO_lrg, ↓wO_lrs, ↓wO_lzp, ↓wO_trg, ↓wO_lix, ↓wO_cnt, ↓wO_srs, ↓wO_rgs, ↓wO_zip, ↓wO_inr, ↓wO_isi, ↓wO_comp2, ↓wE_bin, ↓wNeg_i, ↓wNot_b, ↓wE_neg, ↓wE_not, ↓wE_cmp, ↓wC_t, ↓wC_f, ↓wC_d, ↓wC_nd, ↓wE_chain, ↓wE_chn3, ↓wE_and, ↓wE_or, ↓wE_ite, ↓wEs_nil, ↓wEs_cons, ↓wOs_nil, ↓wOs_cons, ↓wLim_eq, ↓wE_tup, ↓wE_lst, ↓wE_dctT, ↓wE_dct, ↓wE_idx, ↓wE_slc, ↓wE_rev, ↓wMv_ow, ↓wMv_io, ↓wM_eq, ↓wPv_ow, ↓wPv_io, ↓wP_eq, ↓wMs_nil, ↓wMs_cons, ↓wPs_nil, ↓wPs_cons, ↓wA_nil, ↓wA_cons, ↓wE_call', ↓wLn_sh, ↓wLn_ow, ↓wLn_io, ↓wLns_nil, ↓wLns_cons, ↓wFl_int, ↓wFl_bool, ↓wFl_none, ↓wFl_str, ↓wE_callB', ↓wE_glb', ↓wTs_nil, ↓wTs_cons, ↓wE_blt, ↓wL_l, ↓wDm2_l, ↓wDm2_d, ↓wDm_l, ↓wDm_d, ↓wE_mth, ↓wE_lix, ↓wE_cnt, ↓wTd_t, ↓wE_upd, ↓wE_mut, ↓wE_kys, ↓wE_fz, ↓wE_rng, ↓wE_lrg, ↓wE_lrs, ↓wE_lzp, ↓wTr_l, ↓wE_trg, ↓wE_srs, ↓wE_rgs, ↓wE_zip, ↓wE_inr, ↓wE_isi, ↓wH_val, ↓wH_bor, ↓wI_l, ↓wI_t, ↓wE_comp, ↓wE_comp2, ↓wKo_nx, ↓wKo_ret, ↓wKo_brk, ↓wKo_ct, ↓wXs_nil, ↓wXs_cons, ↓wSv_un, ↓wSv_sh, ↓wSv_ow, ↓wSv_unT, ↓wSv_shT, ↓wSv_owT, ↓wS_eq, ↓wF_i, ↓wF_b, ↓wF_n, ↓wF_t, ↓wF_s, ↓wF_llst, ↓wF_lcmp, ↓wF_lrev, ↓wF_lslc, ↓wF_lbli, ↓wF_lsrs, ↓wF_lsrt, ↓wF_ladd, ↓wF_lmul, ↓wF_lcm2, ↓wF_llrg, ↓wF_llrs, ↓wF_llzp, ↓wF_lvar, ↓wF_lcal, ↓wF_lidx, ↓wF_lmut, ↓wF_lupd, ↓wF_lmth, ↓wF_liteV, ↓wF_liteK, ↓wF_liteI, ↓wF_liteC, ↓wF_liteM, ↓wF_liteS, ↓wF_liteT, ↓wF_liteB, ↓wF_liteN, ↓wF_liteG, ↓wF_liteLV, ↓wF_liteLK, ↓wF_liteLI, ↓wF_liteLC, ↓wF_liteLM, ↓wF_liteLS, ↓wF_liteLT, ↓wF_liteLB, ↓wF_liteLN, ↓wF_liteLG, ↓wF_liteLL, ↓wF_ddctT, ↓wF_ddct, ↓wF_dbld, ↓wF_dbldT, ↓wF_dvar, ↓wF_dcal, ↓wF_didx, ↓wX_asg, ↓wX_tup, ↓wAs_name, ↓wAs_tup, ↓wAs_tupL, ↓wAss_nil, ↓wAss_cons, ↓wPar_nil, ↓wPar_cons, ↓wX_par, ↓wX_aug, ↓wX_augS, ↓wX_setS, ↓w_ii2, ↓w_lsM, ↓wX_parS, ↓wX_exp, ↓wX_ret, ↓wX_ite, ↓wX_for, ↓wX_while, ↓wX_brk, ↓wX_ct, ↓wX_pass, ↓w_add, ↓w_sub, ↓w_mul, ↓w_fdiv, ↓w_mod, ↓w_pow, ↓w_addL, ↓w_addT, ↓w_mulL, ↓w_gadd, ↓w_gsub, ↓w_lt, ↓w_le, ↓w_gt, ↓w_ge, ↓w_eq, ↓w_ne, ↓w_isNN, ↓w_revL, ↓w_revT, ↓w_abs, ↓w_int, ↓w_lenL, ↓w_lenT, ↓w_lenS, ↓w_tupL, ↓w_tupT, ↓w_lisL, ↓w_lisT, ↓w_min2, ↓w_max2, ↓w_app, ↓wq_rng1, ↓wq_rng2, ↓w_isNi, ↓w_isNt, ↓w_isNl, ↓w_isNd, ↓w_isNs, ↓w_isNb, ↓w_notNi, ↓w_notNt, ↓w_notNl, ↓w_notNd, ↓w_notNs, ↓w_notNb, ↓w_notNN, ↓w_isB, ↓w_notB, ↓w_intB, ↓w_zipL, ↓w_zipT, ↓w_inr1, ↓w_inr2, ↓w_tyN, ↓w_tyBi, ↓w_tyBb, ↓w_tyBs, ↓w_tyBt, ↓w_tyBl, ↓w_tyBd, ↓w_tyIi, ↓w_tyIb, ↓w_tyIs, ↓w_tyIt, ↓w_tyIl, ↓w_tyId, ↓w_tySi, ↓w_tySb, ↓w_tySs, ↓w_tySt, ↓w_tySl, ↓w_tySd, ↓w_tyTi, ↓w_tyTb, ↓w_tyTs, ↓w_tyTt, ↓w_tyTl, ↓w_tyTd, ↓w_tyLi, ↓w_tyLb, ↓w_tyLs, ↓w_tyLt, ↓w_tyLl, ↓w_tyLd, ↓w_it0, ↓w_it1, ↓w_it2, ↓w_it3, ↓w_it4, ↓w_it5, ↓w_l1, ↓w_l2, ↓w_l0, ↓wWi_nil, ↓wWi_cons, ↓wComp_map, ↓wComp_rng, ↓wComp_mapA, ↓wComp_rngA, ↓wOut_nx, ↓wOut_ret, ↓wOut_nx1, ↓wOut_ret1, ↓wOut_nx2, ↓wOut_ret2, ↓wDi_W, ↓wDm_W, ↓wDm2_W, ↓wD_A, ↓wD_D, ↓wD_S, ↓wD_N, ↓lp_nx, ↓lp_ct, ↓lp_brk, ↓lp_ret, ↓x_sum, ↓x_sumT, ↓x_all, ↓x_any, ↓x_eqT, ↓x_neT, ↓x_eqL, ↓x_neL, ↓x_inL, ↓x_inT, ↓wInn_row, List.length_cons, List.length_nil, Nat.reduceAdd, Nat.reduceLeDiff, true_and, if_true, if_false, eq_self, decide_true, decide_false, Bool.not_true, Bool.not_false, Bool.false_eq_true, $args,*])
/-! packets put back -/
def ins (P : List Nat) (p : Nat) : List Nat := if p ∈ P then P else P ++ [p]
def fdD (row : List Int) (s : Nat) (P : List Nat) : List (D × D) := P.map fun p => (natI p, tuI (part row s p))
section
variable (row : List Int) (s : Nat) (P : List Nat)
theorem fd_ok : dOk (fdD row s P) = true := by cases P <;> rfl
theorem ek (a b : Nat) : keyEq (natI a) (natI b) = decide (a = b) := by
  show ((a : Int) == (b : Int)) = _
  rw [Bool.beq_eq_decide_eq, decide_eq_decide]; omega
theorem fd_any (p : Nat) : ((fdD row s P).any fun q => keyEq q.1 (natI p)) = decide (p ∈ P) := by
  unfold fdD
  rw [List.any_map, Bool.eq_iff_iff, List.any_eq_true, decide_eq_true_eq]
  constructor
  · rintro ⟨q, hq, e⟩
    have e : keyEq (natI q) (natI p) = true := e
    rw [ek, decide_eq_true_eq] at e
    rw [← e]; exact hq
  · intro h
    refine ⟨p, h, ?_⟩
    show keyEq (natI p) (natI p) = true
    rw [ek]; simp
theorem put_fd (p : Nat) : dput (fdD row s P) (natI p) (tuI (part row s p)) = fdD row s (ins P p) := by
  unfold dput ins
  rw [fd_any]
  by_cases h : p ∈ P
  · rw [if_pos (decide_eq_true h), if_pos h]
    unfold fdD
    rw [List.map_map]
    refine List.map_congr_left fun q _ => ?_
    show (if keyEq (natI q) (natI p) then ((natI q, tuI (part row s p)) : D × D) else (natI q, tuI (part row s q))) = _
    rw [ek]
    by_cases e : q = p
    · subst e; simp
    · rw [if_neg (by simpa using e)]
  · rw [if_neg (by simpa using h), if_neg h]
    unfold fdD
    rw [List.map_append]; rfl
theorem fd_val (p : Nat) : dval (fdD row s P) (natI p) = if p ∈ P then some (tuI (part row s p)) else none := by
  unfold dval fdD
  rw [List.find?_map, Option.map_map]
  have e : ((fun q : D × D => keyEq q.1 (natI p)) ∘ fun p : Nat => ((natI p, tuI (part row s p)) : D × D)) = fun q : Nat => decide (q = p) := by
    funext q
    show keyEq (natI q) (natI p) = _
    exact ek q p
  rw [e]
  cases h : P.find? (fun q => decide (q = p)) with
  | none =>
    rw [List.find?_eq_none] at h
    rw [if_neg (fun m => h p m (by simp))]; rfl
  | some q =>
    have h1 := List.find?_some h
    have h2 := List.mem_of_find?_eq_some h
    have h1 : q = p := of_decide_eq_true h1
    subst h1
    rw [if_pos h2]; rfl
theorem fd_look (p : Nat) : dlook (fdD row s P) (natI p) = some (if p ∈ P then some (tuI (part row s p)) else none) := by
  unfold dlook
  rw [fd_ok, if_pos (show (isKey (natI p) && true) = true from rfl), fd_val]
theorem x_setF (hl : P.length ≤ 1000) (p : Nat) (Q) : wp (setItem (.dict (fdD row s P)) (natI p) (tuI (part row s p))) Q = Q (.dict (fdD row s (ins P p))) := wp_of (by
  show (if isKey (natI p) && dOk (fdD row s P) && decide ((fdD row s P).length < LIM) then some (PyData.dict (dput (fdD row s P) (natI p) (tuI (part row s p)))) else _) = _
  rw [fd_ok, show isKey (natI p) = true from rfl, decide_eq_true (by unfold fdD; rw [List.length_map]; unfold LIM; omega), if_pos (show (true && true && true) = true from rfl), put_fd])
theorem x_notF (p : Nat) (Q) : wp (cmpop .notin (natI p) (.dict (fdD row s P))) Q = Q (!decide (p ∈ P)) := wp_of (by
  show (dlook (fdD row s P) (natI p)).map (fun o => !o.isSome) = _
  rw [fd_look]
  by_cases h : p ∈ P
  · rw [if_pos h, decide_eq_true h]; rfl
  · rw [if_neg h, decide_eq_false h]; rfl)
theorem x_itF (p : Nat) (h : p ∈ P) (Q) : wp (item (.dict (fdD row s P)) (natI p)) Q = Q (tuI (part row s p)) := wp_of (by
  have e : item (.dict (fdD row s P)) (natI p) = (dlook (fdD row s P) (natI p)).bind id := by
    cases P with
    | nil => simp at h
    | cons q M => rfl
  rw [e, fd_look, if_pos h]; rfl)
end
theorem ins_mem (P : List Nat) (p q : Nat) : q ∈ ins P p ↔ q ∈ P ∨ q = p := by
  unfold ins
  split
  · rename_i h
    exact ⟨.inl, fun z => z.elim id fun e => e ▸ h⟩
  · rw [List.mem_append, List.mem_singleton]
theorem ins_len (P : List Nat) (p : Nat) : (ins P p).length ≤ P.length + 1 := by
  unfold ins
  split
  · omega
  · rw [List.length_append]; simp
theorem insF_mem (q : Nat) : ∀ (P A : List Nat), q ∈ P.foldl ins A ↔ q ∈ A ∨ q ∈ P
  | [], A => by simp
  | p :: P, A => by
    rw [List.foldl_cons, insF_mem q P (ins A p), ins_mem, List.mem_cons, or_assoc]
theorem insF_len : ∀ (P A : List Nat), (P.foldl ins A).length ≤ A.length + P.length
  | [], A => by simp
  | p :: P, A => by
    have h1 := insF_len P (ins A p)
    have h2 := ins_len A p
    rw [List.foldl_cons, List.length_cons]; omega
def nearOf (P : List Nat) (n : Nat) : Nat := P.foldl (fun a p => max a (p + 1)) n
def OkP (t : Nat) : Nat → List Nat → Prop
  | _, [] => True
  | near, p :: r => NP (p % t) t near = p ∧ OkP t (max near (p + 1)) r
theorem okp_drop (t : Nat) : ∀ (P : List Nat) (n i : Nat) (h : i < P.length), OkP t n P → NP (P[i] % t) t (nearOf (P.take i) n) = P[i]
  | [], _, _, h, _ => by simp at h
  | p :: P, n, 0, _, h => h.1
  | p :: P, n, i + 1, hi, h => okp_drop t P _ i (by simpa using hi) h.2
theorem okp_snoc (t : Nat) : ∀ (P : List Nat) (n p : Nat), OkP t n P → NP (p % t) t (nearOf P n) = p → OkP t n (P ++ [p])
  | [], _, _, _, h => ⟨h, trivial⟩
  | q :: P, n, p, h, e => ⟨h.1, okp_snoc t P _ p h.2 e⟩
theorem near_snoc (P : List Nat) (p n : Nat) : nearOf (P ++ [p]) n = max (nearOf P n) (p + 1) := by
  unfold nearOf
  rw [List.foldl_append]; rfl
theorem near_le {M : Nat} : ∀ (P : List Nat) (n : Nat), n ≤ M → (∀ p ∈ P, p < M) → nearOf P n ≤ M
  | [], n, h, _ => h
  | p :: P, n, h, hp => near_le P _ (Nat.max_le.mpr ⟨h, hp p List.mem_cons_self⟩) fun q hq => hp q (List.mem_cons_of_mem _ hq)
def leftL (M : Nat) (P : List Nat) : List Nat := (List.range M).filter fun p => !decide (p ∈ P)
def yesS : D := .str (PySem.Str.ofString "yes")
def noS : D := .str (PySem.Str.ofString "no")
def pbD (row : List Int) (M : Nat) (P : List Nat) : D := if leftL M P = [] then .tuple [yesS, tuI row] else .tuple [noS, .tuple ((leftL M P).map natI)]
theorem parts_take (row : List Int) (s : Nat) : ∀ M : Nat, (List.range M).flatMap (part row s) = row.take (M * s)
  | 0 => by simp
  | M + 1 => by
    rw [List.range_succ, List.flatMap_append, parts_take row s M, Nat.succ_mul, List.take_add]
    simp [part]
theorem mny_ge (L s : Nat) (hs : 1 ≤ s) : L ≤ mny L s * s := by
  have h1 := Nat.div_add_mod (L + s - 1) s
  have h2 := Nat.mod_lt (L + s - 1) (show s > 0 by omega)
  unfold mny
  rw [Nat.mul_comm]; omega
theorem parts_all (row : List Int) (s : Nat) (hs : 1 ≤ s) : (List.range (mny row.length s)).flatMap (fun k => (part row s k).map PyData.int) = row.map PyData.int := by
  rw [show (fun k => (part row s k).map PyData.int) = fun k => List.map PyData.int (part row s k) from rfl, ← List.map_flatMap, parts_take, List.take_of_length_le (mny_ge _ _ hs)]
theorem x_tkI (L : List Int) (ir : IR) (z : Int) (k : Nat) (e : z = (k : Int)) (h : noneK ir = false) (Q) : wp (optX (.k .none) .none) (fun l => wp (optX ir (.int z)) fun h => wp (slice (tuI L) l h) Q) = Q (tuI (L.take k)) := by
  subst e
  rw [optX_i ir h]
  simp only [optX, wp_some, slice]
  have e1 : cut (L.map PyData.int) none (some (k : Int)) = (L.take k).map PyData.int := by
    unfold cut
    rw [sIx_n, List.length_map, List.map_take]
    show ((L.map PyData.int).drop 0).take (min k L.length - 0) = _
    rw [List.drop_zero, Nat.sub_zero]
    by_cases hk : k ≤ L.length
    · rw [Nat.min_eq_left hk]
    · rw [Nat.min_eq_right (by omega), List.take_of_length_le (by rw [List.length_map]; omega), List.take_of_length_le (by rw [List.length_map]; omega)]
  rw [e1]
theorem getR {α : Type} {f : α → D} {L : List α} {i : Nat} {x : D} (h : (L.map f)[i]? = some x) : ∃ hi : i < L.length, x = f L[i] := by
  rw [List.getElem?_map, Option.map_eq_some_iff] at h
  obtain ⟨a, e, rfl⟩ := h
  obtain ⟨hi, e⟩ := List.getElem?_eq_some_iff.mp e
  exact ⟨hi, by rw [e]⟩
theorem dp0 (Q) : wp (dputs [] []) Q = Q [] := wp_some _ _
local macro_rules
  | `(tactic| push_cast [$args,*]) => `(tactic| try simp only [↓dp0, ↓wp_some, ↓wGet_z, ↓wGet_s, ↓wSet_z, ↓wSet_s, ↓wCt_sh, ↓wCt_ow, ↓wCt_io, ↓wG_val, ↓wG_bor, ↓wV_sh, ↓wV_ow, ↓wE_k, ↓wE_var, ↓wOv_sh, ↓wOv_ow, ↓wOv_io, ↓wO_var, ↓wO_k, ↓wO_glb, ↓wO_bin, ↓wO_neg, ↓wO_not, ↓wO_cmp, ↓wO_chain, ↓wO_chn3, ↓wO_and, ↓wO_or, ↓wO_ite, ↓wO_tup, ↓wO_lst, ↓wO_dctT, ↓wO_dct, ↓wO_idx, ↓wO_slc, ↓wO_call, ↓wO_blt, ↓wO_mth, ↓wO_upd, ↓wO_mut, ↓wO_rng, ↓wO_comp, ↓wO_callB, ↓wO_kys, ↓wO_fz, ↓wO_rev, ↓wO_lrg, ↓wO_lrs, ↓wO_lzp, ↓wO_trg, ↓wO_lix, ↓wO_cnt, ↓wO_srs, ↓wO_rgs, ↓wO_zip, ↓wO_inr, ↓wO_isi, ↓wO_comp2, ↓wE_bin, ↓wNeg_i, ↓wNot_b, ↓wE_neg, ↓wE_not, ↓wE_cmp, ↓wC_t, ↓wC_f, ↓wC_d, ↓wC_nd, ↓wE_chain, ↓wE_chn3, ↓wE_and, ↓wE_or, ↓wE_ite, ↓wEs_nil, ↓wEs_cons, ↓wOs_nil, ↓wOs_cons, ↓wLim_eq, ↓wE_tup, ↓wE_lst, ↓wE_dctT, ↓wE_dct, ↓wE_idx, ↓wE_slc, ↓wE_rev, ↓wMv_ow, ↓wMv_io, ↓wM_eq, ↓wPv_ow, ↓wPv_io, ↓wP_eq, ↓wMs_nil, ↓wMs_cons, ↓wPs_nil, ↓wPs_cons, ↓wA_nil, ↓wA_cons, ↓wE_call', ↓wLn_sh, ↓wLn_ow, ↓wLn_io, ↓wLns_nil, ↓wLns_cons, ↓wFl_int, ↓wFl_bool, ↓wFl_none, ↓wFl_str, ↓wE_callB', ↓wE_glb', ↓wTs_nil, ↓wTs_cons, ↓wE_blt, ↓wL_l, ↓wDm2_l, ↓wDm2_d, ↓wDm_l, ↓wDm_d, ↓wE_mth, ↓wE_lix, ↓wE_cnt, ↓wTd_t, ↓wE_upd, ↓wE_mut, ↓wE_kys, ↓wE_fz, ↓wE_rng, ↓wE_lrg, ↓wE_lrs, ↓wE_lzp, ↓wTr_l, ↓wE_trg, ↓wE_srs, ↓wE_rgs, ↓wE_zip, ↓wE_inr, ↓wE_isi, ↓wH_val, ↓wH_bor, ↓wI_l, ↓wI_t, ↓wE_comp, ↓wE_comp2, ↓wKo_nx, ↓wKo_ret, ↓wKo_brk, ↓wKo_ct, ↓wXs_nil, ↓wXs_cons, ↓wSv_un, ↓wSv_sh, ↓wSv_ow, ↓wSv_unT, ↓wSv_shT, ↓wSv_owT, ↓wS_eq, ↓wF_i, ↓wF_b, ↓wF_n, ↓wF_t, ↓wF_s, ↓wF_llst, ↓wF_lcmp, ↓wF_lrev, ↓wF_lslc, ↓wF_lbli, ↓wF_lsrs, ↓wF_lsrt, ↓wF_ladd, ↓wF_lmul, ↓wF_lcm2, ↓wF_llrg, ↓wF_llrs, ↓wF_llzp, ↓wF_lvar, ↓wF_lcal, ↓wF_lidx, ↓wF_lmut, ↓wF_lupd, ↓wF_lmth, ↓wF_liteV, ↓wF_liteK, ↓wF_liteI, ↓wF_liteC, ↓wF_liteM, ↓wF_liteS, ↓wF_liteT, ↓wF_liteB, ↓wF_liteN, ↓wF_liteG, ↓wF_liteLV, ↓wF_liteLK, ↓wF_liteLI, ↓wF_liteLC, ↓wF_liteLM, ↓wF_liteLS, ↓wF_liteLT, ↓wF_liteLB, ↓wF_liteLN, ↓wF_liteLG, ↓wF_liteLL, ↓wF_ddctT, ↓wF_ddct, ↓wF_dbld, ↓wF_dbldT, ↓wF_dvar, ↓wF_dcal, ↓wF_didx, ↓wX_asg, ↓wX_tup, ↓wAs_name, ↓wAs_tup, ↓wAs_tupL, ↓wAss_nil, ↓wAss_cons, ↓wPar_nil, ↓wPar_cons, ↓wX_par, ↓wX_aug, ↓wX_augS, ↓wX_setS, ↓w_ii2, ↓w_lsM, ↓wX_parS, ↓wX_exp, ↓wX_ret, ↓wX_ite, ↓wX_for, ↓wX_while, ↓wX_brk, ↓wX_ct, ↓wX_pass, ↓w_add, ↓w_sub, ↓w_mul, ↓w_fdiv, ↓w_mod, ↓w_pow, ↓w_addL, ↓w_addT, ↓w_mulL, ↓w_gadd, ↓w_gsub, ↓w_lt, ↓w_le, ↓w_gt, ↓w_ge, ↓w_eq, ↓w_ne, ↓w_isNN, ↓w_revL, ↓w_revT, ↓w_abs, ↓w_int, ↓w_lenL, ↓w_lenT, ↓w_lenS, ↓w_tupL, ↓w_tupT, ↓w_lisL, ↓w_lisT, ↓w_min2, ↓w_max2, ↓w_app, ↓wq_rng1, ↓wq_rng2, ↓w_isNi, ↓w_isNt, ↓w_isNl, ↓w_isNd, ↓w_isNs, ↓w_isNb, ↓w_notNi, ↓w_notNt, ↓w_notNl, ↓w_notNd, ↓w_notNs, ↓w_notNb, ↓w_notNN, ↓w_isB, ↓w_notB, ↓w_intB, ↓w_zipL, ↓w_zipT, ↓w_inr1, ↓w_inr2, ↓w_tyN, ↓w_tyBi, ↓w_tyBb, ↓w_tyBs, ↓w_tyBt, ↓w_tyBl, ↓w_tyBd, ↓w_tyIi, ↓w_tyIb, ↓w_tyIs, ↓w_tyIt, ↓w_tyIl, ↓w_tyId, ↓w_tySi, ↓w_tySb, ↓w_tySs, ↓w_tySt, ↓w_tySl, ↓w_tySd, ↓w_tyTi, ↓w_tyTb, ↓w_tyTs, ↓w_tyTt, ↓w_tyTl, ↓w_tyTd, ↓w_tyLi, ↓w_tyLb, ↓w_tyLs, ↓w_tyLt, ↓w_tyLl, ↓w_tyLd, ↓w_it0, ↓w_it1, ↓w_it2, ↓w_it3, ↓w_it4, ↓w_it5, ↓w_l1, ↓w_l2, ↓w_l0, ↓wWi_nil, ↓wWi_cons, ↓wComp_map, ↓wComp_rng, ↓wComp_mapA, ↓wComp_rngA, ↓wOut_nx, ↓wOut_ret, ↓wOut_nx1, ↓wOut_ret1, ↓wOut_nx2, ↓wOut_ret2, ↓wDi_W, ↓wDm_W, ↓wDm2_W, ↓wD_A, ↓wD_D, ↓wD_S, ↓wD_N, ↓lp_nx, ↓lp_ct, ↓lp_brk, ↓lp_ret, ↓x_sum, ↓x_sumT, ↓x_all, ↓x_any, ↓x_eqT, ↓x_neT, ↓x_eqL, ↓x_neL, ↓x_inL, ↓x_inT, ↓wInn_row, List.length_cons, List.length_nil, Nat.reduceAdd, Nat.reduceLeDiff, true_and, if_true, if_false, eq_self, decide_true, decide_false, Bool.not_true, Bool.not_false, Bool.false_eq_true, $args,*])
theorem back_w (n : Nat) {row : List Int} {s t : Nat} (hr : row.length ≤ 100) (hs : 1 ≤ s) (ht : 1 ≤ t) (ht2 : t ≤ 100) {P : List Nat} (hl : P.length ≤ 100) (hP : ∀ p ∈ P, p < mny row.length s) (hok : OkP t 0 P) (Q) : wK (callN tab gls (n + 2) 2 [.tuple (P.map (pkD row s t)), natI s, natI t, natI (mny row.length s)]) Q = Q (pbD row (mny row.length s) P) [] := by
  refine wK_of (def_eq (def_run (F := d_put_back) (E := [.sh (.tuple (P.map (pkD row s t))), .sh (natI s), .sh (natI t), .sh (natI (mny row.length s)), .un, .un, .un, .un, .un, .un, .un]) rfl ⟨rfl, by decide, by decide⟩ rfl ?_)) Q
  unfold d_put_back
  have hm := mny_le (L := row.length) hs
  push_cast [List.length_nil]
  refine wFor_ok (fun i E => ∃ (s_number s_part s_place : Pv.Slot), (Fr s_number ∧ Fr s_part ∧ Fr s_place) ∧ E = [.sh (.tuple (P.map (pkD row s t))), .sh (natI s), .sh (natI t), .sh (natI (mny row.length s)), .ow (.dict (fdD row s ((P.take i).foldl ins []))), .sh (.int ((nearOf (P.take i) 0 : Nat) - 1)), s_number, s_part, s_place, .un, .un]) ⟨_, _, _, ⟨fr_un, fr_un, fr_un⟩, rfl⟩ (fun i x E hx hE => ?_) (fun E' hE => ?_)
  · obtain ⟨s_number, s_part, s_place, ⟨h_number, h_part, h_place⟩, rfl⟩ := hE
    obtain ⟨hi, rfl⟩ := getR (f := pkD row s t) hx
    have htk := List.take_succ_eq_append_getElem hi
    have hnp := okp_drop t P 0 i hi hok
    have hpl := hP _ (List.getElem_mem hi)
    have hln := insF_len (P.take i) []
    have htl : (P.take i).length ≤ 100 := by rw [List.length_take]; omega
    have hnl := near_le (M := mny row.length s) (P.take i) 0 (by omega) fun q hq => hP q (List.mem_of_mem_take hq)
    rw [htk, List.foldl_append, near_snoc]
    generalize P[i] = p at *
    generalize (P.take i).foldl ins [] = A at *
    generalize nearOf (P.take i) 0 = g at *
    rw [List.length_nil] at hln
    rw [show pkD row s t p = .tuple [natI (p % t), tuI (part row s p)] from rfl]
    push_cast [↓fr_Sv h_number, ↓fr_Sv h_part, ↓fr_Sv h_place]
    rw [show ((g : Int) - 1 + 1) = ((g : Nat) : Int) by omega]
    rw [near_w n ht, hnp]
    push_cast [↓fr_Sv h_place]
    rw [x_setF row s A (by omega) p]
    push_cast [List.length_nil]
    rw [show (if (p : Int) > (g : Int) - 1 then (p : Int) else (g : Int) - 1) = ((max g (p + 1) : Nat) : Int) - 1 by split <;> omega]
    exact ⟨_, _, _, ⟨fr_sh _, fr_sh _, fr_sh _⟩, rfl⟩
  obtain ⟨s_number, s_part, s_place, ⟨h_number, h_part, h_place⟩, rfl⟩ := hE
  rw [List.length_map, List.take_length]
  have hmem : ∀ q, q ∈ P.foldl ins [] ↔ q ∈ P := fun q => by rw [insF_mem]; simp
  generalize P.foldl ins [] = A at *
  generalize nearOf P 0 = g at *
  push_cast [List.length_nil]
  refine ⟨by omega, ?_⟩
  rw [Int.toNat_natCast, rngI_0]
  refine wComp_map (List.range (mny row.length s)) natI (fun p => !decide (p ∈ P)) natI (by rw [List.length_range]; omega) (fun p hp => ?_) ?_
  · push_cast [↓fr_Sv h_place]
    rw [x_notF row s A p, show decide (p ∈ A) = decide (p ∈ P) by rw [decide_eq_decide]; exact hmem p]
    push_cast [List.length_nil]
    exact ⟨fun _ => rfl, fun _ => rfl⟩
  have hll : (leftL (mny row.length s) P).length ≤ 100 := by
    have := List.length_filter_le (fun p => !decide (p ∈ P)) (List.range (mny row.length s))
    rw [List.length_range] at this
    unfold leftL; omega
  have hnil : ∀ p, p < mny row.length s → leftL (mny row.length s) P = [] → p ∈ A := fun p hp e => by
    unfold leftL at e
    rw [List.filter_eq_nil_iff] at e
    have := e p (List.mem_range.mpr hp)
    simp only [Bool.not_eq_true', decide_eq_false_iff_not, Classical.not_not] at this
    exact (hmem p).mpr this
  rw [show (List.range (mny row.length s)).filter (fun p => !decide (p ∈ P)) = leftL (mny row.length s) P from rfl]
  unfold pbD
  generalize leftL (mny row.length s) P = L at *
  push_cast [List.length_nil]
  rw [x_neU _ (okds_map natI 39 L fun _ _ => rfl)]
  cases L with
  | cons a L =>
    rw [if_neg (by simp)]
    push_cast [List.map_cons, List.isEmpty_cons]
    (first | done | exact ⟨rfl, trivial⟩ | exact ⟨rfl, rfl⟩ | rfl | trivial | exact ⟨fun _ => rfl, fun _ => rfl⟩ | exact ⟨rfl, fun _ => rfl, fun _ => rfl⟩ | exact ⟨trivial, fun _ => rfl, fun _ => rfl⟩ | exact fun _ => rfl)
  | nil =>
    rw [if_pos rfl]
    push_cast [List.map_nil, List.isEmpty_nil]
    refine ⟨by omega, ?_⟩
    rw [Int.toNat_natCast, rngI_0]
    have ee := parts_all row s hs
    refine wComp2_mapA (List.range (mny row.length s)) natI (fun k => (part row s k).map PyData.int) (by rw [List.length_range]; omega) (by rw [ee, List.length_map]; omega) (fun p hp => ?_) ?_
    · have hp := List.mem_range.mp hp
      push_cast [↓fr_Sv h_place]
      rw [x_itF row s A p (hnil p hp rfl)]
      push_cast [List.length_nil]
      rw [x_tkI _ _ _ s rfl rfl, show (part row s p).take s = part row s p by unfold part; rw [List.take_take, Nat.min_self]]
      have hpl : (part row s p).length ≤ 100 := by unfold part; rw [List.length_take, List.length_drop]; omega
      push_cast [List.length_nil]
      refine wCL_mapA (part row s p) PyData.int PyData.int (by omega) (fun p hp => ?_) ?_
      · push_cast [List.length_nil]
        first | exact ⟨rfl, rfl⟩ | rfl
      push_cast [List.length_nil]
      first | exact ⟨rfl, rfl⟩ | rfl
    rw [ee]
    push_cast [List.length_nil]
    (first | done | exact ⟨rfl, trivial⟩ | exact ⟨rfl, rfl⟩ | rfl | trivial | exact ⟨fun _ => rfl, fun _ => rfl⟩ | exact ⟨rfl, fun _ => rfl, fun _ => rfl⟩ | exact ⟨trivial, fun _ => rfl, fun _ => rfl⟩ | exact fun _ => rfl)
end LawP

set_option Elab.async false
set_option linter.all false
set_option maxRecDepth 100000
set_option maxHeartbeats 2000000
namespace LawP
open PySem Pv
local macro_rules
  | `(tactic| push_cast [$args,*]) => `(tactic| try simp only [↓wp_some, ↓wGet_z, ↓wGet_s, ↓wSet_z, ↓wSet_s, ↓wCt_sh, ↓wCt_ow, ↓wCt_io, ↓wG_val, ↓wG_bor, ↓wV_sh, ↓wV_ow, ↓wE_k, ↓wE_var, ↓wOv_sh, ↓wOv_ow, ↓wOv_io, ↓wO_var, ↓wO_k, ↓wO_glb, ↓wO_bin, ↓wO_neg, ↓wO_not, ↓wO_cmp, ↓wO_chain, ↓wO_chn3, ↓wO_and, ↓wO_or, ↓wO_ite, ↓wO_tup, ↓wO_lst, ↓wO_dctT, ↓wO_dct, ↓wO_idx, ↓wO_slc, ↓wO_call, ↓wO_blt, ↓wO_mth, ↓wO_upd, ↓wO_mut, ↓wO_rng, ↓wO_comp, ↓wO_callB, ↓wO_kys, ↓wO_fz, ↓wO_rev, ↓wO_lrg, ↓wO_lrs, ↓wO_lzp, ↓wO_trg, ↓wO_lix, ↓wO_cnt, ↓wO_srs, ↓wO_rgs, ↓wO_zip, ↓wO_inr, ↓wO_isi, ↓wO_comp2, ↓wE_bin, ↓wNeg_i, ↓wNot_b, ↓wE_neg, ↓wE_not, ↓wE_cmp, ↓wC_t, ↓wC_f, ↓wC_d, ↓wC_nd, ↓wE_chain, ↓wE_chn3, ↓wE_and, ↓wE_or, ↓wE_ite, ↓wEs_nil, ↓wEs_cons, ↓wOs_nil, ↓wOs_cons, ↓wLim_eq, ↓wE_tup, ↓wE_lst, ↓wE_dctT, ↓wE_dct, ↓wE_idx, ↓wE_slc, ↓wE_rev, ↓wMv_ow, ↓wMv_io, ↓wM_eq, ↓wPv_ow, ↓wPv_io, ↓wP_eq, ↓wMs_nil, ↓wMs_cons, ↓wPs_nil, ↓wPs_cons, ↓wA_nil, ↓wA_cons, ↓wE_call', ↓wLn_sh, ↓wLn_ow, ↓wLn_io, ↓wLns_nil, ↓wLns_cons, ↓wFl_int, ↓wFl_bool, ↓wFl_none, ↓wFl_str, ↓wE_callB', ↓wE_glb', ↓wTs_nil, ↓wTs_cons, ↓wE_blt, ↓wL_l, ↓wDm2_l, ↓wDm2_d, ↓wDm_l, ↓wDm_d, ↓wE_mth, ↓wE_lix, ↓wE_cnt, ↓wTd_t, ↓wE_upd, ↓wE_mut, ↓wE_kys, ↓wE_fz, ↓wE_rng, ↓wE_lrg, ↓wE_lrs, ↓wE_lzp, ↓wTr_l, ↓wE_trg, ↓wE_srs, ↓wE_rgs, ↓wE_zip, ↓wE_inr, ↓wE_isi, ↓wH_val, ↓wH_bor, ↓wI_l, ↓wI_t, ↓wE_comp, ↓wE_comp2, ↓wKo_nx, ↓wKo_ret, ↓wKo_brk, ↓wKo_ct, ↓wXs_nil, ↓wXs_cons, ↓wSv_un, ↓wSv_sh, ↓wSv_ow, ↓wSv_unT, ↓wSv_shT, ↓wSv_owT, ↓wS_eq, ↓wF_i, ↓wF_b, ↓wF_n, ↓wF_t, ↓wF_s, ↓wF_llst, ↓wF_lcmp, ↓wF_lrev, ↓wF_lslc, ↓wF_lbli, ↓wF_lsrs, ↓wF_lsrt, ↓wF_ladd, ↓wF_lmul, ↓wF_lcm2, ↓wF_llrg, ↓wF_llrs, ↓wF_llzp, ↓wF_lvar, ↓wF_lcal, ↓wF_lidx, ↓wF_lmut, ↓wF_lupd, ↓wF_lmth, ↓wF_liteV, ↓wF_liteK, ↓wF_liteI, ↓wF_liteC, ↓wF_liteM, ↓wF_liteS, ↓wF_liteT, ↓wF_liteB, ↓wF_liteN, ↓wF_liteG, ↓wF_liteLV, ↓wF_liteLK, ↓wF_liteLI, ↓wF_liteLC, ↓wF_liteLM, ↓wF_liteLS, ↓wF_liteLT, ↓wF_liteLB, ↓wF_liteLN, ↓wF_liteLG, ↓wF_liteLL, ↓wF_ddctT, ↓wF_ddct, ↓wF_dbld, ↓wF_dbldT, ↓wF_dvar, ↓wF_dcal, ↓wF_didx, ↓wX_asg, ↓wX_tup, ↓wAs_name, ↓wAs_tup, ↓wAs_tupL, ↓wAss_nil, ↓wAss_cons, ↓wPar_nil, ↓wPar_cons, ↓wX_par, ↓wX_aug, ↓wX_augS, ↓wX_setS, ↓w_ii2, ↓w_lsM, ↓wX_parS, ↓wX_exp, ↓wX_ret, ↓wX_ite, ↓wX_for, ↓wX_while, ↓wX_brk, ↓wX_ct, ↓wX_pass, ↓w_add, ↓w_sub, ↓w_mul, ↓w_fdiv, ↓w_mod, ↓w_pow, ↓w_addL, ↓w_addT, ↓w_mulL, ↓w_gadd, ↓w_gsub, ↓w_lt, ↓w_le, ↓w_gt, ↓w_ge, ↓w_eq, ↓w_ne, ↓w_isNN, ↓w_revL, ↓w_revT, ↓w_abs, ↓w_int, ↓w_lenL, ↓w_lenT, ↓w_lenS, ↓w_tupL, ↓w_tupT, ↓w_lisL, ↓w_lisT, ↓w_min2, ↓w_max2, ↓w_app, ↓wq_rng1, ↓wq_rng2, ↓w_isNi, ↓w_isNt, ↓w_isNl, ↓w_isNd, ↓w_isNs, ↓w_isNb, ↓w_notNi, ↓w_notNt, ↓w_notNl, ↓w_notNd, ↓w_notNs, ↓w_notNb, ↓w_notNN, ↓w_isB, ↓w_notB, ↓w_intB, ↓w_zipL, ↓w_zipT, ↓w_inr1, ↓w_inr2, ↓w_tyN, ↓w_tyBi, ↓w_tyBb, ↓w_tyBs, ↓w_tyBt, ↓w_tyBl, ↓w_tyBd, ↓w_tyIi, ↓w_tyIb, ↓w_tyIs, ↓w_tyIt, ↓w_tyIl, ↓w_tyId, ↓w_tySi, ↓w_tySb, ↓w_tySs, ↓w_tySt, ↓w_tySl, ↓w_tySd, ↓w_tyTi, ↓w_tyTb, ↓w_tyTs, ↓w_tyTt, ↓w_tyTl, ↓w_tyTd, ↓w_tyLi, ↓w_tyLb, ↓w_tyLs, ↓w_tyLt, ↓w_tyLl, ↓w_tyLd, ↓w_it0, ↓w_it1, ↓w_it2, ↓w_it3, ↓w_it4, ↓w_it5, ↓w_l1, ↓w_l2, ↓w_l0, ↓wWi_nil, ↓wWi_cons, ↓wComp_map, ↓wComp_rng, ↓wComp_mapA, ↓wComp_rngA, ↓wOut_nx, ↓wOut_ret, ↓wOut_nx1, ↓wOut_ret1, ↓wOut_nx2, ↓wOut_ret2, ↓wDi_W, ↓wDm_W, ↓wDm2_W, ↓wD_A, ↓wD_D, ↓wD_S, ↓wD_N, ↓lp_nx, ↓lp_ct, ↓lp_brk, ↓lp_ret, ↓x_sum, ↓x_sumT, ↓x_all, ↓x_any, ↓x_eqT, ↓x_neT, ↓x_eqL, ↓x_neL, ↓x_inL, ↓x_inT, ↓wInn_row, List.length_cons, List.length_nil, Nat.reduceAdd, Nat.reduceLeDiff, true_and, if_true, if_false, eq_self, decide_true, decide_false, Bool.not_true, Bool.not_false, Bool.false_eq_true, $args,*])
/-! spans of missing places -/
def prD (q : Nat × Nat) : D := .tuple [natI q.1, natI q.2]
def spn (F : List (Nat × Nat)) (p : Nat) : List (Nat × Nat) := match F.getLast? with
  | some q => if q.2 = p then F.dropLast ++ [(q.1, p + 1)] else F ++ [(p, p + 1)]
  | none => [(p, p + 1)]
theorem spn_nil (p : Nat) : spn [] p = [(p, p + 1)] := rfl
theorem spn_snoc (F : List (Nat × Nat)) (q : Nat × Nat) (p : Nat) : spn (F ++ [q]) p = if q.2 = p then F ++ [(q.1, p + 1)] else F ++ [q] ++ [(p, p + 1)] := by
  unfold spn
  rw [List.getLast?_concat, List.dropLast_concat]
theorem spn_len (F : List (Nat × Nat)) (p : Nat) : (spn F p).length ≤ F.length + 1 := by
  rcases List.eq_nil_or_concat F with rfl | ⟨F, q, rfl⟩
  · simp [spn_nil]
  · rw [List.concat_eq_append, spn_snoc]
    split <;> simp
theorem spns_len : ∀ (P : List Nat) (F : List (Nat × Nat)), (P.foldl spn F).length ≤ F.length + P.length
  | [], F => by simp
  | p :: P, F => by
    have h1 := spns_len P (spn F p)
    have h2 := spn_len F p
    rw [List.foldl_cons, List.length_cons]; omega
theorem at_m1 (n : Nat) : at? (n + 1) (-1) = some n := by
  unfold at?
  rw [if_neg (by omega), if_pos (by omega)]
  congr 1; omega
theorem x_lst1 (xs : List D) (x : D) (Q) : wp (item (.list (xs ++ [x])) (.int (-1))) Q = Q x := w_itL _ _ xs.length _ _ (by rw [List.length_append, List.length_singleton]; exact at_m1 _) (by simp)
theorem x_setL1 (xs : List D) (x v : D) (Q) : wp (setItem (.list (xs ++ [x])) (.int (-1)) v) Q = Q (.list (xs ++ [v])) := wp_of (by
  show (at? (xs ++ [x]).length (-1)).map (fun j => PyData.list ((xs ++ [x]).set j v)) = _
  rw [List.length_append, List.length_singleton, at_m1]
  show some (PyData.list ((xs ++ [x]).set xs.length v)) = _
  rw [List.set_append_right _ _ (Nat.le_refl _), Nat.sub_self]; rfl)
theorem x_dl1 (xs : List D) (x : D) (ir : IR) (h : noneK ir = false) (Q) : wp (optX (.k .none) .none) (fun l => wp (optX ir (.int (-1))) fun h => wp (slice (.list (xs ++ [x])) l h) Q) = Q (.list xs) := by
  rw [optX_i ir h]
  simp only [optX, wp_some, slice]
  have e1 : cut (xs ++ [x]) none (some (-1)) = xs := by
    unfold cut
    show ((xs ++ [x]).drop 0).take (sIx (xs ++ [x]).length (xs ++ [x]).length (some (-1)) - 0) = xs
    have : sIx (xs ++ [x]).length (xs ++ [x]).length (some (-1)) = xs.length := by
      show (if (-1 : Int) < 0 then ((-1 : Int) + ((xs ++ [x]).length : Nat)).toNat else min (-1 : Int).toNat (xs ++ [x]).length) = _
      rw [if_pos (by omega), List.length_append, List.length_singleton]; omega
    rw [this, List.drop_zero, Nat.sub_zero, List.take_left]
  rw [e1]
theorem ne_snoc (xs : List D) (x : D) (h : okds (xs ++ [x]) 39 = true) (Q) : wp (cmpop .ne (.list (xs ++ [x])) (.list [])) Q = Q true := by
  rw [x_neN _ h, show (xs ++ [x]).isEmpty = false by cases xs <;> rfl]; rfl
theorem okds_app (n : Nat) : ∀ (a b : List D), okds (a ++ b) n = (okds a n && okds b n)
  | [], b => by rw [List.nil_append, okds, Bool.true_and]
  | x :: a, b => by rw [List.cons_append, okds, okds, okds_app n a b, Bool.and_assoc]
theorem ok_pr (F : List (Nat × Nat)) : okds (F.map prD) 39 = true := okds_map prD 39 F fun _ _ => rfl
theorem spans_w (n : Nat) {P : List Nat} (hl : P.length ≤ 100) (Q) : wK (callN tab gls (n + 1) 3 [.tuple (P.map natI)]) Q = Q (.tuple ((P.foldl spn []).map prD)) [] := by
  refine wK_of (def_eq (def_run (F := d_missing_spans) (E := [.sh (.tuple (P.map natI)), .un, .un]) rfl ⟨rfl, by decide, by decide⟩ rfl ?_)) Q
  unfold d_missing_spans
  push_cast [List.length_nil]
  refine wFor_ok (fun i E => ∃ (s_place : Pv.Slot), Fr s_place ∧ E = [.sh (.tuple (P.map natI)), .ow (.list (((P.take i).foldl spn []).map prD)), s_place]) ⟨_, fr_un, rfl⟩ (fun i x E hx hE => ?_) (fun E' hE => ?_)
  · obtain ⟨s_place, h_place, rfl⟩ := hE
    obtain ⟨hi, rfl⟩ := getR (f := natI) hx
    have htk := List.take_succ_eq_append_getElem hi
    have hln := spns_len (P.take i) []
    have htl : (P.take i).length ≤ 100 := by rw [List.length_take]; omega
    rw [htk, List.foldl_append]
    generalize P[i] = p at *
    generalize (P.take i).foldl spn [] = F at *
    rw [List.length_nil] at hln
    show _
    rw [show List.foldl spn F [p] = spn F p from rfl]
    rcases List.eq_nil_or_concat F with rfl | ⟨F, q, rfl⟩
    · push_cast [↓fr_Sv h_place, List.map_nil]
      rw [x_neN _ rfl]
      push_cast [List.isEmpty_nil]
      refine ⟨by omega, .sh (natI p), fr_sh _, ?_⟩
      rw [spn_nil]; rfl
    · rw [List.concat_eq_append] at hln ⊢
      rw [spn_snoc, List.map_append, List.map_cons, List.map_nil]
      have ok : okds (F.map prD ++ [prD q]) 39 = true := by rw [okds_app, ok_pr]; rfl
      push_cast [↓fr_Sv h_place]
      rw [ne_snoc _ _ ok]
      push_cast [List.length_nil]
      rw [x_lst1]
      push_cast [List.length_nil]
      rw [show prD q = .tuple [natI q.1, natI q.2] from rfl]
      push_cast [List.length_nil]
      by_cases e : q.2 = p
      · rw [if_pos (show ((q.2 : Nat) : Int) = (p : Int) by omega), if_pos e]
        rw [x_lst1]
        push_cast [List.length_nil]
        rw [x_setL1]
        push_cast [List.length_nil]
        refine ⟨.sh (natI p), fr_sh _, ?_⟩
        rw [List.map_append]; rfl
      · rw [if_neg (show ¬ ((q.2 : Nat) : Int) = (p : Int) by omega), if_neg e]
        refine ⟨by rw [List.length_append, List.length_map] at *; simp at hln ⊢; omega, .sh (natI p), fr_sh _, ?_⟩
        rw [List.map_append, List.map_append]; rfl
  obtain ⟨s_place, h_place, rfl⟩ := hE
  rw [List.length_map, List.take_length]
  push_cast [List.length_nil]
  (first | done | exact ⟨rfl, trivial⟩ | exact ⟨rfl, rfl⟩ | rfl | trivial | exact ⟨fun _ => rfl, fun _ => rfl⟩ | exact ⟨rfl, fun _ => rfl, fun _ => rfl⟩ | exact ⟨trivial, fun _ => rfl, fun _ => rfl⟩ | exact fun _ => rfl)
/-! rounds -/
def lb (M : List Nat) : List (List Nat) → List Nat
  | [] => []
  | l :: r => (M.filter fun p => decide (p ∈ l)).length :: if M.filter (fun p => decide (p ∈ l)) = [] then [] else lb (M.filter fun p => decide (p ∈ l)) r
def lr (M : List Nat) (k sent : Nat) : List (List Nat) → Option (Nat × Nat)
  | [] => none
  | l :: r => if M.filter (fun p => decide (p ∈ l)) = [] then some (k + 1, sent + M.length) else lr (M.filter fun p => decide (p ∈ l)) (k + 1) (sent + M.length) r
theorem lr_lb : ∀ (Ls : List (List Nat)) (M : List Nat) (k sent : Nat), lr M k sent Ls = if (lb M Ls).getLast? = some 0 then some (k + (lb M Ls).length, sent + M.length + (lb M Ls).dropLast.sum) else none
  | [], _, _, _ => rfl
  | l :: r, M, k, sent => by
    rw [lr, lb]
    by_cases h : M.filter (fun p => decide (p ∈ l)) = []
    · rw [if_pos h, if_pos h, h]; rfl
    · rw [if_neg h, if_neg h, lr_lb r]
      generalize M.filter (fun p => decide (p ∈ l)) = M' at *
      have hz : M'.length ≠ 0 := fun z => h (List.length_eq_zero_iff.mp z)
      cases hb : lb M' r with
      | nil =>
        rw [if_neg (by simp), if_neg (by simpa using hz)]
      | cons a t =>
        rw [List.getLast?_cons_cons, List.dropLast_cons_cons]
        split
        · simp only [List.length_cons, List.sum_cons]
          congr 2 <;> omega
        · rfl
theorem lb_len : ∀ (Ls : List (List Nat)) (M : List Nat), (lb M Ls).length ≤ Ls.length
  | [], _ => Nat.le_refl _
  | l :: r, M => by
    rw [lb]
    split
    · simp
    · have := lb_len r (M.filter fun p => decide (p ∈ l))
      simp; omega
abbrev lsD (Ls : List (List Nat)) : D := .tuple (Ls.map fun l => .tuple (l.map natI))
theorem any_nat (p : Nat) (l : List Nat) : ((l.map natI).any fun z => PyData.eqv z (natI p)) = decide (p ∈ l) := by
  rw [List.any_map, Bool.eq_iff_iff, List.any_eq_true, decide_eq_true_eq]
  have e : ∀ q : Nat, PyData.eqv (natI q) (natI p) = decide (q = p) := fun q => by
    rw [eqv_int, decide_eq_decide]; omega
  constructor
  · rintro ⟨q, hq, h⟩
    have h : PyData.eqv (natI q) (natI p) = true := h
    rw [e, decide_eq_true_eq] at h
    rw [← h]; exact hq
  · intro h
    exact ⟨p, h, by show PyData.eqv (natI p) (natI p) = true; rw [e]; simp⟩
theorem x_inNT (p : Nat) (l : List Nat) (Q) : wp (cmpop .isin (natI p) (.tuple (l.map natI))) Q = Q (decide (p ∈ l)) := wp_of (by
  show (if okD (natI p) && okD (.tuple (l.map natI)) then some ((l.map natI).any fun z => PyData.eqv z (natI p)) else none) = _
  rw [show okD (natI p) = true from rfl, show okD (.tuple (l.map natI)) = true from okds_map natI 39 l fun _ _ => rfl, any_nat]; rfl)
theorem left_w (n : Nat) {many : Nat} (hm : many ≤ 100) {Ls : List (List Nat)} (hl : Ls.length ≤ 100) (Q) : wK (callN tab gls (n + 1) 4 [natI many, lsD Ls]) Q = Q (.list ((lb (List.range many) Ls).map natI)) [] := by
  refine wK_of (def_eq (def_run (F := d_left_by) (E := [.sh (natI many), .sh (lsD Ls), .un, .un, .un, .un]) rfl ⟨rfl, by decide, by decide⟩ rfl ?_)) Q
  unfold d_left_by
  push_cast [List.length_nil]
  rw [Int.toNat_natCast, rngI_0]
  refine ⟨by omega, ?_⟩
  refine wFor_ok (fun i E => ∃ (M F : List Nat) (s_lost : Pv.Slot), Fr s_lost ∧ F ++ lb M (Ls.drop i) = lb (List.range many) Ls ∧ M.length ≤ 100 ∧ F.length ≤ i ∧ E = [.sh (natI many), .sh (lsD Ls), .ow (.list (M.map natI)), .ow (.list (F.map natI)), s_lost, .un]) ⟨List.range many, [], _, fr_un, by rw [List.drop_zero]; rfl, by rw [List.length_range]; omega, Nat.le_refl _, rfl⟩ (fun i x E hx hE => ?_) (fun E' hE => ?_)
  · obtain ⟨M, F, s_lost, h_lost, he, hM, hF, rfl⟩ := hE
    obtain ⟨hi, rfl⟩ := getR (f := fun l : List Nat => PyData.tuple (l.map natI)) hx
    rw [List.drop_eq_getElem_cons hi, lb] at he
    generalize Ls[i] = l at *
    have hM' := List.length_filter_le (fun p => decide (p ∈ l)) M
    push_cast [↓fr_Sv h_lost]
    refine wComp_map M natI (fun p => decide (p ∈ l)) natI (by omega) (fun p hp => ?_) ?_
    · push_cast [↓fr_Sv h_lost, x_inNT]
      exact ⟨fun _ => rfl, fun _ => rfl⟩
    generalize M.filter (fun p => decide (p ∈ l)) = M' at *
    push_cast [List.length_nil]
    rw [List.length_map, List.length_map]
    refine ⟨by omega, ?_⟩
    rw [x_eqN _ (okds_map natI 39 M' fun _ _ => rfl)]
    have ea : PyData.list (F.map natI ++ [natI M'.length]) = .list ((F ++ [M'.length]).map natI) := by rw [List.map_append]; rfl
    cases M' with
    | nil =>
      rw [if_pos rfl] at he
      push_cast [List.map_nil, List.isEmpty_nil]
      refine ⟨?_, trivial⟩
      rw [← he, List.map_append]
      rfl
    | cons a t =>
      rw [if_neg (by simp)] at he
      push_cast [List.map_cons, List.isEmpty_cons]
      refine ⟨a :: t, F ++ [(a :: t).length], .sh (.tuple (l.map natI)), fr_sh _, ?_, by omega, by simp; omega, ?_⟩
      · rw [← he, List.append_assoc]; rfl
      · rw [← ea]; rfl
  obtain ⟨M, F, s_lost, h_lost, he, hM, hF, rfl⟩ := hE
  rw [List.length_map, List.drop_length, lb, List.append_nil] at he
  rw [← he]
  push_cast [List.length_nil]
  (first | done | exact ⟨rfl, trivial⟩ | exact ⟨rfl, rfl⟩ | rfl | trivial | exact ⟨fun _ => rfl, fun _ => rfl⟩ | exact ⟨rfl, fun _ => rfl, fun _ => rfl⟩ | exact ⟨trivial, fun _ => rfl, fun _ => rfl⟩ | exact fun _ => rfl)
def rdD (L : List Nat) : D := if L.getLast? = some 0 then natI L.length else .none
theorem rounds_w (n : Nat) {many : Nat} (hm : many ≤ 100) {Ls : List (List Nat)} (hl : Ls.length ≤ 100) (Q) : wK (callN tab gls (n + 2) 5 [natI many, lsD Ls]) Q = Q (rdD (lb (List.range many) Ls)) [] := by
  refine wK_of (def_eq (def_run (F := d_rounds_for) (E := [.sh (natI many), .sh (lsD Ls), .un]) rfl ⟨rfl, by decide, by decide⟩ rfl ?_)) Q
  unfold d_rounds_for
  have hle := lb_len Ls (List.range many)
  push_cast [List.length_nil]
  rw [left_w n hm hl]
  generalize lb (List.range many) Ls = L at *
  unfold rdD
  rcases List.eq_nil_or_concat L with rfl | ⟨L, a, rfl⟩
  · push_cast [List.map_nil]
    rw [x_neN _ rfl]
    push_cast [List.isEmpty_nil]
    (first | done | exact ⟨rfl, trivial⟩ | exact ⟨rfl, rfl⟩ | rfl | trivial | exact ⟨fun _ => rfl, fun _ => rfl⟩ | exact ⟨rfl, fun _ => rfl, fun _ => rfl⟩ | exact ⟨trivial, fun _ => rfl, fun _ => rfl⟩ | exact fun _ => rfl)
  · rw [List.concat_eq_append, List.getLast?_concat, List.map_append, List.map_cons, List.map_nil]
    push_cast [List.length_nil]
    rw [ne_snoc _ _ (by rw [okds_app, okds_map natI 39 L fun _ _ => rfl]; rfl)]
    push_cast [List.length_nil]
    rw [x_lst1]
    push_cast [List.length_nil]
    by_cases e : a = 0
    · subst e
      rw [if_pos (show ((0 : Nat) : Int) = 0 from rfl), if_pos (show some 0 = some 0 from rfl)]
      refine ⟨?_, trivial⟩
      show PyData.int (((L.map natI ++ [natI 0]).length : Nat) : Int) = PyData.int (((L ++ [0]).length : Nat) : Int)
      rw [List.length_append, List.length_append, List.length_map]; rfl
    · rw [if_neg (show ¬ (a : Int) = 0 by omega), if_neg (show ¬ (some a = some 0) by simpa using e)]
      exact ⟨rfl, trivial⟩
def snN (L : List Nat) : Nat := if L.getLast? = some 0 then L.dropLast.sum else L.sum
theorem sum_nat : ∀ L : List Nat, ((L.map fun k : Nat => (k : Int)).sum) = ((L.sum : Nat) : Int)
  | [] => rfl
  | a :: r => by rw [List.map_cons, List.sum_cons, List.sum_cons, sum_nat r, Int.natCast_add]
theorem x_sumN (L : List Nat) (Q) : wp (bltop .sum [.list (L.map natI)]) Q = Q (natI L.sum) := by
  rw [show PyData.list (L.map natI) = liI (L.map fun k : Nat => (k : Int)) by unfold liI; rw [List.map_map]; rfl, x_sum, sum_nat]
theorem sent_w (n : Nat) {many : Nat} (hm : many ≤ 100) {Ls : List (List Nat)} (hl : Ls.length ≤ 100) (Q) : wK (callN tab gls (n + 2) 6 [natI many, lsD Ls]) Q = Q (natI (many + snN (lb (List.range many) Ls))) [] := by
  refine wK_of (def_eq (def_run (F := d_sent_in_all) (E := [.sh (natI many), .sh (lsD Ls), .un]) rfl ⟨rfl, by decide, by decide⟩ rfl ?_)) Q
  unfold d_sent_in_all
  have hle := lb_len Ls (List.range many)
  push_cast [List.length_nil]
  rw [left_w n hm hl]
  generalize lb (List.range many) Ls = L at *
  unfold snN
  rcases List.eq_nil_or_concat L with rfl | ⟨L, a, rfl⟩
  · push_cast [List.map_nil]
    rw [x_neN _ rfl]
    push_cast [List.isEmpty_nil]
    rw [show PyData.list [] = .list (([] : List Nat).map natI) from rfl, x_sumN]
    push_cast [List.length_nil]
    exact ⟨rfl, trivial⟩
  · rw [List.concat_eq_append, List.getLast?_concat, List.dropLast_concat]
    by_cases e : a = 0
    · subst e
      rw [if_pos (show some 0 = some 0 from rfl), List.map_append, List.map_cons, List.map_nil]
      push_cast [List.length_nil]
      rw [ne_snoc _ _ (by rw [okds_app, okds_map natI 39 L fun _ _ => rfl]; rfl)]
      push_cast [List.length_nil]
      rw [x_lst1]
      push_cast [List.length_nil]
      rw [if_pos (show ((0 : Nat) : Int) = 0 from rfl), x_dl1 _ _ _ rfl, x_sumN]
      push_cast [List.length_nil]
      (first | done | exact ⟨rfl, trivial⟩ | exact ⟨rfl, rfl⟩ | rfl | trivial | exact ⟨fun _ => rfl, fun _ => rfl⟩ | exact ⟨rfl, fun _ => rfl, fun _ => rfl⟩ | exact ⟨trivial, fun _ => rfl, fun _ => rfl⟩ | exact fun _ => rfl)
    · rw [if_neg (show ¬ (some a = some 0) by simpa using e)]
      rw [show PyData.list ((L ++ [a]).map natI) = .list (L.map natI ++ [natI a]) by rw [List.map_append]; rfl]
      push_cast [List.length_nil]
      rw [ne_snoc _ _ (by rw [okds_app, okds_map natI 39 L fun _ _ => rfl]; rfl)]
      push_cast [List.length_nil]
      rw [x_lst1]
      push_cast [List.length_nil]
      rw [if_neg (show ¬ (a : Int) = 0 by omega)]
      rw [show PyData.list (L.map natI ++ [natI a]) = .list ((L ++ [a]).map natI) by rw [List.map_append]; rfl, x_sumN]
      push_cast [List.length_nil]
      (first | done | exact ⟨rfl, trivial⟩ | exact ⟨rfl, rfl⟩ | rfl | trivial | exact ⟨fun _ => rfl, fun _ => rfl⟩ | exact ⟨rfl, fun _ => rfl, fun _ => rfl⟩ | exact ⟨trivial, fun _ => rfl, fun _ => rfl⟩ | exact fun _ => rfl)
def lrD : Option (Nat × Nat) → D
  | none => .none
  | some q => prD q
theorem lrounds_w (n : Nat) {many : Nat} (hm : many ≤ 100) {Ls : List (List Nat)} (hl : Ls.length ≤ 100) (Q) : wK (callN tab gls (n + 1) 14 [natI many, lsD Ls]) Q = Q (lrD (lr (List.range many) 0 0 Ls)) [] := by
  refine wK_of (def_eq (def_run (F := d__law_rounds) (E := [.sh (natI many), .sh (lsD Ls), .un, .un, .un, .un]) rfl ⟨rfl, by decide, by decide⟩ rfl ?_)) Q
  unfold d__law_rounds
  push_cast [List.length_nil]
  rw [Int.toNat_natCast, rngI_0, Int.toNat_natCast, rngI_0, List.length_map]
  refine ⟨by omega, by omega, ?_⟩
  refine wFor_ok (fun i E => ∃ (M : List Nat) (sent : Nat) (s_k : Pv.Slot), Fr s_k ∧ lr M i sent (Ls.drop i) = lr (List.range many) 0 0 Ls ∧ M.length ≤ 100 ∧ E = [.sh (natI many), .sh (lsD Ls), .ow (.list (M.map natI)), .sh (natI sent), s_k, .un]) ⟨List.range many, 0, _, fr_un, by rw [List.drop_zero], by rw [List.length_range]; omega, rfl⟩ (fun i x E hx hE => ?_) (fun E' hE => ?_)
  · obtain ⟨M, sent, s_k, h_k, he, hM, rfl⟩ := hE
    obtain ⟨hi', rfl⟩ := getR (f := fun i : Nat => PyData.int (i : Int)) hx
    rw [List.getElem_range]
    have hi : i < Ls.length := by rw [List.length_range] at hi'; exact hi'
    rw [List.drop_eq_getElem_cons hi, lr] at he
    have hg : ∀ Q, wp (item (lsD Ls) (.int (i : Int))) Q = Q (.tuple (Ls[i].map natI)) := fun Q => w_itT _ _ i _ _ (at_nat rfl (by rw [List.length_map]; exact hi)) (by rw [List.getElem?_map, List.getElem?_eq_getElem hi]; rfl)
    generalize Ls[i] = l at *
    have hM' := List.length_filter_le (fun p => decide (p ∈ l)) M
    push_cast [↓fr_Sv h_k]
    refine wComp_map M natI (fun p => decide (p ∈ l)) natI (by omega) (fun p hp => ?_) ?_
    · push_cast [List.length_nil]
      rw [hg]
      push_cast [x_inNT]
      exact ⟨fun _ => rfl, fun _ => rfl⟩
    generalize M.filter (fun p => decide (p ∈ l)) = M' at *
    push_cast [List.length_nil]
    rw [x_eqN _ (okds_map natI 39 M' fun _ _ => rfl)]
    rw [List.length_map]
    cases M' with
    | nil =>
      rw [if_pos rfl] at he
      push_cast [List.map_nil, List.isEmpty_nil]
      rw [← he]
      (first | done | exact ⟨rfl, trivial⟩ | exact ⟨rfl, rfl⟩ | rfl | trivial | exact ⟨fun _ => rfl, fun _ => rfl⟩ | exact ⟨rfl, fun _ => rfl, fun _ => rfl⟩ | exact ⟨trivial, fun _ => rfl, fun _ => rfl⟩ | exact fun _ => rfl)
    | cons a t =>
      rw [if_neg (by simp)] at he
      push_cast [List.map_cons, List.isEmpty_cons]
      exact ⟨a :: t, sent + M.length, .sh (natI i), fr_sh _, he, by omega, rfl⟩
  obtain ⟨M, sent, s_k, h_k, he, hM, rfl⟩ := hE
  rw [List.length_map, List.length_range, List.drop_length, lr] at he
  rw [← he]
  push_cast [List.length_nil]
  (first | done | exact ⟨rfl, trivial⟩ | exact ⟨rfl, rfl⟩ | rfl | trivial | exact ⟨fun _ => rfl, fun _ => rfl⟩ | exact ⟨rfl, fun _ => rfl, fun _ => rfl⟩ | exact ⟨trivial, fun _ => rfl, fun _ => rfl⟩ | exact fun _ => rfl)
end LawP

set_option Elab.async false
set_option linter.all false
set_option maxRecDepth 100000
set_option maxHeartbeats 2000000
namespace LawP
open PySem Pv
local macro_rules
  | `(tactic| push_cast [$args,*]) => `(tactic| try simp only [↓wp_some, ↓wGet_z, ↓wGet_s, ↓wSet_z, ↓wSet_s, ↓wCt_sh, ↓wCt_ow, ↓wCt_io, ↓wG_val, ↓wG_bor, ↓wV_sh, ↓wV_ow, ↓wE_k, ↓wE_var, ↓wOv_sh, ↓wOv_ow, ↓wOv_io, ↓wO_var, ↓wO_k, ↓wO_glb, ↓wO_bin, ↓wO_neg, ↓wO_not, ↓wO_cmp, ↓wO_chain, ↓wO_chn3, ↓wO_and, ↓wO_or, ↓wO_ite, ↓wO_tup, ↓wO_lst, ↓wO_dctT, ↓wO_dct, ↓wO_idx, ↓wO_slc, ↓wO_call, ↓wO_blt, ↓wO_mth, ↓wO_upd, ↓wO_mut, ↓wO_rng, ↓wO_comp, ↓wO_callB, ↓wO_kys, ↓wO_fz, ↓wO_rev, ↓wO_lrg, ↓wO_lrs, ↓wO_lzp, ↓wO_trg, ↓wO_lix, ↓wO_cnt, ↓wO_srs, ↓wO_rgs, ↓wO_zip, ↓wO_inr, ↓wO_isi, ↓wO_comp2, ↓wE_bin, ↓wNeg_i, ↓wNot_b, ↓wE_neg, ↓wE_not, ↓wE_cmp, ↓wC_t, ↓wC_f, ↓wC_d, ↓wC_nd, ↓wE_chain, ↓wE_chn3, ↓wE_and, ↓wE_or, ↓wE_ite, ↓wEs_nil, ↓wEs_cons, ↓wOs_nil, ↓wOs_cons, ↓wLim_eq, ↓wE_tup, ↓wE_lst, ↓wE_dctT, ↓wE_dct, ↓wE_idx, ↓wE_slc, ↓wE_rev, ↓wMv_ow, ↓wMv_io, ↓wM_eq, ↓wPv_ow, ↓wPv_io, ↓wP_eq, ↓wMs_nil, ↓wMs_cons, ↓wPs_nil, ↓wPs_cons, ↓wA_nil, ↓wA_cons, ↓wE_call', ↓wLn_sh, ↓wLn_ow, ↓wLn_io, ↓wLns_nil, ↓wLns_cons, ↓wFl_int, ↓wFl_bool, ↓wFl_none, ↓wFl_str, ↓wE_callB', ↓wE_glb', ↓wTs_nil, ↓wTs_cons, ↓wE_blt, ↓wL_l, ↓wDm2_l, ↓wDm2_d, ↓wDm_l, ↓wDm_d, ↓wE_mth, ↓wE_lix, ↓wE_cnt, ↓wTd_t, ↓wE_upd, ↓wE_mut, ↓wE_kys, ↓wE_fz, ↓wE_rng, ↓wE_lrg, ↓wE_lrs, ↓wE_lzp, ↓wTr_l, ↓wE_trg, ↓wE_srs, ↓wE_rgs, ↓wE_zip, ↓wE_inr, ↓wE_isi, ↓wH_val, ↓wH_bor, ↓wI_l, ↓wI_t, ↓wE_comp, ↓wE_comp2, ↓wKo_nx, ↓wKo_ret, ↓wKo_brk, ↓wKo_ct, ↓wXs_nil, ↓wXs_cons, ↓wSv_un, ↓wSv_sh, ↓wSv_ow, ↓wSv_unT, ↓wSv_shT, ↓wSv_owT, ↓wS_eq, ↓wF_i, ↓wF_b, ↓wF_n, ↓wF_t, ↓wF_s, ↓wF_llst, ↓wF_lcmp, ↓wF_lrev, ↓wF_lslc, ↓wF_lbli, ↓wF_lsrs, ↓wF_lsrt, ↓wF_ladd, ↓wF_lmul, ↓wF_lcm2, ↓wF_llrg, ↓wF_llrs, ↓wF_llzp, ↓wF_lvar, ↓wF_lcal, ↓wF_lidx, ↓wF_lmut, ↓wF_lupd, ↓wF_lmth, ↓wF_liteV, ↓wF_liteK, ↓wF_liteI, ↓wF_liteC, ↓wF_liteM, ↓wF_liteS, ↓wF_liteT, ↓wF_liteB, ↓wF_liteN, ↓wF_liteG, ↓wF_liteLV, ↓wF_liteLK, ↓wF_liteLI, ↓wF_liteLC, ↓wF_liteLM, ↓wF_liteLS, ↓wF_liteLT, ↓wF_liteLB, ↓wF_liteLN, ↓wF_liteLG, ↓wF_liteLL, ↓wF_ddctT, ↓wF_ddct, ↓wF_dbld, ↓wF_dbldT, ↓wF_dvar, ↓wF_dcal, ↓wF_didx, ↓wX_asg, ↓wX_tup, ↓wAs_name, ↓wAs_tup, ↓wAs_tupL, ↓wAss_nil, ↓wAss_cons, ↓wPar_nil, ↓wPar_cons, ↓wX_par, ↓wX_aug, ↓wX_augS, ↓wX_setS, ↓w_ii2, ↓w_lsM, ↓wX_parS, ↓wX_exp, ↓wX_ret, ↓wX_ite, ↓wX_for, ↓wX_while, ↓wX_brk, ↓wX_ct, ↓wX_pass, ↓w_add, ↓w_sub, ↓w_mul, ↓w_fdiv, ↓w_mod, ↓w_pow, ↓w_addL, ↓w_addT, ↓w_mulL, ↓w_gadd, ↓w_gsub, ↓w_lt, ↓w_le, ↓w_gt, ↓w_ge, ↓w_eq, ↓w_ne, ↓w_isNN, ↓w_revL, ↓w_revT, ↓w_abs, ↓w_int, ↓w_lenL, ↓w_lenT, ↓w_lenS, ↓w_tupL, ↓w_tupT, ↓w_lisL, ↓w_lisT, ↓w_min2, ↓w_max2, ↓w_app, ↓wq_rng1, ↓wq_rng2, ↓w_isNi, ↓w_isNt, ↓w_isNl, ↓w_isNd, ↓w_isNs, ↓w_isNb, ↓w_notNi, ↓w_notNt, ↓w_notNl, ↓w_notNd, ↓w_notNs, ↓w_notNb, ↓w_notNN, ↓w_isB, ↓w_notB, ↓w_intB, ↓w_zipL, ↓w_zipT, ↓w_inr1, ↓w_inr2, ↓w_tyN, ↓w_tyBi, ↓w_tyBb, ↓w_tyBs, ↓w_tyBt, ↓w_tyBl, ↓w_tyBd, ↓w_tyIi, ↓w_tyIb, ↓w_tyIs, ↓w_tyIt, ↓w_tyIl, ↓w_tyId, ↓w_tySi, ↓w_tySb, ↓w_tySs, ↓w_tySt, ↓w_tySl, ↓w_tySd, ↓w_tyTi, ↓w_tyTb, ↓w_tyTs, ↓w_tyTt, ↓w_tyTl, ↓w_tyTd, ↓w_tyLi, ↓w_tyLb, ↓w_tyLs, ↓w_tyLt, ↓w_tyLl, ↓w_tyLd, ↓w_it0, ↓w_it1, ↓w_it2, ↓w_it3, ↓w_it4, ↓w_it5, ↓w_l1, ↓w_l2, ↓w_l0, ↓wWi_nil, ↓wWi_cons, ↓wComp_map, ↓wComp_rng, ↓wComp_mapA, ↓wComp_rngA, ↓wOut_nx, ↓wOut_ret, ↓wOut_nx1, ↓wOut_ret1, ↓wOut_nx2, ↓wOut_ret2, ↓wDi_W, ↓wDm_W, ↓wDm2_W, ↓wD_A, ↓wD_D, ↓wD_S, ↓wD_N, ↓lp_nx, ↓lp_ct, ↓lp_brk, ↓lp_ret, ↓x_sum, ↓x_sumT, ↓x_all, ↓x_any, ↓x_eqT, ↓x_neT, ↓x_eqL, ↓x_neL, ↓x_inL, ↓x_inT, ↓wInn_row, List.length_cons, List.length_nil, Nat.reduceAdd, Nat.reduceLeDiff, true_and, if_true, if_false, eq_self, decide_true, decide_false, Bool.not_true, Bool.not_false, Bool.false_eq_true, $args,*])
theorem worst_w (n : Nat) {many most whole : Nat} (h1 : 1 ≤ many) (h2 : 1 ≤ most) (Q) : wK (callN tab gls (n + 1) 7 [natI many, natI most, natI whole]) Q = Q (natI (1 + whole)) [] := by
  refine wK_of (def_eq (def_run (F := d_worst_rounds) (E := [.sh (natI many), .sh (natI most), .sh (natI whole)]) rfl ⟨rfl, by decide, by decide⟩ rfl ?_)) Q
  unfold d_worst_rounds
  push_cast [List.length_nil]
  rw [if_pos (show (most : Int) > 0 by omega), if_pos (show (many : Int) > 0 by omega)]
  (first | done | exact ⟨rfl, trivial⟩ | exact ⟨rfl, rfl⟩ | rfl | trivial | exact ⟨fun _ => rfl, fun _ => rfl⟩ | exact ⟨rfl, fun _ => rfl, fun _ => rfl⟩ | exact ⟨trivial, fun _ => rfl, fun _ => rfl⟩ | exact fun _ => rfl)
/-! parity -/
abbrev rwsD (b : Bool) (R : List (List Int)) : D := if b then .list (R.map tuI) else .tuple (R.map tuI)
def col (R : List (List Int)) (k : Nat) : Int := (R.map fun r => r.getD k 0).sum
def par (R : List (List Int)) : List Int := (List.range 4).map fun k => (col R k).fmod 2
theorem gT (r : List Int) (k : Nat) (hk : k < r.length) (Q) : wp (item (tuI r) (.int (k : Int))) Q = Q (.int (r.getD k 0)) := w_itT _ _ k _ _ (at_nat rfl (by rw [List.length_map]; exact hk)) (by
  rw [List.getElem?_map, List.getD_eq_getElem?_getD, List.getElem?_eq_getElem hk]; rfl)
theorem g0 (R : List (List Int)) (h : 0 < R.length) (b : Bool) (Q) : wp (item (rwsD b R) (.int 0)) Q = Q (tuI R[0]) := by
  cases b
  · exact w_itT _ _ 0 _ _ (at_nat rfl (by rw [List.length_map]; exact h)) (by rw [List.getElem?_map, List.getElem?_eq_getElem h]; rfl)
  · exact w_itL _ _ 0 _ _ (at_nat rfl (by rw [List.length_map]; exact h)) (by rw [List.getElem?_map, List.getElem?_eq_getElem h]; rfl)
theorem par_w (n : Nat) {R : List (List Int)} (h0 : 0 < R.length) (hl : R.length ≤ 100) (h4 : ∀ r ∈ R, r.length = 4) (b : Bool) (Q) : wK (callN tab gls (n + 1) 8 [rwsD b R]) Q = Q (tuI (par R)) [] := by
  refine wK_of (def_eq (def_run (F := d_parity_of) (E := [.sh (rwsD b R), .un, .un]) rfl ⟨rfl, by decide, by decide⟩ rfl ?_)) Q
  unfold d_parity_of
  have e0 := h4 _ (List.getElem_mem h0)
  cases b with
  | false =>
    rw [show rwsD false R = .tuple (R.map tuI) from rfl]
    have g := fun Q => g0 R h0 false Q
    rw [show rwsD false R = .tuple (R.map tuI) from rfl] at g
    push_cast [List.length_nil]
    rw [g]
    push_cast [List.length_nil]
    rw [List.length_map, e0]
    refine ⟨by decide, ?_⟩
    rw [show ((4 : Nat) : Int).toNat = 4 from rfl, rngI_0]
    refine wComp_mapA (List.range 4) natI (fun k => .int ((col R k).fmod 2)) (by decide) (fun k hk => ?_) ?_
    · have hk := List.mem_range.mp hk
      push_cast [List.length_nil]
      refine wComp_mapA R tuI (fun r => .int (r.getD k 0)) (by omega) (fun r hr => ?_) ?_
      · push_cast [gT r k (by rw [h4 r hr]; exact hk)]
        rfl
      rw [show R.map (fun r => PyData.int (r.getD k 0)) = (R.map fun r => r.getD k 0).map PyData.int by rw [List.map_map]; rfl]
      push_cast [x_sum]
      exact ⟨by decide, rfl, rfl⟩
    rw [show (List.range 4).map (fun k => PyData.int ((col R k).fmod 2)) = (par R).map PyData.int by unfold par; rw [List.map_map]; rfl]
    push_cast [List.length_nil]
    (first | done | exact ⟨rfl, trivial⟩ | exact ⟨rfl, rfl⟩ | rfl | trivial | exact ⟨fun _ => rfl, fun _ => rfl⟩ | exact ⟨rfl, fun _ => rfl, fun _ => rfl⟩ | exact ⟨trivial, fun _ => rfl, fun _ => rfl⟩ | exact fun _ => rfl)
  | true =>
    rw [show rwsD true R = .list (R.map tuI) from rfl]
    have g := fun Q => g0 R h0 true Q
    rw [show rwsD true R = .list (R.map tuI) from rfl] at g
    push_cast [List.length_nil]
    rw [g]
    push_cast [List.length_nil]
    rw [List.length_map, e0]
    refine ⟨by decide, ?_⟩
    rw [show ((4 : Nat) : Int).toNat = 4 from rfl, rngI_0]
    refine wComp_mapA (List.range 4) natI (fun k => .int ((col R k).fmod 2)) (by decide) (fun k hk => ?_) ?_
    · have hk := List.mem_range.mp hk
      push_cast [List.length_nil]
      refine wComp_mapA R tuI (fun r => .int (r.getD k 0)) (by omega) (fun r hr => ?_) ?_
      · push_cast [gT r k (by rw [h4 r hr]; exact hk)]
        rfl
      rw [show R.map (fun r => PyData.int (r.getD k 0)) = (R.map fun r => r.getD k 0).map PyData.int by rw [List.map_map]; rfl]
      push_cast [x_sum]
      exact ⟨by decide, rfl, rfl⟩
    rw [show (List.range 4).map (fun k => PyData.int ((col R k).fmod 2)) = (par R).map PyData.int by unfold par; rw [List.map_map]; rfl]
    push_cast [List.length_nil]
    (first | done | exact ⟨rfl, trivial⟩ | exact ⟨rfl, rfl⟩ | rfl | trivial | exact ⟨fun _ => rfl, fun _ => rfl⟩ | exact ⟨rfl, fun _ => rfl, fun _ => rfl⟩ | exact ⟨trivial, fun _ => rfl, fun _ => rfl⟩ | exact fun _ => rfl)
def orD : Option (List Int) → D
  | none => .none
  | some r => tuI r
def mdD (O : List (Option (List Int))) (p : List Int) : D := if (O.filterMap id).length + 1 = O.length then tuI (par (O.filterMap id ++ [p])) else .none
theorem fm_id : ∀ O : List (Option (List Int)), (O.filter Option.isSome).map orD = (O.filterMap id).map tuI
  | [] => rfl
  | none :: r => by rw [List.filter_cons_of_neg (by simp), List.filterMap_cons_none rfl]; exact fm_id r
  | some a :: r => by rw [List.filter_cons_of_pos (by simp), List.filterMap_cons_some (f := id) (a := some a) (b := a) rfl, List.map_cons, List.map_cons, fm_id r]; rfl
theorem mended_w (n : Nat) {O : List (Option (List Int))} (hl : O.length ≤ 99) (h4 : ∀ r, some r ∈ O → r.length = 4) {p : List Int} (hp : p.length = 4) (Q) : wK (callN tab gls (n + 2) 9 [.tuple (O.map orD), tuI p]) Q = Q (mdD O p) [] := by
  refine wK_of (def_eq (def_run (F := d_mended) (E := [.sh (.tuple (O.map orD)), .sh (tuI p), .un, .un]) rfl ⟨rfl, by decide, by decide⟩ rfl ?_)) Q
  unfold d_mended
  have hk : (O.filterMap id).length ≤ O.length := List.length_filterMap_le ..
  have h4' : ∀ r ∈ O.filterMap id ++ [p], r.length = 4 := fun r hr => by
    rcases List.mem_append.mp hr with hr | hr
    · rw [List.mem_filterMap] at hr
      obtain ⟨o, ho, e⟩ := hr
      have e : o = some r := e
      exact h4 r (e ▸ ho)
    · rw [List.mem_singleton] at hr; subst hr; exact hp
  push_cast [List.length_nil]
  refine wComp_map O orD Option.isSome orD (by omega) (fun o ho => ?_) ?_
  · cases o with
    | none =>
      push_cast [orD]
      first | exact ⟨rfl, fun z => (by cases z), fun _ => rfl⟩ | exact ⟨fun z => (by cases z), fun _ => rfl⟩ | trivial
    | some r =>
      push_cast [orD]
      exact ⟨rfl, fun _ => rfl, fun z => (by cases z)⟩
  rw [fm_id]
  unfold mdD
  generalize O.filterMap id = K at *
  push_cast [List.length_nil]
  rw [List.length_map, List.length_map]
  by_cases e : K.length + 1 = O.length
  · rw [if_pos (show ((K.length : Nat) : Int) = (O.length : Nat) - 1 by omega), if_pos e]
    refine ⟨by omega, ?_⟩
    rw [show PyData.list (K.map tuI ++ [tuI p]) = rwsD true (K ++ [p]) by show _ = PyData.list _; rw [List.map_append]; rfl]
    rw [par_w n (by simp) (by simp; omega) h4' true]
    push_cast [List.length_nil]
    (first | done | exact ⟨rfl, trivial⟩ | exact ⟨rfl, rfl⟩ | rfl | trivial | exact ⟨fun _ => rfl, fun _ => rfl⟩ | exact ⟨rfl, fun _ => rfl, fun _ => rfl⟩ | exact ⟨trivial, fun _ => rfl, fun _ => rfl⟩ | exact fun _ => rfl)
  · rw [if_neg (show ¬ ((K.length : Nat) : Int) = (O.length : Nat) - 1 by omega), if_neg e]
    (first | done | exact ⟨rfl, trivial⟩ | exact ⟨rfl, rfl⟩ | rfl | trivial | exact ⟨fun _ => rfl, fun _ => rfl⟩ | exact ⟨rfl, fun _ => rfl, fun _ => rfl⟩ | exact ⟨trivial, fun _ => rfl, fun _ => rfl⟩ | exact fun _ => rfl)
theorem col_app (A B : List (List Int)) (k : Nat) : col (A ++ B) k = col A k + col B k := by
  unfold col
  rw [List.map_append, List.sum_append]
theorem col_one (r : List Int) (k : Nat) : col [r] k = r.getD k 0 := by unfold col; simp
/-- the row that is missing -/
theorem par_mend (A B : List (List Int)) (r : List Int) (hr : r.length = 4) (h01 : ∀ x ∈ r, x = 0 ∨ x = 1) : par (A ++ B ++ [par (A ++ [r] ++ B)]) = r := by
  refine List.ext_getElem (by unfold par; rw [List.length_map, List.length_range, hr]) fun k h1 h2 => ?_
  have hk : k < 4 := by rw [hr] at h2; exact h2
  have hx := h01 _ (List.getElem_mem h2)
  unfold par at h1 ⊢
  rw [List.getElem_map, List.getElem_range, col_app, col_one, col_app]
  rw [List.getD_eq_getElem?_getD, List.getElem?_map, List.getElem?_range hk]
  show (col A k + col B k + (col (A ++ [r] ++ B) k).fmod 2).fmod 2 = r[k]
  rw [col_app, col_app, col_one, List.getD_eq_getElem?_getD, List.getElem?_eq_getElem h2]
  show (col A k + col B k + (col A k + r[k] + col B k).fmod 2).fmod 2 = r[k]
  generalize r[k] = x at *
  rw [Int.fmod_eq_emod_of_nonneg _ (by omega), Int.fmod_eq_emod_of_nonneg _ (by omega)]
  omega
end LawP

set_option Elab.async false
set_option linter.all false
set_option maxRecDepth 100000
set_option maxHeartbeats 2000000
namespace LawP
open PySem Pv
local macro_rules
  | `(tactic| push_cast [$args,*]) => `(tactic| try simp only [↓wp_some, ↓wGet_z, ↓wGet_s, ↓wSet_z, ↓wSet_s, ↓wCt_sh, ↓wCt_ow, ↓wCt_io, ↓wG_val, ↓wG_bor, ↓wV_sh, ↓wV_ow, ↓wE_k, ↓wE_var, ↓wOv_sh, ↓wOv_ow, ↓wOv_io, ↓wO_var, ↓wO_k, ↓wO_glb, ↓wO_bin, ↓wO_neg, ↓wO_not, ↓wO_cmp, ↓wO_chain, ↓wO_chn3, ↓wO_and, ↓wO_or, ↓wO_ite, ↓wO_tup, ↓wO_lst, ↓wO_dctT, ↓wO_dct, ↓wO_idx, ↓wO_slc, ↓wO_call, ↓wO_blt, ↓wO_mth, ↓wO_upd, ↓wO_mut, ↓wO_rng, ↓wO_comp, ↓wO_callB, ↓wO_kys, ↓wO_fz, ↓wO_rev, ↓wO_lrg, ↓wO_lrs, ↓wO_lzp, ↓wO_trg, ↓wO_lix, ↓wO_cnt, ↓wO_srs, ↓wO_rgs, ↓wO_zip, ↓wO_inr, ↓wO_isi, ↓wO_comp2, ↓wE_bin, ↓wNeg_i, ↓wNot_b, ↓wE_neg, ↓wE_not, ↓wE_cmp, ↓wC_t, ↓wC_f, ↓wC_d, ↓wC_nd, ↓wE_chain, ↓wE_chn3, ↓wE_and, ↓wE_or, ↓wE_ite, ↓wEs_nil, ↓wEs_cons, ↓wOs_nil, ↓wOs_cons, ↓wLim_eq, ↓wE_tup, ↓wE_lst, ↓wE_dctT, ↓wE_dct, ↓wE_idx, ↓wE_slc, ↓wE_rev, ↓wMv_ow, ↓wMv_io, ↓wM_eq, ↓wPv_ow, ↓wPv_io, ↓wP_eq, ↓wMs_nil, ↓wMs_cons, ↓wPs_nil, ↓wPs_cons, ↓wA_nil, ↓wA_cons, ↓wE_call', ↓wLn_sh, ↓wLn_ow, ↓wLn_io, ↓wLns_nil, ↓wLns_cons, ↓wFl_int, ↓wFl_bool, ↓wFl_none, ↓wFl_str, ↓wE_callB', ↓wE_glb', ↓wTs_nil, ↓wTs_cons, ↓wE_blt, ↓wL_l, ↓wDm2_l, ↓wDm2_d, ↓wDm_l, ↓wDm_d, ↓wE_mth, ↓wE_lix, ↓wE_cnt, ↓wTd_t, ↓wE_upd, ↓wE_mut, ↓wE_kys, ↓wE_fz, ↓wE_rng, ↓wE_lrg, ↓wE_lrs, ↓wE_lzp, ↓wTr_l, ↓wE_trg, ↓wE_srs, ↓wE_rgs, ↓wE_zip, ↓wE_inr, ↓wE_isi, ↓wH_val, ↓wH_bor, ↓wI_l, ↓wI_t, ↓wE_comp, ↓wE_comp2, ↓wKo_nx, ↓wKo_ret, ↓wKo_brk, ↓wKo_ct, ↓wXs_nil, ↓wXs_cons, ↓wSv_un, ↓wSv_sh, ↓wSv_ow, ↓wSv_unT, ↓wSv_shT, ↓wSv_owT, ↓wS_eq, ↓wF_i, ↓wF_b, ↓wF_n, ↓wF_t, ↓wF_s, ↓wF_llst, ↓wF_lcmp, ↓wF_lrev, ↓wF_lslc, ↓wF_lbli, ↓wF_lsrs, ↓wF_lsrt, ↓wF_ladd, ↓wF_lmul, ↓wF_lcm2, ↓wF_llrg, ↓wF_llrs, ↓wF_llzp, ↓wF_lvar, ↓wF_lcal, ↓wF_lidx, ↓wF_lmut, ↓wF_lupd, ↓wF_lmth, ↓wF_liteV, ↓wF_liteK, ↓wF_liteI, ↓wF_liteC, ↓wF_liteM, ↓wF_liteS, ↓wF_liteT, ↓wF_liteB, ↓wF_liteN, ↓wF_liteG, ↓wF_liteLV, ↓wF_liteLK, ↓wF_liteLI, ↓wF_liteLC, ↓wF_liteLM, ↓wF_liteLS, ↓wF_liteLT, ↓wF_liteLB, ↓wF_liteLN, ↓wF_liteLG, ↓wF_liteLL, ↓wF_ddctT, ↓wF_ddct, ↓wF_dbld, ↓wF_dbldT, ↓wF_dvar, ↓wF_dcal, ↓wF_didx, ↓wX_asg, ↓wX_tup, ↓wAs_name, ↓wAs_tup, ↓wAs_tupL, ↓wAss_nil, ↓wAss_cons, ↓wPar_nil, ↓wPar_cons, ↓wX_par, ↓wX_aug, ↓wX_augS, ↓wX_setS, ↓w_ii2, ↓w_lsM, ↓wX_parS, ↓wX_exp, ↓wX_ret, ↓wX_ite, ↓wX_for, ↓wX_while, ↓wX_brk, ↓wX_ct, ↓wX_pass, ↓w_add, ↓w_sub, ↓w_mul, ↓w_fdiv, ↓w_mod, ↓w_pow, ↓w_addL, ↓w_addT, ↓w_mulL, ↓w_gadd, ↓w_gsub, ↓w_lt, ↓w_le, ↓w_gt, ↓w_ge, ↓w_eq, ↓w_ne, ↓w_isNN, ↓w_revL, ↓w_revT, ↓w_abs, ↓w_int, ↓w_lenL, ↓w_lenT, ↓w_lenS, ↓w_tupL, ↓w_tupT, ↓w_lisL, ↓w_lisT, ↓w_min2, ↓w_max2, ↓w_app, ↓wq_rng1, ↓wq_rng2, ↓w_isNi, ↓w_isNt, ↓w_isNl, ↓w_isNd, ↓w_isNs, ↓w_isNb, ↓w_notNi, ↓w_notNt, ↓w_notNl, ↓w_notNd, ↓w_notNs, ↓w_notNb, ↓w_notNN, ↓w_isB, ↓w_notB, ↓w_intB, ↓w_zipL, ↓w_zipT, ↓w_inr1, ↓w_inr2, ↓w_tyN, ↓w_tyBi, ↓w_tyBb, ↓w_tyBs, ↓w_tyBt, ↓w_tyBl, ↓w_tyBd, ↓w_tyIi, ↓w_tyIb, ↓w_tyIs, ↓w_tyIt, ↓w_tyIl, ↓w_tyId, ↓w_tySi, ↓w_tySb, ↓w_tySs, ↓w_tySt, ↓w_tySl, ↓w_tySd, ↓w_tyTi, ↓w_tyTb, ↓w_tyTs, ↓w_tyTt, ↓w_tyTl, ↓w_tyTd, ↓w_tyLi, ↓w_tyLb, ↓w_tyLs, ↓w_tyLt, ↓w_tyLl, ↓w_tyLd, ↓w_it0, ↓w_it1, ↓w_it2, ↓w_it3, ↓w_it4, ↓w_it5, ↓w_l1, ↓w_l2, ↓w_l0, ↓wWi_nil, ↓wWi_cons, ↓wComp_map, ↓wComp_rng, ↓wComp_mapA, ↓wComp_rngA, ↓wOut_nx, ↓wOut_ret, ↓wOut_nx1, ↓wOut_ret1, ↓wOut_nx2, ↓wOut_ret2, ↓wDi_W, ↓wDm_W, ↓wDm2_W, ↓wD_A, ↓wD_D, ↓wD_S, ↓wD_N, ↓lp_nx, ↓lp_ct, ↓lp_brk, ↓lp_ret, ↓x_sum, ↓x_sumT, ↓x_all, ↓x_any, ↓x_eqT, ↓x_neT, ↓x_eqL, ↓x_neL, ↓x_inL, ↓x_inT, ↓wInn_row, List.length_cons, List.length_nil, Nat.reduceAdd, Nat.reduceLeDiff, true_and, if_true, if_false, eq_self, decide_true, decide_false, Bool.not_true, Bool.not_false, Bool.false_eq_true, $args,*])
theorem nd_len {α : Type} [DecidableEq α] : ∀ {L M : List α}, L.Nodup → (∀ x ∈ L, x ∈ M) → L.length ≤ M.length
  | [], _, _, _ => by simp
  | x :: r, M, h, hs => by
    obtain ⟨h1, h2⟩ := List.nodup_cons.mp h
    have hx := hs x List.mem_cons_self
    have := nd_len (L := r) (M := M.erase x) h2 fun y hy => (List.mem_erase_of_ne (show y ≠ x from fun e => h1 (by rw [← e]; exact hy))).mpr (hs y (List.mem_cons_of_mem _ hy))
    rw [List.length_erase_of_mem hx] at this
    have : 0 < M.length := List.length_pos_of_mem hx
    rw [List.length_cons]; omega
def kvD (K : List (Int × Int)) : List (D × D) := K.map fun p => (pD p, .bool true)
def insP (K : List (Int × Int)) (p : Int × Int) : List (Int × Int) := if p ∈ K then K else K ++ [p]
theorem ekP (p q : Int × Int) : keyEq (pD p) (pD q) = decide (p = q) := by
  show (p.1 == q.1 && (p.2 == q.2 && true)) = _
  rw [Bool.and_true, Bool.beq_eq_decide_eq, Bool.beq_eq_decide_eq, ← Bool.decide_and, decide_eq_decide, Prod.ext_iff]
theorem dput_kv (K : List (Int × Int)) (p : Int × Int) : dput (kvD K) (pD p) (.bool true) = kvD (insP K p) := by
  unfold dput insP
  have e : ((kvD K).any fun q => keyEq q.1 (pD p)) = decide (p ∈ K) := by
    unfold kvD
    rw [List.any_map, Bool.eq_iff_iff, List.any_eq_true, decide_eq_true_eq]
    constructor
    · rintro ⟨q, hq, h⟩
      have h : keyEq (pD q) (pD p) = true := h
      rw [ekP, decide_eq_true_eq] at h
      rw [← h]; exact hq
    · intro h
      exact ⟨p, h, by show keyEq (pD p) (pD p) = true; rw [ekP]; simp⟩
  rw [e]
  by_cases h : p ∈ K
  · rw [if_pos (decide_eq_true h), if_pos h]
    unfold kvD
    rw [List.map_map]
    refine List.map_congr_left fun q _ => ?_
    show (if keyEq (pD q) (pD p) then ((pD q, .bool true) : D × D) else (pD q, .bool true)) = _
    split <;> rfl
  · rw [if_neg (by simpa using h), if_neg h]
    unfold kvD
    rw [List.map_append]; rfl
theorem merge_kv : ∀ (ps K : List (Int × Int)), (kvD ps).foldl (fun a p => dput a p.1 p.2) (kvD K) = kvD (ps.foldl insP K)
  | [], _ => rfl
  | p :: ps, K => by
    show (kvD ps).foldl _ (dput (kvD K) (pD p) (.bool true)) = _
    rw [dput_kv]
    exact merge_kv ps (insP K p)
theorem prsT_kv : ∀ ps : List (Int × Int), prsT (ps.map fun p => .tuple [pD p, .bool true]) = some (kvD ps)
  | [] => rfl
  | p :: ps => by
    show (if isKeyT (pD p) && freeK (pD p) then (prsT (ps.map fun p => .tuple [pD p, .bool true])).map ((pD p, .bool true) :: ·) else none) = _
    rw [if_pos (show (isKeyT (pD p) && freeK (pD p)) = true from rfl), prsT_kv ps]; rfl
theorem insP_mem (K : List (Int × Int)) (p q : Int × Int) : q ∈ insP K p ↔ q ∈ K ∨ q = p := by
  unfold insP
  split
  · rename_i h
    exact ⟨.inl, fun z => z.elim id fun e => e ▸ h⟩
  · rw [List.mem_append, List.mem_singleton]
theorem insPF_mem (q : Int × Int) : ∀ (P A : List (Int × Int)), q ∈ P.foldl insP A ↔ q ∈ A ∨ q ∈ P
  | [], A => by simp
  | p :: P, A => by
    rw [List.foldl_cons, insPF_mem q P (insP A p), insP_mem, List.mem_cons, or_assoc]
theorem insP_nd {K : List (Int × Int)} (h : K.Nodup) (p : Int × Int) : (insP K p).Nodup := by
  unfold insP
  split
  · exact h
  · rename_i q
    rw [List.nodup_append]
    refine ⟨h, by simp, fun a ha b hb z => ?_⟩
    rw [List.mem_singleton] at hb
    subst hb; subst z
    exact q ha
theorem insPF_nd : ∀ (P A : List (Int × Int)), A.Nodup → (P.foldl insP A).Nodup
  | [], _, h => h
  | p :: P, A, h => insPF_nd P _ (insP_nd h p)
theorem insPF_id : ∀ (P A : List (Int × Int)), (A ++ P).Nodup → P.foldl insP A = A ++ P
  | [], A, _ => by simp
  | p :: P, A, h => by
    have hp : p ∉ A := fun m => by
      rw [List.nodup_append] at h
      exact h.2.2 p m p List.mem_cons_self rfl
    rw [List.foldl_cons, show insP A p = A ++ [p] from if_neg hp, insPF_id P (A ++ [p]) (by rw [List.append_assoc]; exact h), List.append_assoc]; rfl
theorem x_dictTP (ps : List (Int × Int)) (h : ps.Nodup) (Q) : wp (bltop .dictT [.list (ps.map fun p => .tuple [pD p, .bool true])]) Q = Q (.dict (tMark :: kvD ps)) := wp_of (by
  show (prsT (ps.map fun p => .tuple [pD p, .bool true])).map (fun ps => PyData.dict (tMark :: mergeD ps)) = _
  rw [prsT_kv]
  show some (PyData.dict (tMark :: mergeD (kvD ps))) = _
  unfold mergeD
  rw [show ([] : List (D × D)) = kvD [] from rfl, merge_kv, insPF_id ps [] h]; rfl)
theorem x_updP (K ms : List (Int × Int)) (hl : K.length ≤ 1000) (hl2 : ms.length ≤ 1000) (h : K ≠ [] ∨ hashOk (kvD ms) = true) (Q) : wp (updD (.dict (tMark :: kvD K)) (.dict (tMark :: kvD ms))) Q = Q (.dict (tMark :: kvD (ms.foldl insP K))) := wp_of (by
  show (if tOk (tMark :: kvD K) && tOk (tMark :: kvD ms) && decide ((kvD K).length + (kvD ms).length ≤ LIM) && (!(kvD K).isEmpty || hashOk (kvD ms)) then some (PyData.dict (tMark :: (kvD ms).foldl (fun a p => dput a p.1 p.2) (kvD K))) else none) = _
  have e1 : decide ((kvD K).length + (kvD ms).length ≤ LIM) = true := decide_eq_true (by unfold kvD LIM; rw [List.length_map, List.length_map]; omega)
  have e2 : (!(kvD K).isEmpty || hashOk (kvD ms)) = true := by
    rcases h with h | h
    · cases K with
      | nil => exact absurd rfl h
      | cons a r => rfl
    · rw [h, Bool.or_true]
  rw [e1, e2, show tOk (tMark :: kvD K) = true from rfl, show tOk (tMark :: kvD ms) = true from rfl, if_pos (show (true && true && true && true) = true from rfl), merge_kv])
theorem x_srtTP (K : List (Int × Int)) (hl : K.length < 64) : ∃ K' : List (Int × Int), K'.Perm K ∧ ∀ Q, wp (bltop .sorted [.dict (tMark :: kvD K)]) Q = Q (.list (K'.map pD)) := by
  obtain ⟨K', hp, he⟩ := L2.perm_lift (fun p : Int × Int => [p.1, p.2]) (List.mergeSort_perm (K.map fun p => [p.1, p.2]) fun a b => decide (¬ b < a)) K rfl
  refine ⟨K', hp, fun Q => wp_of ?_⟩
  show (tupsI0 ((kvD K).map Prod.fst)).bind (fun ks => if ks.length < 64 then some (PyData.list ((srtL ks).map fun k => .tuple (k.map .int))) else none) = _
  have e : ∀ K : List (Int × Int), tupsI0 ((kvD K).map Prod.fst) = some (K.map fun p => [p.1, p.2]) := by
    intro K
    induction K with
    | nil => rfl
    | cons p r ih =>
      show (tupI0 (pD p)).bind (fun k => (tupsI0 ((kvD r).map Prod.fst)).map (k :: ·)) = _
      rw [ih]; rfl
  rw [e]
  show (if (K.map fun p => [p.1, p.2]).length < 64 then some (PyData.list ((srtL (K.map fun p => [p.1, p.2])).map fun k => .tuple (k.map .int))) else none) = _
  rw [if_pos (by rw [List.length_map]; exact hl)]
  unfold srtL
  rw [← he, List.map_map]; rfl
/-- (lost, room - lost) -/
def stepL (m : Nat) (r : Int) : List (Int × Int) := (List.range m).map fun i : Nat => ((1 + (i : Int)), r - (1 + (i : Int)))
theorem hash_small : ((List.range 4).all fun m => (List.range 6).all fun r => hashOk (kvD (stepL m (r : Nat)))) = true := by decide +kernel
theorem step_hash {m r : Nat} (hm : m < 4) (hr : r < 6) : hashOk (kvD (stepL m (r : Nat))) = true :=
  List.all_eq_true.mp (List.all_eq_true.mp hash_small m (List.mem_range.mpr hm)) r (List.mem_range.mpr hr)
theorem step_nd (m : Nat) (r : Int) : (stepL m r).Nodup := by
  unfold stepL
  refine List.pairwise_map.mpr (List.nodup_range.imp fun {a b} h e => h ?_)
  have := congrArg Prod.fst e
  simp only at this
  omega
theorem step_mem {m : Nat} {r : Int} {q : Int × Int} (h : q ∈ stepL m r) : 1 ≤ q.1 ∧ q.1 ≤ m ∧ q.2 = r - q.1 := by
  unfold stepL at h
  obtain ⟨i, hi, rfl⟩ := List.mem_map.mp h
  have := List.mem_range.mp hi
  exact ⟨by show 1 ≤ 1 + (i : Int); omega, by show 1 + (i : Int) ≤ m; omega, rfl⟩
def grid : List (Int × Int) := (List.range 4).flatMap fun a : Nat => (List.range 6).map fun b : Nat => ((a : Int), (b : Int))
theorem grid_mem {q : Int × Int} (h : 0 ≤ q.1 ∧ q.1 ≤ 3 ∧ 0 ≤ q.2 ∧ q.2 ≤ 5) : q ∈ grid := by
  unfold grid
  rw [List.mem_flatMap]
  refine ⟨q.1.toNat, List.mem_range.mpr (by omega), List.mem_map.mpr ⟨q.2.toNat, List.mem_range.mpr (by omega), ?_⟩⟩
  refine Prod.ext ?_ ?_
  · show ((q.1.toNat : Nat) : Int) = q.1; omega
  · show ((q.2.toNat : Nat) : Int) = q.2; omega
theorem grid_len : grid.length = 24 := by decide
structure LyOk (whole k : Nat) (L : List (Int × Int)) : Prop where
  b : ∀ p ∈ L, 1 ≤ p.1 ∧ p.1 ≤ 6 ∧ 0 ≤ p.2 ∧ p.2 + k ≤ whole
  some : k ≤ whole → ∃ p ∈ L, p.2 + k = whole
  len : L.length ≤ 24
structure KOk (whole k : Nat) (L K : List (Int × Int)) : Prop where
  b : ∀ p ∈ K, 1 ≤ p.1 ∧ p.1 ≤ 3 ∧ 0 ≤ p.2 ∧ p.2 + (k + 1) ≤ whole
  nd : K.Nodup
  h : ∀ p ∈ L, 1 ≤ p.2 → (1, p.2 - 1) ∈ K
theorem KOk.len {whole k : Nat} {L K : List (Int × Int)} (h : KOk whole k L K) (hw : whole ≤ 5) : K.length ≤ 24 := by
  rw [← grid_len]
  exact nd_len h.nd fun q hq => grid_mem (by have := h.b q hq; omega)
theorem kok_step {whole k m : Nat} {L K : List (Int × Int)} {p : Int × Int} (h : KOk whole k L K) (hm : m ≤ 3) (hp : 0 ≤ p.2 ∧ p.2 + k ≤ whole) (hmr : (m : Int) ≤ p.2) (hm1 : 1 ≤ p.2 → 1 ≤ m) : KOk whole k (L ++ [p]) ((stepL m p.2).foldl insP K) where
  b := fun q hq => by
    rcases (insPF_mem q _ _).mp hq with hq | hq
    · exact h.b q hq
    · obtain ⟨a, b, e⟩ := step_mem hq
      omega
  nd := insPF_nd _ _ h.nd
  h := fun q hq h1 => by
    rw [insPF_mem]
    rcases List.mem_append.mp hq with hq | hq
    · exact .inl (h.h q hq h1)
    · rw [List.mem_singleton] at hq
      subst hq
      right
      unfold stepL
      exact List.mem_map.mpr ⟨0, List.mem_range.mpr (hm1 h1), rfl⟩
theorem lyok_next {whole k : Nat} {L K K' : List (Int × Int)} (hw : whole ≤ 5) (hL : LyOk whole k L) (hK : KOk whole k L K) (hp : K'.Perm K) : LyOk whole (k + 1) K' where
  b := fun q hq => by
    have := hK.b q (hp.mem_iff.mp hq)
    omega
  some := fun h => by
    obtain ⟨p, hp', e⟩ := hL.some (by omega)
    exact ⟨_, hp.mem_iff.mpr (hK.h p hp' (by omega)), by show p.2 - 1 + ((k + 1 : Nat) : Int) = whole; omega⟩
  len := by rw [hp.length_eq]; exact hK.len hw
theorem w_min3 (i j k : Int) (Q) : wp (bltop .min2 [.int i, .int j, .int k]) Q = Q (.int (if k < (if j < i then j else i) then k else if j < i then j else i)) := wp_of rfl
theorem okpD (L : List (Int × Int)) : okds (L.map pD) 39 = true := okds_map pD 39 L fun _ _ => rfl
abbrev CC : Pv.Ctx := ⟨callN tab gls 8, gls⟩
theorem draws_w (n : Nat) (ns : List Int) (hn : ns.length ≤ 63) (m : Int) (hm : 0 ≤ m ∧ m < 100000) (Q) (hq : ∀ ds, Ints ds → Q (.list ds) []) : wK (callN tab gls (n + 1) 10 [.dict [(.none, .list (ns.map PyData.int))], .int m]) Q :=
  def_run (F := d__law_draws) (E := [.sh (.dict [(.none, .list (ns.map PyData.int))]), .sh (.int m), .un, .un, .un, .un, .un, .un]) rfl ⟨rfl, by decide, by decide⟩ rfl (draws_body ns hn m hm hq)
theorem next_w (n : Nat) {ds : List D} (hd : Ints ds) (k : Nat) (m : Int) (hm : 0 < m) (Q) (hq : ∀ r : Int, 0 ≤ r → r < m → Q (.int r) [W ds ((k + 1 : Nat) : Int)]) : wK (callN tab gls (n + 1) 11 [W ds k, .int m]) Q :=
  def_run (F := d__law_next) (E := [.io (W ds k), .sh (.int m)]) rfl ⟨rfl, by decide, by decide⟩ rfl (next_body ds hd k m hm hq)
local macro_rules
  | `(tactic| push_cast [$args,*]) => `(tactic| try simp only [↓wTd_t, ↓wp_some, ↓wGet_z, ↓wGet_s, ↓wSet_z, ↓wSet_s, ↓wCt_sh, ↓wCt_ow, ↓wCt_io, ↓wG_val, ↓wG_bor, ↓wV_sh, ↓wV_ow, ↓wE_k, ↓wE_var, ↓wOv_sh, ↓wOv_ow, ↓wOv_io, ↓wO_var, ↓wO_k, ↓wO_glb, ↓wO_bin, ↓wO_neg, ↓wO_not, ↓wO_cmp, ↓wO_chain, ↓wO_chn3, ↓wO_and, ↓wO_or, ↓wO_ite, ↓wO_tup, ↓wO_lst, ↓wO_dctT, ↓wO_dct, ↓wO_idx, ↓wO_slc, ↓wO_call, ↓wO_blt, ↓wO_mth, ↓wO_upd, ↓wO_mut, ↓wO_rng, ↓wO_comp, ↓wO_callB, ↓wO_kys, ↓wO_fz, ↓wO_rev, ↓wO_lrg, ↓wO_lrs, ↓wO_lzp, ↓wO_trg, ↓wO_lix, ↓wO_cnt, ↓wO_srs, ↓wO_rgs, ↓wO_zip, ↓wO_inr, ↓wO_isi, ↓wO_comp2, ↓wE_bin, ↓wNeg_i, ↓wNot_b, ↓wE_neg, ↓wE_not, ↓wE_cmp, ↓wC_t, ↓wC_f, ↓wC_d, ↓wC_nd, ↓wE_chain, ↓wE_chn3, ↓wE_and, ↓wE_or, ↓wE_ite, ↓wEs_nil, ↓wEs_cons, ↓wOs_nil, ↓wOs_cons, ↓wLim_eq, ↓wE_tup, ↓wE_lst, ↓wE_dctT, ↓wE_dct, ↓wE_idx, ↓wE_slc, ↓wE_rev, ↓wMv_ow, ↓wMv_io, ↓wM_eq, ↓wPv_ow, ↓wPv_io, ↓wP_eq, ↓wMs_nil, ↓wMs_cons, ↓wPs_nil, ↓wPs_cons, ↓wA_nil, ↓wA_cons, ↓wE_call', ↓wLn_sh, ↓wLn_ow, ↓wLn_io, ↓wLns_nil, ↓wLns_cons, ↓wFl_int, ↓wFl_bool, ↓wFl_none, ↓wFl_str, ↓wE_callB', ↓wE_glb', ↓wTs_nil, ↓wTs_cons, ↓wE_blt, ↓wL_l, ↓wDm2_l, ↓wDm2_d, ↓wDm_l, ↓wDm_d, ↓wE_mth, ↓wE_lix, ↓wE_cnt, ↓wTd_t, ↓wE_upd, ↓wE_mut, ↓wE_kys, ↓wE_fz, ↓wE_rng, ↓wE_lrg, ↓wE_lrs, ↓wE_lzp, ↓wTr_l, ↓wE_trg, ↓wE_srs, ↓wE_rgs, ↓wE_zip, ↓wE_inr, ↓wE_isi, ↓wH_val, ↓wH_bor, ↓wI_l, ↓wI_t, ↓wE_comp, ↓wE_comp2, ↓wKo_nx, ↓wKo_ret, ↓wKo_brk, ↓wKo_ct, ↓wXs_nil, ↓wXs_cons, ↓wSv_un, ↓wSv_sh, ↓wSv_ow, ↓wSv_unT, ↓wSv_shT, ↓wSv_owT, ↓wS_eq, ↓wF_i, ↓wF_b, ↓wF_n, ↓wF_t, ↓wF_s, ↓wF_llst, ↓wF_lcmp, ↓wF_lrev, ↓wF_lslc, ↓wF_lbli, ↓wF_lsrs, ↓wF_lsrt, ↓wF_ladd, ↓wF_lmul, ↓wF_lcm2, ↓wF_llrg, ↓wF_llrs, ↓wF_llzp, ↓wF_lvar, ↓wF_lcal, ↓wF_lidx, ↓wF_lmut, ↓wF_lupd, ↓wF_lmth, ↓wF_liteV, ↓wF_liteK, ↓wF_liteI, ↓wF_liteC, ↓wF_liteM, ↓wF_liteS, ↓wF_liteT, ↓wF_liteB, ↓wF_liteN, ↓wF_liteG, ↓wF_liteLV, ↓wF_liteLK, ↓wF_liteLI, ↓wF_liteLC, ↓wF_liteLM, ↓wF_liteLS, ↓wF_liteLT, ↓wF_liteLB, ↓wF_liteLN, ↓wF_liteLG, ↓wF_liteLL, ↓wF_ddctT, ↓wF_ddct, ↓wF_dbld, ↓wF_dbldT, ↓wF_dvar, ↓wF_dcal, ↓wF_didx, ↓wX_asg, ↓wX_tup, ↓wAs_name, ↓wAs_tup, ↓wAs_tupL, ↓wAss_nil, ↓wAss_cons, ↓wPar_nil, ↓wPar_cons, ↓wX_par, ↓wX_aug, ↓wX_augS, ↓wX_setS, ↓w_ii2, ↓w_lsM, ↓wX_parS, ↓wX_exp, ↓wX_ret, ↓wX_ite, ↓wX_for, ↓wX_while, ↓wX_brk, ↓wX_ct, ↓wX_pass, ↓w_add, ↓w_sub, ↓w_mul, ↓w_fdiv, ↓w_mod, ↓w_pow, ↓w_addL, ↓w_addT, ↓w_mulL, ↓w_gadd, ↓w_gsub, ↓w_lt, ↓w_le, ↓w_gt, ↓w_ge, ↓w_eq, ↓w_ne, ↓w_isNN, ↓w_revL, ↓w_revT, ↓w_abs, ↓w_int, ↓w_lenL, ↓w_lenT, ↓w_lenS, ↓w_tupL, ↓w_tupT, ↓w_lisL, ↓w_lisT, ↓w_min2, ↓w_max2, ↓w_app, ↓wq_rng1, ↓wq_rng2, ↓w_isNi, ↓w_isNt, ↓w_isNl, ↓w_isNd, ↓w_isNs, ↓w_isNb, ↓w_notNi, ↓w_notNt, ↓w_notNl, ↓w_notNd, ↓w_notNs, ↓w_notNb, ↓w_notNN, ↓w_isB, ↓w_notB, ↓w_intB, ↓w_zipL, ↓w_zipT, ↓w_inr1, ↓w_inr2, ↓w_tyN, ↓w_tyBi, ↓w_tyBb, ↓w_tyBs, ↓w_tyBt, ↓w_tyBl, ↓w_tyBd, ↓w_tyIi, ↓w_tyIb, ↓w_tyIs, ↓w_tyIt, ↓w_tyIl, ↓w_tyId, ↓w_tySi, ↓w_tySb, ↓w_tySs, ↓w_tySt, ↓w_tySl, ↓w_tySd, ↓w_tyTi, ↓w_tyTb, ↓w_tyTs, ↓w_tyTt, ↓w_tyTl, ↓w_tyTd, ↓w_tyLi, ↓w_tyLb, ↓w_tyLs, ↓w_tyLt, ↓w_tyLl, ↓w_tyLd, ↓w_it0, ↓w_it1, ↓w_it2, ↓w_it3, ↓w_it4, ↓w_it5, ↓w_l1, ↓w_l2, ↓w_l0, ↓wWi_nil, ↓wWi_cons, ↓wComp_map, ↓wComp_rng, ↓wComp_mapA, ↓wComp_rngA, ↓wOut_nx, ↓wOut_ret, ↓wOut_nx1, ↓wOut_ret1, ↓wOut_nx2, ↓wOut_ret2, ↓wDi_W, ↓wDm_W, ↓wDm2_W, ↓wD_A, ↓wD_D, ↓wD_S, ↓wD_N, ↓lp_nx, ↓lp_ct, ↓lp_brk, ↓lp_ret, ↓x_sum, ↓x_sumT, ↓x_all, ↓x_any, ↓x_eqT, ↓x_neT, ↓x_eqL, ↓x_neL, ↓x_inL, ↓x_inT, ↓wInn_row, List.length_cons, List.length_nil, Nat.reduceAdd, Nat.reduceLeDiff, true_and, if_true, if_false, eq_self, decide_true, decide_false, Bool.not_true, Bool.not_false, Bool.false_eq_true, $args,*])
theorem segE {R : List SIR} {Q : Out → Prop} {ds : List D} (hd : Ints ds) (c : Nat) {count : Nat} (h1 : 1 ≤ count) (h6 : count ≤ 6) {s_script s_turn s_row s_size s_round_so s_k s_many s_packets s_left s_come s_near s_able s_place s_own s_missing s_spans s_losses s_due s_most s_whole s_best s_layer s_later s_left_now s_room s_lost s_bits s_j s_parity s_at : Pv.Slot}
    (hQ : ∀ (c' : Nat) (s_most s_whole s_best s_layer s_later s_left_now s_room s_lost : Pv.Slot), Fr s_most → Fr s_whole → Fr s_best → Fr s_layer → Fr s_later → Fr s_left_now → Fr s_room → Fr s_lost → wXs CC R [s_script, .ow (W ds (c' : Nat)), s_turn, s_row, s_size, s_round_so, s_k, s_many, s_packets, s_left, s_come, s_near, s_able, s_place, s_own, s_missing, s_spans, .sh (natI count), s_losses, s_due, s_most, s_whole, s_best, s_layer, s_later, s_left_now, s_room, s_lost, s_bits, s_j, s_parity, s_at] Q) (h_script : Fr s_script := by first | assumption | exact fr_sh _ | exact fr_ow _ | exact fr_un) (h_turn : Fr s_turn := by first | assumption | exact fr_sh _ | exact fr_ow _ | exact fr_un) (h_row : Fr s_row := by first | assumption | exact fr_sh _ | exact fr_ow _ | exact fr_un) (h_size : Fr s_size := by first | assumption | exact fr_sh _ | exact fr_ow _ | exact fr_un) (h_round_so : Fr s_round_so := by first | assumption | exact fr_sh _ | exact fr_ow _ | exact fr_un) (h_k : Fr s_k := by first | assumption | exact fr_sh _ | exact fr_ow _ | exact fr_un) (h_many : Fr s_many := by first | assumption | exact fr_sh _ | exact fr_ow _ | exact fr_un) (h_packets : Fr s_packets := by first | assumption | exact fr_sh _ | exact fr_ow _ | exact fr_un) (h_left : Fr s_left := by first | assumption | exact fr_sh _ | exact fr_ow _ | exact fr_un) (h_come : Fr s_come := by first | assumption | exact fr_sh _ | exact fr_ow _ | exact fr_un) (h_near : Fr s_near := by first | assumption | exact fr_sh _ | exact fr_ow _ | exact fr_un) (h_able : Fr s_able := by first | assumption | exact fr_sh _ | exact fr_ow _ | exact fr_un) (h_place : Fr s_place := by first | assumption | exact fr_sh _ | exact fr_ow _ | exact fr_un) (h_own : Fr s_own := by first | assumption | exact fr_sh _ | exact fr_ow _ | exact fr_un) (h_missing : Fr s_missing := by first | assumption | exact fr_sh _ | exact fr_ow _ | exact fr_un) (h_spans : Fr s_spans := by first | assumption | exact fr_sh _ | exact fr_ow _ | exact fr_un) (h_losses : Fr s_losses := by first | assumption | exact fr_sh _ | exact fr_ow _ | exact fr_un) (h_due : Fr s_due := by first | assumption | exact fr_sh _ | exact fr_ow _ | exact fr_un) (h_most : Fr s_most := by first | assumption | exact fr_sh _ | exact fr_ow _ | exact fr_un) (h_whole : Fr s_whole := by first | assumption | exact fr_sh _ | exact fr_ow _ | exact fr_un) (h_best : Fr s_best := by first | assumption | exact fr_sh _ | exact fr_ow _ | exact fr_un) (h_layer : Fr s_layer := by first | assumption | exact fr_sh _ | exact fr_ow _ | exact fr_un) (h_later : Fr s_later := by first | assumption | exact fr_sh _ | exact fr_ow _ | exact fr_un) (h_left_now : Fr s_left_now := by first | assumption | exact fr_sh _ | exact fr_ow _ | exact fr_un) (h_room : Fr s_room := by first | assumption | exact fr_sh _ | exact fr_ow _ | exact fr_un) (h_lost : Fr s_lost := by first | assumption | exact fr_sh _ | exact fr_ow _ | exact fr_un) (h_bits : Fr s_bits := by first | assumption | exact fr_sh _ | exact fr_ow _ | exact fr_un) (h_j : Fr s_j := by first | assumption | exact fr_sh _ | exact fr_ow _ | exact fr_un) (h_parity : Fr s_parity := by first | assumption | exact fr_sh _ | exact fr_ow _ | exact fr_un) (h_at : Fr s_at := by first | assumption | exact fr_sh _ | exact fr_ow _ | exact fr_un) : wXs CC ((.par [20, 21, 22, 23] [(.bin .add (.k (.int 1)) (.call 11 [1] [(.k (.int 3))])), (.call 11 [1] [(.k (.int 6))]), (.k (.int 0)), (.lst [])]) :: (.asg (.name 23) (.lst [(.tup [(.var 17), (.var 21)])])) :: (.while (.cmp .ne (.var 23) (.lst [])) [(.par [22, 24] [(.bin .add (.var 22) (.k (.int 1))), .dctT]), (.for (.tup [(.name 25), (.name 26)]) (.var 23) [(.exp (.upd 24 (.blt .dictT [(.comp (.tup [(.tup [(.var 27), (.bin .sub (.var 26) (.var 27))]), (.k (.bool true))]) (.name 27) (.rng [(.k (.int 1)), (.bin .add (.blt .min2 [(.var 25), (.var 20), (.var 26)]) (.k (.int 1)))]) (.k (.bool true)) [27])])))]), (.asg (.name 23) (.blt .sorted [(.var 24)]))]) :: (.ite (.not (.call 13 [] [(.call 7 [] [(.var 17), (.var 20), (.var 21)]), (.var 22)])) [(.ret (.k (.bool false)))] []) :: R) [s_script, .ow (W ds (c : Nat)), s_turn, s_row, s_size, s_round_so, s_k, s_many, s_packets, s_left, s_come, s_near, s_able, s_place, s_own, s_missing, s_spans, .sh (natI count), s_losses, s_due, s_most, s_whole, s_best, s_layer, s_later, s_left_now, s_room, s_lost, s_bits, s_j, s_parity, s_at] Q := by
  unfold CC at *
  push_cast [List.length_nil]
  refine next_w 7 hd c 3 (by decide) _ fun m m0 m1 => ?_
  obtain ⟨m, rfl⟩ := Int.eq_ofNat_of_zero_le m0
  push_cast [List.length_nil]
  refine next_w 7 hd _ 6 (by decide) _ fun wh w0 w1 => ?_
  obtain ⟨wh, rfl⟩ := Int.eq_ofNat_of_zero_le w0
  push_cast [↓fr_Sv h_most, ↓fr_Sv h_whole, ↓fr_Sv h_best, ↓fr_SvT h_layer]
  rw [show (1 : Int) + (m : Int) = ((1 + m : Nat) : Int) by omega]
  obtain ⟨most, hmo⟩ : ∃ most, most = 1 + m := ⟨_, rfl⟩
  rw [← hmo]
  have hm3 : 1 ≤ most ∧ most ≤ 3 := by omega
  refine wWh_ok (fun j E => ∃ (k : Nat) (L : List (Int × Int)) (s_later s_left_now s_room s_lost : Pv.Slot), (Fr s_later ∧ Fr s_left_now ∧ Fr s_room ∧ Fr s_lost) ∧ LyOk wh k L ∧ j + k = wh + 1 ∧ E = [s_script, .ow (W ds ((c + 1 + 1 : Nat) : Int)), s_turn, s_row, s_size, s_round_so, s_k, s_many, s_packets, s_left, s_come, s_near, s_able, s_place, s_own, s_missing, s_spans, .sh (natI count), s_losses, s_due, .sh (natI most), .sh (natI wh), .sh (natI k), .ow (.list (L.map pD)), s_later, s_left_now, s_room, s_lost, s_bits, s_j, s_parity, s_at]) (wh + 1) ⟨0, [((count : Int), (wh : Int))], _, _, _, _, ⟨h_later, h_left_now, h_room, h_lost⟩, ⟨fun p hp => by rw [List.mem_singleton.mp hp]; show 1 ≤ (count : Int) ∧ (count : Int) ≤ 6 ∧ 0 ≤ (wh : Int) ∧ (wh : Int) + ((0 : Nat) : Int) ≤ wh; omega, fun _ => ⟨_, List.mem_singleton.mpr rfl, by show (wh : Int) + ((0 : Nat) : Int) = wh; omega⟩, by simp⟩, rfl, rfl⟩ (by omega) fun j E hI => ?_
  obtain ⟨k, L, s_later, s_left_now, s_room, s_lost, ⟨h_later, h_left_now, h_room, h_lost⟩, hL, hj, rfl⟩ := hI
  push_cast [List.length_nil]
  rw [x_neN _ (okpD L)]
  have hll := hL.len
  cases L with
  | nil =>
    have hk : k = 1 + wh := by
      by_cases c : k ≤ wh
      · obtain ⟨p, hp, _⟩ := hL.some c
        cases hp
      · omega
    subst hk
    push_cast [List.map_nil, List.isEmpty_nil]
    rw [worst_w 7 h1 hm3.1]
    push_cast [List.length_nil]
    rw [same_all 0 _ (.int _ _) 7]
    push_cast [List.length_nil]
    exact hQ _ _ _ _ _ _ _ _ _ (fr_sh _) (fr_sh _) (fr_sh _) (fr_ow _) h_later h_left_now h_room h_lost
  | cons a L =>
    have ha := hL.b a List.mem_cons_self
    generalize hLL : a :: L = LL at *
    push_cast [↓fr_Sv h_left_now, ↓fr_Sv h_room, ↓fr_Sv h_lost, ↓fr_SvT h_later, show (LL.map pD).isEmpty = false by rw [← hLL]; rfl]
    refine wFor_ok (fun i E => ∃ (K : List (Int × Int)) (s_left_now s_room s_lost : Pv.Slot), (Fr s_left_now ∧ Fr s_room ∧ Fr s_lost) ∧ KOk wh k (LL.take i) K ∧ E = [s_script, .ow (W ds ((c + 1 + 1 : Nat) : Int)), s_turn, s_row, s_size, s_round_so, s_k, s_many, s_packets, s_left, s_come, s_near, s_able, s_place, s_own, s_missing, s_spans, .sh (natI count), s_losses, s_due, .sh (natI most), .sh (natI wh), .sh (natI (k + 1)), .sh (.list (LL.map pD)), .ow (.dict (tMark :: kvD K)), s_left_now, s_room, s_lost, s_bits, s_j, s_parity, s_at]) ⟨[], _, _, _, ⟨h_left_now, h_room, h_lost⟩, ⟨fun p hp => (by cases hp), .nil, fun p hp => by rw [List.take_zero] at hp; cases hp⟩, rfl⟩ (fun i x E hx hE => ?_) (fun E' hE => ?_)
    · obtain ⟨K, s_left_now, s_room, s_lost, ⟨h_left_now, h_room, h_lost⟩, hK, rfl⟩ := hE
      obtain ⟨hi, rfl⟩ := getR (f := pD) hx
      have htk := List.take_succ_eq_append_getElem hi
      have hp := hL.b _ (List.getElem_mem hi)
      have hKl := hK.len (by omega)
      rw [htk]
      generalize LL[i] = p at *
      obtain ⟨le, ro⟩ := p
      obtain ⟨le, rfl⟩ := Int.eq_ofNat_of_zero_le (show (0 : Int) ≤ le by have := hp.1; simp only at this; omega)
      obtain ⟨ro, rfl⟩ := Int.eq_ofNat_of_zero_le hp.2.2.1
      simp only at hp
      push_cast [↓fr_Sv h_left_now, ↓fr_Sv h_room, ↓fr_Sv h_lost]
      obtain ⟨mm, hmm⟩ : ∃ mm : Nat, mm = min (min le most) ro := ⟨_, rfl⟩
      rw [w_min3, show (if (ro : Int) < (if (most : Int) < (le : Int) then (most : Int) else (le : Int)) then (ro : Int) else if (most : Int) < (le : Int) then (most : Int) else (le : Int)) = (mm : Int) by split <;> split <;> omega]
      push_cast [↓fr_Sv h_lost]
      refine ⟨by omega, ?_⟩
      rw [show ((mm : Int) + 1 - 1).toNat = mm by omega, rngI_map]
      refine wComp_mapA (List.range mm) (fun i : Nat => PyData.int (1 + (i : Int))) (fun i : Nat => .tuple [pD (1 + (i : Int), (ro : Int) - (1 + (i : Int))), .bool true]) (by rw [List.length_range]; omega) (fun i hi => ?_) ?_
      · push_cast [↓fr_Sv h_lost]
        rfl
      rw [show (List.range mm).map (fun i : Nat => PyData.tuple [pD (1 + (i : Int), (ro : Int) - (1 + (i : Int))), .bool true]) = (stepL mm (ro : Int)).map fun p => .tuple [pD p, .bool true] by unfold stepL; rw [List.map_map]; rfl]
      have hsl : (stepL mm (ro : Int)).length = mm := by unfold stepL; rw [List.length_map, List.length_range]
      push_cast [x_dictTP _ (step_nd mm (ro : Int))]
      rw [x_updP K _ (by omega) (by omega) (.inr (step_hash (by omega) (by omega)))]
      push_cast [List.length_nil]
      exact ⟨_, _, _, _, ⟨fr_sh _, fr_sh _, h_lost⟩, kok_step hK (by omega) ⟨by show (0 : Int) ≤ (ro : Int); omega, hp.2.2.2⟩ (by show (mm : Int) ≤ (ro : Int); omega) (fun z => by have z : (1 : Int) ≤ (ro : Int) := z; omega), rfl⟩
    obtain ⟨K, s_left_now, s_room, s_lost, ⟨h_left_now, h_room, h_lost⟩, hK, rfl⟩ := hE
    rw [List.length_map, List.take_length] at hK
    obtain ⟨K', hp, hs⟩ := x_srtTP K (by have := hK.len (show wh ≤ 5 by omega); omega)
    push_cast [hs]
    exact ⟨j - 1, by omega, k + 1, K', _, _, _, _, ⟨fr_ow _, h_left_now, h_room, h_lost⟩, lyok_next (by omega) hL hK hp, by omega, rfl⟩
end LawP

set_option Elab.async false
set_option linter.all false
set_option maxRecDepth 100000
set_option maxHeartbeats 2000000
namespace LawP
open PySem Pv
local macro_rules
  | `(tactic| push_cast [$args,*]) => `(tactic| try simp only [↓wp_some, ↓wGet_z, ↓wGet_s, ↓wSet_z, ↓wSet_s, ↓wCt_sh, ↓wCt_ow, ↓wCt_io, ↓wG_val, ↓wG_bor, ↓wV_sh, ↓wV_ow, ↓wE_k, ↓wE_var, ↓wOv_sh, ↓wOv_ow, ↓wOv_io, ↓wO_var, ↓wO_k, ↓wO_glb, ↓wO_bin, ↓wO_neg, ↓wO_not, ↓wO_cmp, ↓wO_chain, ↓wO_chn3, ↓wO_and, ↓wO_or, ↓wO_ite, ↓wO_tup, ↓wO_lst, ↓wO_dctT, ↓wO_dct, ↓wO_idx, ↓wO_slc, ↓wO_call, ↓wO_blt, ↓wO_mth, ↓wO_upd, ↓wO_mut, ↓wO_rng, ↓wO_comp, ↓wO_callB, ↓wO_kys, ↓wO_fz, ↓wO_rev, ↓wO_lrg, ↓wO_lrs, ↓wO_lzp, ↓wO_trg, ↓wO_lix, ↓wO_cnt, ↓wO_srs, ↓wO_rgs, ↓wO_zip, ↓wO_inr, ↓wO_isi, ↓wO_comp2, ↓wE_bin, ↓wNeg_i, ↓wNot_b, ↓wE_neg, ↓wE_not, ↓wE_cmp, ↓wC_t, ↓wC_f, ↓wC_d, ↓wC_nd, ↓wE_chain, ↓wE_chn3, ↓wE_and, ↓wE_or, ↓wE_ite, ↓wEs_nil, ↓wEs_cons, ↓wOs_nil, ↓wOs_cons, ↓wLim_eq, ↓wE_tup, ↓wE_lst, ↓wE_dctT, ↓wE_dct, ↓wE_idx, ↓wE_slc, ↓wE_rev, ↓wMv_ow, ↓wMv_io, ↓wM_eq, ↓wPv_ow, ↓wPv_io, ↓wP_eq, ↓wMs_nil, ↓wMs_cons, ↓wPs_nil, ↓wPs_cons, ↓wA_nil, ↓wA_cons, ↓wE_call', ↓wLn_sh, ↓wLn_ow, ↓wLn_io, ↓wLns_nil, ↓wLns_cons, ↓wFl_int, ↓wFl_bool, ↓wFl_none, ↓wFl_str, ↓wE_callB', ↓wE_glb', ↓wTs_nil, ↓wTs_cons, ↓wE_blt, ↓wL_l, ↓wDm2_l, ↓wDm2_d, ↓wDm_l, ↓wDm_d, ↓wE_mth, ↓wE_lix, ↓wE_cnt, ↓wTd_t, ↓wE_upd, ↓wE_mut, ↓wE_kys, ↓wE_fz, ↓wE_rng, ↓wE_lrg, ↓wE_lrs, ↓wE_lzp, ↓wTr_l, ↓wE_trg, ↓wE_srs, ↓wE_rgs, ↓wE_zip, ↓wE_inr, ↓wE_isi, ↓wH_val, ↓wH_bor, ↓wI_l, ↓wI_t, ↓wE_comp, ↓wE_comp2, ↓wKo_nx, ↓wKo_ret, ↓wKo_brk, ↓wKo_ct, ↓wXs_nil, ↓wXs_cons, ↓wSv_un, ↓wSv_sh, ↓wSv_ow, ↓wSv_unT, ↓wSv_shT, ↓wSv_owT, ↓wS_eq, ↓wF_i, ↓wF_b, ↓wF_n, ↓wF_t, ↓wF_s, ↓wF_llst, ↓wF_lcmp, ↓wF_lrev, ↓wF_lslc, ↓wF_lbli, ↓wF_lsrs, ↓wF_lsrt, ↓wF_ladd, ↓wF_lmul, ↓wF_lcm2, ↓wF_llrg, ↓wF_llrs, ↓wF_llzp, ↓wF_lvar, ↓wF_lcal, ↓wF_lidx, ↓wF_lmut, ↓wF_lupd, ↓wF_lmth, ↓wF_liteV, ↓wF_liteK, ↓wF_liteI, ↓wF_liteC, ↓wF_liteM, ↓wF_liteS, ↓wF_liteT, ↓wF_liteB, ↓wF_liteN, ↓wF_liteG, ↓wF_liteLV, ↓wF_liteLK, ↓wF_liteLI, ↓wF_liteLC, ↓wF_liteLM, ↓wF_liteLS, ↓wF_liteLT, ↓wF_liteLB, ↓wF_liteLN, ↓wF_liteLG, ↓wF_liteLL, ↓wF_ddctT, ↓wF_ddct, ↓wF_dbld, ↓wF_dbldT, ↓wF_dvar, ↓wF_dcal, ↓wF_didx, ↓wX_asg, ↓wX_tup, ↓wAs_name, ↓wAs_tup, ↓wAs_tupL, ↓wAss_nil, ↓wAss_cons, ↓wPar_nil, ↓wPar_cons, ↓wX_par, ↓wX_aug, ↓wX_augS, ↓wX_setS, ↓w_ii2, ↓w_lsM, ↓wX_parS, ↓wX_exp, ↓wX_ret, ↓wX_ite, ↓wX_for, ↓wX_while, ↓wX_brk, ↓wX_ct, ↓wX_pass, ↓w_add, ↓w_sub, ↓w_mul, ↓w_fdiv, ↓w_mod, ↓w_pow, ↓w_addL, ↓w_addT, ↓w_mulL, ↓w_gadd, ↓w_gsub, ↓w_lt, ↓w_le, ↓w_gt, ↓w_ge, ↓w_eq, ↓w_ne, ↓w_isNN, ↓w_revL, ↓w_revT, ↓w_abs, ↓w_int, ↓w_lenL, ↓w_lenT, ↓w_lenS, ↓w_tupL, ↓w_tupT, ↓w_lisL, ↓w_lisT, ↓w_min2, ↓w_max2, ↓w_app, ↓wq_rng1, ↓wq_rng2, ↓w_isNi, ↓w_isNt, ↓w_isNl, ↓w_isNd, ↓w_isNs, ↓w_isNb, ↓w_notNi, ↓w_notNt, ↓w_notNl, ↓w_notNd, ↓w_notNs, ↓w_notNb, ↓w_notNN, ↓w_isB, ↓w_notB, ↓w_intB, ↓w_zipL, ↓w_zipT, ↓w_inr1, ↓w_inr2, ↓w_tyN, ↓w_tyBi, ↓w_tyBb, ↓w_tyBs, ↓w_tyBt, ↓w_tyBl, ↓w_tyBd, ↓w_tyIi, ↓w_tyIb, ↓w_tyIs, ↓w_tyIt, ↓w_tyIl, ↓w_tyId, ↓w_tySi, ↓w_tySb, ↓w_tySs, ↓w_tySt, ↓w_tySl, ↓w_tySd, ↓w_tyTi, ↓w_tyTb, ↓w_tyTs, ↓w_tyTt, ↓w_tyTl, ↓w_tyTd, ↓w_tyLi, ↓w_tyLb, ↓w_tyLs, ↓w_tyLt, ↓w_tyLl, ↓w_tyLd, ↓w_it0, ↓w_it1, ↓w_it2, ↓w_it3, ↓w_it4, ↓w_it5, ↓w_l1, ↓w_l2, ↓w_l0, ↓wWi_nil, ↓wWi_cons, ↓wComp_map, ↓wComp_rng, ↓wComp_mapA, ↓wComp_rngA, ↓wOut_nx, ↓wOut_ret, ↓wOut_nx1, ↓wOut_ret1, ↓wOut_nx2, ↓wOut_ret2, ↓wDi_W, ↓wDm_W, ↓wDm2_W, ↓wD_A, ↓wD_D, ↓wD_S, ↓wD_N, ↓lp_nx, ↓lp_ct, ↓lp_brk, ↓lp_ret, ↓x_sum, ↓x_sumT, ↓x_all, ↓x_any, ↓x_eqT, ↓x_neT, ↓x_eqL, ↓x_neL, ↓x_inL, ↓x_inT, ↓wInn_row, List.length_cons, List.length_nil, Nat.reduceAdd, Nat.reduceLeDiff, true_and, if_true, if_false, eq_self, decide_true, decide_false, Bool.not_true, Bool.not_false, Bool.false_eq_true, $args,*])
theorem wComp_invP {C : Pv.Ctx} {elt c : IR} {t : Tg} {own : List Nat} {E : Pv.Env} {Q : D → Pv.Env → Prop} {α : Type} (P : α → Prop) (l : List α) (g f : α → D) (I : Pv.Env → Prop) (hl : l.length ≤ 16777216) (hi : wWi own E I)
    (h : ∀ x ∈ l, ∀ E0, I E0 → wAs t (g x) E0 fun E1 => wE C c E1 fun d E2 => ∃ b, d = .bool b ∧ (b = true → P x ∧ wE C elt E2 fun y E3 => y = f x ∧ wWi own E3 I) ∧ (b = false → wWi own E2 I))
    (hq : ∀ (ys : List α) E', ys.Sublist l → (∀ y ∈ ys, P y) → I E' → Q (.list (ys.map f)) (backs E E' own)) : wComp C elt t c own (l.map g) E Q := by
  have key : ∀ (zs : List α) (E0 : Pv.Env), (∀ z ∈ zs, z ∈ l) → I E0 → ∃ (ys : List α) (E' : Pv.Env), compL (assignT t) own (ev C c) (ev C elt) (zs.map g) E0 = some (ys.map f, E') ∧ ys.Sublist zs ∧ (∀ y ∈ ys, P y) ∧ I E' := by
    intro zs
    induction zs with
    | nil => intro E0 _ i0; exact ⟨[], E0, by simp only [List.map_nil, compL], List.Sublist.slnil, fun y hy => (by cases hy), i0⟩
    | cons x r ih =>
      intro E0 hm i0
      obtain ⟨E1, h1, ⟨d, E2⟩, h2, b, rfl, h3, h4⟩ := h x (hm x List.mem_cons_self) E0 i0
      cases b with
      | true =>
        obtain ⟨px, ⟨y, E3⟩, h5, rfl, i3⟩ := h3 rfl
        obtain ⟨ys, E', e', p', q', i'⟩ := ih (wipes E3 own) (fun z hz => hm z (List.mem_cons_of_mem _ hz)) i3
        refine ⟨x :: ys, E', by simp only [List.map_cons, compL, h1, Option.bind_some, h2, h5, e', Option.map_some], p'.cons₂ _, fun y hy => ?_, i'⟩
        rcases List.mem_cons.mp hy with rfl | hy
        · exact px
        · exact q' y hy
      | false =>
        obtain ⟨ys, E', e', p', q', i'⟩ := ih (wipes E2 own) (fun z hz => hm z (List.mem_cons_of_mem _ hz)) (h4 rfl)
        exact ⟨ys, E', by simp only [List.map_cons, compL, h1, Option.bind_some, h2, e'], p'.cons _, q', i'⟩
  obtain ⟨ys, E', e', p', q', i'⟩ := key l (wipes E own) (fun _ h => h) hi
  exact ⟨by rw [List.length_map]; exact hl, _, e', hq ys E' p' q' i'⟩
theorem pick_w (n : Nat) {ds : List D} (hd : Ints ds) (c : Nat) (rows : List D) (h0 : 0 < rows.length) (h1 : rows.length ≤ 1000) (Q) (hq : ∀ k (h : k < rows.length), Q rows[k] [W ds ((c + 1 : Nat) : Int)]) : wK (callN tab gls (n + 2) 12 [W ds (c : Nat), .list rows]) Q := by
  refine def_run (F := d__law_pick) (E := [.io (W ds (c : Nat)), .sh (.list rows)]) rfl ⟨rfl, by decide, by decide⟩ rfl ?_
  unfold d__law_pick
  push_cast [List.length_nil]
  refine next_w n hd c _ (by omega) _ fun r r0 r1 => ?_
  push_cast [List.length_nil]
  rw [w_itL _ _ r.toNat rows[r.toNat] _ (at_nat (by omega) (by omega)) (List.getElem?_eq_getElem (by omega))]
  exact hq _ (by omega)
theorem pickF_w {α : Type} (n : Nat) {ds : List D} (hd : Ints ds) (c : Nat) (f : α → D) (zs : List α) (h0 : 0 < zs.length) (h1 : zs.length ≤ 1000) (Q) (hq : ∀ z ∈ zs, Q (f z) [W ds ((c + 1 : Nat) : Int)]) : wK (callN tab gls (n + 2) 12 [W ds c, .list (zs.map f)]) Q := by
  refine pick_w n hd c _ (by simpa using h0) (by simpa using h1) Q fun k hk => ?_
  rw [List.getElem_map]
  exact hq _ (List.getElem_mem _)
theorem x_inNL (p : Nat) (l : List Nat) (Q) : wp (cmpop .isin (natI p) (.list (l.map natI))) Q = Q (decide (p ∈ l)) := wp_of (by
  show (if okD (natI p) && okD (.list (l.map natI)) then some ((l.map natI).any fun z => PyData.eqv z (natI p)) else none) = _
  rw [show okD (natI p) = true from rfl, show okD (.list (l.map natI)) = true from okds_map natI 39 l fun _ _ => rfl, any_nat]; rfl)
theorem x_tk3 {α : Type} (f : α → D) (L : List α) (ir : IR) (z : Int) (k : Nat) (e : z = (k : Int)) (h : noneK ir = false) (Q) : wp (optX (.k .none) .none) (fun l => wp (optX ir (.int z)) fun h => wp (slice (.list (L.map f)) l h) Q) = Q (.list ((L.take k).map f)) := by
  subst e
  rw [optX_i ir h]
  simp only [optX, wp_some, slice]
  have e1 : cut (L.map f) none (some (k : Int)) = (L.take k).map f := by
    unfold cut
    rw [sIx_n, List.length_map, List.map_take]
    show ((L.map f).drop 0).take (min k L.length - 0) = _
    rw [List.drop_zero, Nat.sub_zero]
    by_cases hk : k ≤ L.length
    · rw [Nat.min_eq_left hk]
    · rw [Nat.min_eq_right (by omega), List.take_of_length_le (by rw [List.length_map]; omega), List.take_of_length_le (by rw [List.length_map]; omega)]
  rw [e1]
theorem left_snoc (M : Nat) (P : List Nat) (p : Nat) : (leftL M P).filter (fun q => !decide (q = p)) = leftL M (P ++ [p]) := by
  unfold leftL
  rw [List.filter_filter]
  congr 1
  funext q
  by_cases h : q ∈ P <;> by_cases e : q = p <;> simp [h, e]
theorem left_nil (M : Nat) : leftL M [] = List.range M := by unfold leftL; simp
theorem left_le (M : Nat) (P : List Nat) : (leftL M P).length ≤ M := by
  have := List.length_filter_le (fun p => !decide (p ∈ P)) (List.range M)
  rw [List.length_range] at this
  unfold leftL; exact this
theorem segA {R : List SIR} {Q : Out → Prop} {ds : List D} (hd : Ints ds) (c : Nat)  {s_script s_turn s_row s_size s_round_so s_k s_many s_packets s_left s_come s_near s_able s_place s_own s_missing s_spans s_count s_losses s_due s_most s_whole s_best s_layer s_later s_left_now s_room s_lost s_bits s_j s_parity s_at : Pv.Slot}
    (hQ : ∀ (c' : Nat) (row : List Int) (s t : Nat), row.length ≤ 9 → 1 ≤ s → s ≤ 3 → 2 ≤ t → t ≤ 7 → wXs CC R [s_script, .ow (W ds (c' : Nat)), s_turn, .sh (tuI row), .sh (natI s), .sh (natI t), s_k, .sh (natI (mny row.length s)), .sh (.tuple (pksL row s t)), s_left, s_come, s_near, s_able, s_place, s_own, s_missing, s_spans, s_count, s_losses, s_due, s_most, s_whole, s_best, s_layer, s_later, s_left_now, s_room, s_lost, s_bits, s_j, s_parity, s_at] Q) (h_script : Fr s_script := by first | assumption | exact fr_sh _ | exact fr_ow _ | exact fr_un) (h_turn : Fr s_turn := by first | assumption | exact fr_sh _ | exact fr_ow _ | exact fr_un) (h_row : Fr s_row := by first | assumption | exact fr_sh _ | exact fr_ow _ | exact fr_un) (h_size : Fr s_size := by first | assumption | exact fr_sh _ | exact fr_ow _ | exact fr_un) (h_round_so : Fr s_round_so := by first | assumption | exact fr_sh _ | exact fr_ow _ | exact fr_un) (h_k : Fr s_k := by first | assumption | exact fr_sh _ | exact fr_ow _ | exact fr_un) (h_many : Fr s_many := by first | assumption | exact fr_sh _ | exact fr_ow _ | exact fr_un) (h_packets : Fr s_packets := by first | assumption | exact fr_sh _ | exact fr_ow _ | exact fr_un) (h_left : Fr s_left := by first | assumption | exact fr_sh _ | exact fr_ow _ | exact fr_un) (h_come : Fr s_come := by first | assumption | exact fr_sh _ | exact fr_ow _ | exact fr_un) (h_near : Fr s_near := by first | assumption | exact fr_sh _ | exact fr_ow _ | exact fr_un) (h_able : Fr s_able := by first | assumption | exact fr_sh _ | exact fr_ow _ | exact fr_un) (h_place : Fr s_place := by first | assumption | exact fr_sh _ | exact fr_ow _ | exact fr_un) (h_own : Fr s_own := by first | assumption | exact fr_sh _ | exact fr_ow _ | exact fr_un) (h_missing : Fr s_missing := by first | assumption | exact fr_sh _ | exact fr_ow _ | exact fr_un) (h_spans : Fr s_spans := by first | assumption | exact fr_sh _ | exact fr_ow _ | exact fr_un) (h_count : Fr s_count := by first | assumption | exact fr_sh _ | exact fr_ow _ | exact fr_un) (h_losses : Fr s_losses := by first | assumption | exact fr_sh _ | exact fr_ow _ | exact fr_un) (h_due : Fr s_due := by first | assumption | exact fr_sh _ | exact fr_ow _ | exact fr_un) (h_most : Fr s_most := by first | assumption | exact fr_sh _ | exact fr_ow _ | exact fr_un) (h_whole : Fr s_whole := by first | assumption | exact fr_sh _ | exact fr_ow _ | exact fr_un) (h_best : Fr s_best := by first | assumption | exact fr_sh _ | exact fr_ow _ | exact fr_un) (h_layer : Fr s_layer := by first | assumption | exact fr_sh _ | exact fr_ow _ | exact fr_un) (h_later : Fr s_later := by first | assumption | exact fr_sh _ | exact fr_ow _ | exact fr_un) (h_left_now : Fr s_left_now := by first | assumption | exact fr_sh _ | exact fr_ow _ | exact fr_un) (h_room : Fr s_room := by first | assumption | exact fr_sh _ | exact fr_ow _ | exact fr_un) (h_lost : Fr s_lost := by first | assumption | exact fr_sh _ | exact fr_ow _ | exact fr_un) (h_bits : Fr s_bits := by first | assumption | exact fr_sh _ | exact fr_ow _ | exact fr_un) (h_j : Fr s_j := by first | assumption | exact fr_sh _ | exact fr_ow _ | exact fr_un) (h_parity : Fr s_parity := by first | assumption | exact fr_sh _ | exact fr_ow _ | exact fr_un) (h_at : Fr s_at := by first | assumption | exact fr_sh _ | exact fr_ow _ | exact fr_un) : wXs CC ((.par [3, 4, 5] [(.blt .tuple [(.comp (.call 11 [1] [(.k (.int 256))]) (.name 6) (.rng [(.call 11 [1] [(.k (.int 10))])]) (.k (.bool true)) [6])]), (.bin .add (.k (.int 1)) (.call 11 [1] [(.k (.int 3))])), (.bin .add (.k (.int 2)) (.call 11 [1] [(.k (.int 6))]))]) :: (.asg (.name 7) (.bin .fdiv (.bin .sub (.bin .add (.blt .len [(.var 3)]) (.var 4)) (.k (.int 1))) (.var 4))) :: (.asg (.name 8) (.blt .tuple [(.comp (.tup [(.bin .mod (.blt .int [(.var 6)]) (.var 5)), (.slc (.var 3) (.bin .mul (.var 6) (.var 4)) (.bin .add (.bin .mul (.var 6) (.var 4)) (.var 4)))]) (.name 6) (.rng [(.var 7)]) (.k (.bool true)) [6])])) :: (.ite (.not (.call 13 [] [(.call 0 [] [(.var 3), (.var 4), (.var 5)]), (.var 8)])) [(.ret (.k (.bool false)))] []) :: R) [s_script, .ow (W ds (c : Nat)), s_turn, s_row, s_size, s_round_so, s_k, s_many, s_packets, s_left, s_come, s_near, s_able, s_place, s_own, s_missing, s_spans, s_count, s_losses, s_due, s_most, s_whole, s_best, s_layer, s_later, s_left_now, s_room, s_lost, s_bits, s_j, s_parity, s_at] Q := by
  unfold CC at *
  push_cast [List.length_nil]
  refine next_w 7 hd c 10 (by decide) _ fun m m0 m1 => ?_
  obtain ⟨m, rfl⟩ := Int.eq_ofNat_of_zero_le m0
  push_cast [List.length_nil]
  refine ⟨by omega, ?_⟩
  refine wComp_inv _ (fun E => ∃ c' : Nat, E = [s_script, .ow (W ds (c' : Nat)), s_turn, s_row, s_size, s_round_so, .un, s_many, s_packets, s_left, s_come, s_near, s_able, s_place, s_own, s_missing, s_spans, s_count, s_losses, s_due, s_most, s_whole, s_best, s_layer, s_later, s_left_now, s_room, s_lost, s_bits, s_j, s_parity, s_at]) (fun y => ∃ r : Int, True ∧ y = .int r) (by rw [rngI_len]; omega) ⟨_, rfl⟩ (fun x hx E0 hE => ?_) (fun ys E' hl hP hE => ?_)
  · obtain ⟨c', rfl⟩ := hE
    push_cast [List.length_nil]
    refine next_w 7 hd c' 256 (by decide) _ fun r r0 r1 => ?_
    push_cast [List.length_nil]
    first | exact ⟨⟨r, trivial, rfl⟩, _, rfl⟩ | exact ⟨⟨r, rfl⟩, _, rfl⟩ | exact ⟨_, rfl⟩
  · obtain ⟨c', rfl⟩ := hE
    obtain ⟨row, rfl, _, hl2⟩ := all_map ys hP
    rw [rngI_len, ← hl2] at hl
    rw [show backs [s_script, .ow (W ds ((c + 1 : Nat) : Int)), s_turn, s_row, s_size, s_round_so, s_k, s_many, s_packets, s_left, s_come, s_near, s_able, s_place, s_own, s_missing, s_spans, s_count, s_losses, s_due, s_most, s_whole, s_best, s_layer, s_later, s_left_now, s_room, s_lost, s_bits, s_j, s_parity, s_at] [s_script, .ow (W ds (c' : Nat)), s_turn, s_row, s_size, s_round_so, .un, s_many, s_packets, s_left, s_come, s_near, s_able, s_place, s_own, s_missing, s_spans, s_count, s_losses, s_due, s_most, s_whole, s_best, s_layer, s_later, s_left_now, s_room, s_lost, s_bits, s_j, s_parity, s_at] [6] = [s_script, .ow (W ds (c' : Nat)), s_turn, s_row, s_size, s_round_so, s_k, s_many, s_packets, s_left, s_come, s_near, s_able, s_place, s_own, s_missing, s_spans, s_count, s_losses, s_due, s_most, s_whole, s_best, s_layer, s_later, s_left_now, s_room, s_lost, s_bits, s_j, s_parity, s_at] from rfl]
    push_cast [List.length_nil]
    refine next_w 7 hd c' 3 (by decide) _ fun s s0 s1 => ?_
    obtain ⟨s, rfl⟩ := Int.eq_ofNat_of_zero_le s0
    push_cast [List.length_nil]
    refine next_w 7 hd _ 6 (by decide) _ fun t t0 t1 => ?_
    obtain ⟨t, rfl⟩ := Int.eq_ofNat_of_zero_le t0
    push_cast [↓fr_Sv h_row, ↓fr_Sv h_size, ↓fr_Sv h_round_so, ↓fr_Sv h_many, ↓fr_Sv h_packets, show (1 : Int) + (s : Int) = ((1 + s : Nat) : Int) by omega, show (2 : Int) + (t : Int) = ((2 + t : Nat) : Int) by omega]
    generalize hs' : 1 + s = s' at *
    generalize ht' : 2 + t = t' at *
    rw [List.length_map]
    refine ⟨by omega, ?_⟩
    rw [lmny _ _ (by omega)]
    have hm := mny_le (L := row.length) (s := s') (by omega)
    push_cast [↓fr_Sv h_many, ↓fr_Sv h_packets]
    refine ⟨by omega, ?_⟩
    rw [Int.toNat_natCast, rngI_0]
    refine wComp_mapA (List.range (mny row.length s')) natI (pkD row s' t') (by rw [List.length_range]; omega) (fun k hk => ?_) ?_
    · have hk := List.mem_range.mp hk
      push_cast [List.length_nil]
      refine ⟨by omega, by omega, by omega, ?_⟩
      rw [x_slT row _ _ _ _ (k * s') (k * s' + s') (Int.natCast_mul k s').symm (by rw [Int.natCast_add, Int.natCast_mul]) rfl rfl, part_eq, fmn]
      push_cast [List.length_nil]
      exact ⟨rfl, rfl⟩
    rw [show (List.range (mny row.length s')).map (pkD row s' t') = pksL row s' t' from rfl]
    push_cast [↓fr_Sv h_packets]
    rw [packets_w 7 (by omega) (by omega) (by omega) (by omega)]
    push_cast [List.length_nil]
    rw [same_all 3 (.tuple (pksL row s' t')) (sm_map 2 (pkD row s' t') _ (fun k _ => sm_2 1 _ _ (.int _ _) (sm_tuI 0 _ (by unfold part; rw [List.length_take, List.length_drop]; omega))) (by rw [List.length_range]; omega)) 4]
    push_cast [List.length_nil]
    exact hQ _ row s' t' (by omega) (by omega) (by omega) (by omega) (by omega)
end LawP

set_option Elab.async false
set_option linter.all false
set_option maxRecDepth 100000
set_option maxHeartbeats 2000000
namespace LawP
open PySem Pv
local macro_rules
  | `(tactic| push_cast [$args,*]) => `(tactic| try simp only [↓wp_some, ↓wGet_z, ↓wGet_s, ↓wSet_z, ↓wSet_s, ↓wCt_sh, ↓wCt_ow, ↓wCt_io, ↓wG_val, ↓wG_bor, ↓wV_sh, ↓wV_ow, ↓wE_k, ↓wE_var, ↓wOv_sh, ↓wOv_ow, ↓wOv_io, ↓wO_var, ↓wO_k, ↓wO_glb, ↓wO_bin, ↓wO_neg, ↓wO_not, ↓wO_cmp, ↓wO_chain, ↓wO_chn3, ↓wO_and, ↓wO_or, ↓wO_ite, ↓wO_tup, ↓wO_lst, ↓wO_dctT, ↓wO_dct, ↓wO_idx, ↓wO_slc, ↓wO_call, ↓wO_blt, ↓wO_mth, ↓wO_upd, ↓wO_mut, ↓wO_rng, ↓wO_comp, ↓wO_callB, ↓wO_kys, ↓wO_fz, ↓wO_rev, ↓wO_lrg, ↓wO_lrs, ↓wO_lzp, ↓wO_trg, ↓wO_lix, ↓wO_cnt, ↓wO_srs, ↓wO_rgs, ↓wO_zip, ↓wO_inr, ↓wO_isi, ↓wO_comp2, ↓wE_bin, ↓wNeg_i, ↓wNot_b, ↓wE_neg, ↓wE_not, ↓wE_cmp, ↓wC_t, ↓wC_f, ↓wC_d, ↓wC_nd, ↓wE_chain, ↓wE_chn3, ↓wE_and, ↓wE_or, ↓wE_ite, ↓wEs_nil, ↓wEs_cons, ↓wOs_nil, ↓wOs_cons, ↓wLim_eq, ↓wE_tup, ↓wE_lst, ↓wE_dctT, ↓wE_dct, ↓wE_idx, ↓wE_slc, ↓wE_rev, ↓wMv_ow, ↓wMv_io, ↓wM_eq, ↓wPv_ow, ↓wPv_io, ↓wP_eq, ↓wMs_nil, ↓wMs_cons, ↓wPs_nil, ↓wPs_cons, ↓wA_nil, ↓wA_cons, ↓wE_call', ↓wLn_sh, ↓wLn_ow, ↓wLn_io, ↓wLns_nil, ↓wLns_cons, ↓wFl_int, ↓wFl_bool, ↓wFl_none, ↓wFl_str, ↓wE_callB', ↓wE_glb', ↓wTs_nil, ↓wTs_cons, ↓wE_blt, ↓wL_l, ↓wDm2_l, ↓wDm2_d, ↓wDm_l, ↓wDm_d, ↓wE_mth, ↓wE_lix, ↓wE_cnt, ↓wTd_t, ↓wE_upd, ↓wE_mut, ↓wE_kys, ↓wE_fz, ↓wE_rng, ↓wE_lrg, ↓wE_lrs, ↓wE_lzp, ↓wTr_l, ↓wE_trg, ↓wE_srs, ↓wE_rgs, ↓wE_zip, ↓wE_inr, ↓wE_isi, ↓wH_val, ↓wH_bor, ↓wI_l, ↓wI_t, ↓wE_comp, ↓wE_comp2, ↓wKo_nx, ↓wKo_ret, ↓wKo_brk, ↓wKo_ct, ↓wXs_nil, ↓wXs_cons, ↓wSv_un, ↓wSv_sh, ↓wSv_ow, ↓wSv_unT, ↓wSv_shT, ↓wSv_owT, ↓wS_eq, ↓wF_i, ↓wF_b, ↓wF_n, ↓wF_t, ↓wF_s, ↓wF_llst, ↓wF_lcmp, ↓wF_lrev, ↓wF_lslc, ↓wF_lbli, ↓wF_lsrs, ↓wF_lsrt, ↓wF_ladd, ↓wF_lmul, ↓wF_lcm2, ↓wF_llrg, ↓wF_llrs, ↓wF_llzp, ↓wF_lvar, ↓wF_lcal, ↓wF_lidx, ↓wF_lmut, ↓wF_lupd, ↓wF_lmth, ↓wF_liteV, ↓wF_liteK, ↓wF_liteI, ↓wF_liteC, ↓wF_liteM, ↓wF_liteS, ↓wF_liteT, ↓wF_liteB, ↓wF_liteN, ↓wF_liteG, ↓wF_liteLV, ↓wF_liteLK, ↓wF_liteLI, ↓wF_liteLC, ↓wF_liteLM, ↓wF_liteLS, ↓wF_liteLT, ↓wF_liteLB, ↓wF_liteLN, ↓wF_liteLG, ↓wF_liteLL, ↓wF_ddctT, ↓wF_ddct, ↓wF_dbld, ↓wF_dbldT, ↓wF_dvar, ↓wF_dcal, ↓wF_didx, ↓wX_asg, ↓wX_tup, ↓wAs_name, ↓wAs_tup, ↓wAs_tupL, ↓wAss_nil, ↓wAss_cons, ↓wPar_nil, ↓wPar_cons, ↓wX_par, ↓wX_aug, ↓wX_augS, ↓wX_setS, ↓w_ii2, ↓w_lsM, ↓wX_parS, ↓wX_exp, ↓wX_ret, ↓wX_ite, ↓wX_for, ↓wX_while, ↓wX_brk, ↓wX_ct, ↓wX_pass, ↓w_add, ↓w_sub, ↓w_mul, ↓w_fdiv, ↓w_mod, ↓w_pow, ↓w_addL, ↓w_addT, ↓w_mulL, ↓w_gadd, ↓w_gsub, ↓w_lt, ↓w_le, ↓w_gt, ↓w_ge, ↓w_eq, ↓w_ne, ↓w_isNN, ↓w_revL, ↓w_revT, ↓w_abs, ↓w_int, ↓w_lenL, ↓w_lenT, ↓w_lenS, ↓w_tupL, ↓w_tupT, ↓w_lisL, ↓w_lisT, ↓w_min2, ↓w_max2, ↓w_app, ↓wq_rng1, ↓wq_rng2, ↓w_isNi, ↓w_isNt, ↓w_isNl, ↓w_isNd, ↓w_isNs, ↓w_isNb, ↓w_notNi, ↓w_notNt, ↓w_notNl, ↓w_notNd, ↓w_notNs, ↓w_notNb, ↓w_notNN, ↓w_isB, ↓w_notB, ↓w_intB, ↓w_zipL, ↓w_zipT, ↓w_inr1, ↓w_inr2, ↓w_tyN, ↓w_tyBi, ↓w_tyBb, ↓w_tyBs, ↓w_tyBt, ↓w_tyBl, ↓w_tyBd, ↓w_tyIi, ↓w_tyIb, ↓w_tyIs, ↓w_tyIt, ↓w_tyIl, ↓w_tyId, ↓w_tySi, ↓w_tySb, ↓w_tySs, ↓w_tySt, ↓w_tySl, ↓w_tySd, ↓w_tyTi, ↓w_tyTb, ↓w_tyTs, ↓w_tyTt, ↓w_tyTl, ↓w_tyTd, ↓w_tyLi, ↓w_tyLb, ↓w_tyLs, ↓w_tyLt, ↓w_tyLl, ↓w_tyLd, ↓w_it0, ↓w_it1, ↓w_it2, ↓w_it3, ↓w_it4, ↓w_it5, ↓w_l1, ↓w_l2, ↓w_l0, ↓wWi_nil, ↓wWi_cons, ↓wComp_map, ↓wComp_rng, ↓wComp_mapA, ↓wComp_rngA, ↓wOut_nx, ↓wOut_ret, ↓wOut_nx1, ↓wOut_ret1, ↓wOut_nx2, ↓wOut_ret2, ↓wDi_W, ↓wDm_W, ↓wDm2_W, ↓wD_A, ↓wD_D, ↓wD_S, ↓wD_N, ↓lp_nx, ↓lp_ct, ↓lp_brk, ↓lp_ret, ↓x_sum, ↓x_sumT, ↓x_all, ↓x_any, ↓x_eqT, ↓x_neT, ↓x_eqL, ↓x_neL, ↓x_inL, ↓x_inT, ↓wInn_row, List.length_cons, List.length_nil, Nat.reduceAdd, Nat.reduceLeDiff, true_and, if_true, if_false, eq_self, decide_true, decide_false, Bool.not_true, Bool.not_false, Bool.false_eq_true, $args,*])
theorem near_leN {M : Nat} (P : List Nat) (hP : ∀ p ∈ P, p < M) : nearOf P 0 ≤ M := near_le P 0 (by omega) hP
theorem segB {R : List SIR} {Q : Out → Prop} {ds : List D} (hd : Ints ds) (c : Nat) {row : List Int} {s t : Nat} (hr : row.length ≤ 9) (hs : 1 ≤ s) (hs3 : s ≤ 3) (ht : 2 ≤ t) (ht7 : t ≤ 7) {s_script s_turn s_k s_left s_come s_near s_able s_place s_own s_missing s_spans s_count s_losses s_due s_most s_whole s_best s_layer s_later s_left_now s_room s_lost s_bits s_j s_parity s_at : Pv.Slot}
    (hQ : ∀ (c' : Nat) (s_left s_come s_near s_k s_able s_place : Pv.Slot), Fr s_left → Fr s_come → Fr s_near → Fr s_k → Fr s_able → Fr s_place → wXs CC R [s_script, .ow (W ds (c' : Nat)), s_turn, .sh (tuI row), .sh (natI s), .sh (natI t), s_k, .sh (natI (mny row.length s)), .sh (.tuple (pksL row s t)), s_left, s_come, s_near, s_able, s_place, s_own, s_missing, s_spans, s_count, s_losses, s_due, s_most, s_whole, s_best, s_layer, s_later, s_left_now, s_room, s_lost, s_bits, s_j, s_parity, s_at] Q) (h_script : Fr s_script := by first | assumption | exact fr_sh _ | exact fr_ow _ | exact fr_un) (h_turn : Fr s_turn := by first | assumption | exact fr_sh _ | exact fr_ow _ | exact fr_un) (h_k : Fr s_k := by first | assumption | exact fr_sh _ | exact fr_ow _ | exact fr_un) (h_left : Fr s_left := by first | assumption | exact fr_sh _ | exact fr_ow _ | exact fr_un) (h_come : Fr s_come := by first | assumption | exact fr_sh _ | exact fr_ow _ | exact fr_un) (h_near : Fr s_near := by first | assumption | exact fr_sh _ | exact fr_ow _ | exact fr_un) (h_able : Fr s_able := by first | assumption | exact fr_sh _ | exact fr_ow _ | exact fr_un) (h_place : Fr s_place := by first | assumption | exact fr_sh _ | exact fr_ow _ | exact fr_un) (h_own : Fr s_own := by first | assumption | exact fr_sh _ | exact fr_ow _ | exact fr_un) (h_missing : Fr s_missing := by first | assumption | exact fr_sh _ | exact fr_ow _ | exact fr_un) (h_spans : Fr s_spans := by first | assumption | exact fr_sh _ | exact fr_ow _ | exact fr_un) (h_count : Fr s_count := by first | assumption | exact fr_sh _ | exact fr_ow _ | exact fr_un) (h_losses : Fr s_losses := by first | assumption | exact fr_sh _ | exact fr_ow _ | exact fr_un) (h_due : Fr s_due := by first | assumption | exact fr_sh _ | exact fr_ow _ | exact fr_un) (h_most : Fr s_most := by first | assumption | exact fr_sh _ | exact fr_ow _ | exact fr_un) (h_whole : Fr s_whole := by first | assumption | exact fr_sh _ | exact fr_ow _ | exact fr_un) (h_best : Fr s_best := by first | assumption | exact fr_sh _ | exact fr_ow _ | exact fr_un) (h_layer : Fr s_layer := by first | assumption | exact fr_sh _ | exact fr_ow _ | exact fr_un) (h_later : Fr s_later := by first | assumption | exact fr_sh _ | exact fr_ow _ | exact fr_un) (h_left_now : Fr s_left_now := by first | assumption | exact fr_sh _ | exact fr_ow _ | exact fr_un) (h_room : Fr s_room := by first | assumption | exact fr_sh _ | exact fr_ow _ | exact fr_un) (h_lost : Fr s_lost := by first | assumption | exact fr_sh _ | exact fr_ow _ | exact fr_un) (h_bits : Fr s_bits := by first | assumption | exact fr_sh _ | exact fr_ow _ | exact fr_un) (h_j : Fr s_j := by first | assumption | exact fr_sh _ | exact fr_ow _ | exact fr_un) (h_parity : Fr s_parity := by first | assumption | exact fr_sh _ | exact fr_ow _ | exact fr_un) (h_at : Fr s_at := by first | assumption | exact fr_sh _ | exact fr_ow _ | exact fr_un) : wXs CC ((.par [9, 10, 11] [(.lrg [(.var 7)]), (.lst []), (.k (.int 0))]) :: (.for (.name 6) (.rng [(.bin .add (.bin .mul (.k (.int 2)) (.var 7)) (.k (.int 2)))]) [(.asg (.name 12) (.comp (.var 13) (.name 13) (.rng [(.var 7)]) (.and (.cmp .eq (.call 15 [] [(.bin .mod (.blt .int [(.var 13)]) (.var 5)), (.var 5), (.var 11)]) (.var 13)) (.and (.cmp .le (.blt .abs [(.bin .sub (.var 13) (.var 11))]) (.bin .fdiv (.var 5) (.k (.int 2)))) (.or (.cmp .isin (.var 13) (.var 9)) (.cmp .eq (.call 11 [1] [(.k (.int 4))]) (.k (.int 0)))))) [13])), (.ite (.and (.cmp .ne (.var 12) (.lst [])) (.cmp .gt (.call 11 [1] [(.k (.int 9))]) (.k (.int 0)))) [(.asg (.name 13) (.call 12 [1] [(.slc (.var 12) (.k .none) (.k (.int 3)))])), (.par [10, 9, 11] [(.bin .add (.var 10) (.lst [(.idx (.var 8) (.var 13))])), (.comp (.var 14) (.name 14) (.var 9) (.cmp .ne (.var 14) (.var 13)) [14]), (.blt .max2 [(.var 11), (.bin .add (.var 13) (.k (.int 1)))])])] [])]) :: (.ite (.not (.call 13 [] [(.call 2 [] [(.blt .tuple [(.var 10)]), (.var 4), (.var 5), (.var 7)]), (.ite (.cmp .eq (.var 9) (.lst [])) (.tup [(.k (.str (PySem.Str.ofString "yes"))), (.var 3)]) (.tup [(.k (.str (PySem.Str.ofString "no"))), (.blt .tuple [(.var 9)])]))])) [(.ret (.k (.bool false)))] []) :: R) [s_script, .ow (W ds (c : Nat)), s_turn, .sh (tuI row), .sh (natI s), .sh (natI t), s_k, .sh (natI (mny row.length s)), .sh (.tuple (pksL row s t)), s_left, s_come, s_near, s_able, s_place, s_own, s_missing, s_spans, s_count, s_losses, s_due, s_most, s_whole, s_best, s_layer, s_later, s_left_now, s_room, s_lost, s_bits, s_j, s_parity, s_at] Q := by
  have hm := mny_le (L := row.length) hs
  unfold CC at *
  push_cast [List.length_nil]
  rw [Int.toNat_natCast, rngI_0]
  refine ⟨by omega, ?_⟩
  push_cast [↓fr_Sv h_near, ↓fr_SvT h_left, ↓fr_SvT h_come]
  refine ⟨by omega, ?_⟩
  rw [show (2 * ((mny row.length s : Nat) : Int) + 2).toNat = 2 * mny row.length s + 2 by omega, rngI_0]
  refine ⟨by omega, ?_⟩
  refine wFor_ok (fun i E => ∃ (c' : Nat) (P : List Nat) (s_k s_able s_place : Pv.Slot), (Fr s_k ∧ Fr s_able ∧ Fr s_place) ∧ (∀ p ∈ P, p < mny row.length s) ∧ OkP t 0 P ∧ P.length ≤ i ∧ E = [s_script, .ow (W ds (c' : Nat)), s_turn, .sh (tuI row), .sh (natI s), .sh (natI t), s_k, .sh (natI (mny row.length s)), .sh (.tuple (pksL row s t)), .ow (.list ((leftL (mny row.length s) P).map natI)), .ow (.list (P.map (pkD row s t))), .sh (natI (nearOf P 0)), s_able, s_place, s_own, s_missing, s_spans, s_count, s_losses, s_due, s_most, s_whole, s_best, s_layer, s_later, s_left_now, s_room, s_lost, s_bits, s_j, s_parity, s_at]) ⟨c, [], _, _, _, ⟨h_k, h_able, h_place⟩, fun p hp => (by cases hp), trivial, Nat.le_refl _, by rw [left_nil]; rfl⟩ (fun i x E hx hE => ?_) (fun E' hE => ?_)
  · obtain ⟨c', P, s_k, s_able, s_place, ⟨h_k, h_able, h_place⟩, hP, hok, hPl, rfl⟩ := hE
    obtain ⟨hi', rfl⟩ := getR (f := fun i : Nat => PyData.int (i : Int)) hx
    rw [List.getElem_range]
    have hi : i < 2 * mny row.length s + 2 := by rw [List.length_range] at hi'; exact hi'
    have hn := near_leN P hP
    have hll := left_le (mny row.length s) P
    push_cast [↓fr_Sv h_k]
    refine ⟨by omega, ?_⟩
    rw [Int.toNat_natCast, rngI_0]
    refine wComp_invP (fun p => p < mny row.length s ∧ NP (p % t) t (nearOf P 0) = p) (List.range (mny row.length s)) natI natI (fun E => ∃ c' : Nat, E = [s_script, .ow (W ds (c' : Nat)), s_turn, .sh (tuI row), .sh (natI s), .sh (natI t), .sh (natI i), .sh (natI (mny row.length s)), .sh (.tuple (pksL row s t)), .ow (.list ((leftL (mny row.length s) P).map natI)), .ow (.list (P.map (pkD row s t))), .sh (natI (nearOf P 0)), s_able, .un, s_own, s_missing, s_spans, s_count, s_losses, s_due, s_most, s_whole, s_best, s_layer, s_later, s_left_now, s_room, s_lost, s_bits, s_j, s_parity, s_at]) (by rw [List.length_range]; omega) ⟨c', rfl⟩ (fun p hp E0 hE0 => ?_) (fun ys E' hs' hys hE' => ?_)
    · obtain ⟨c', rfl⟩ := hE0
      have hp := List.mem_range.mp hp
      push_cast [fmn]
      refine ⟨by omega, ?_⟩
      rw [lnear_w 7 (by omega) (Nat.mod_lt p (show 0 < t by omega)) (by omega)]
      push_cast [List.length_nil]
      by_cases e : NP (p % t) t (nearOf P 0) = p
      · rw [if_pos (show ((NP (p % t) t (nearOf P 0) : Nat) : Int) = (p : Int) by omega)]
        refine ⟨by omega, ?_⟩
        generalize (if (p : Int) - (nearOf P 0 : Nat) < 0 then -((p : Int) - (nearOf P 0 : Nat)) else (p : Int) - (nearOf P 0 : Nat)) = z
        split
        · rw [x_inNL]
          by_cases q : p ∈ leftL (mny row.length s) P
          · rw [decide_eq_true q]
            push_cast [List.length_nil]
            refine ⟨true, rfl, fun _ => ⟨⟨hp, e⟩, ?_⟩, fun z => (by cases z)⟩
            first | exact ⟨rfl, _, rfl⟩ | exact ⟨_, rfl⟩ | trace_state
          · rw [decide_eq_false q]
            push_cast [List.length_nil]
            refine next_w 7 hd c' 4 (by decide) _ fun r r0 r1 => ?_
            push_cast [List.length_nil]
            refine ⟨_, rfl, fun _ => ⟨⟨hp, e⟩, ?_⟩, fun _ => ⟨_, rfl⟩⟩
            first | exact ⟨rfl, _, rfl⟩ | exact ⟨_, rfl⟩ | trace_state
        · exact ⟨false, rfl, fun z => (by cases z), fun _ => ⟨_, rfl⟩⟩
      · rw [if_neg (show ¬ ((NP (p % t) t (nearOf P 0) : Nat) : Int) = (p : Int) by omega)]
        exact ⟨false, rfl, fun z => (by cases z), fun _ => ⟨_, rfl⟩⟩
    obtain ⟨c2, rfl⟩ := hE'
    rw [show backs [s_script, .ow (W ds (c' : Nat)), s_turn, .sh (tuI row), .sh (natI s), .sh (natI t), .sh (natI i), .sh (natI (mny row.length s)), .sh (.tuple (pksL row s t)), .ow (.list ((leftL (mny row.length s) P).map natI)), .ow (.list (P.map (pkD row s t))), .sh (natI (nearOf P 0)), s_able, s_place, s_own, s_missing, s_spans, s_count, s_losses, s_due, s_most, s_whole, s_best, s_layer, s_later, s_left_now, s_room, s_lost, s_bits, s_j, s_parity, s_at] [s_script, .ow (W ds (c2 : Nat)), s_turn, .sh (tuI row), .sh (natI s), .sh (natI t), .sh (natI i), .sh (natI (mny row.length s)), .sh (.tuple (pksL row s t)), .ow (.list ((leftL (mny row.length s) P).map natI)), .ow (.list (P.map (pkD row s t))), .sh (natI (nearOf P 0)), s_able, .un, s_own, s_missing, s_spans, s_count, s_losses, s_due, s_most, s_whole, s_best, s_layer, s_later, s_left_now, s_room, s_lost, s_bits, s_j, s_parity, s_at] [13] = [s_script, .ow (W ds (c2 : Nat)), s_turn, .sh (tuI row), .sh (natI s), .sh (natI t), .sh (natI i), .sh (natI (mny row.length s)), .sh (.tuple (pksL row s t)), .ow (.list ((leftL (mny row.length s) P).map natI)), .ow (.list (P.map (pkD row s t))), .sh (natI (nearOf P 0)), s_able, s_place, s_own, s_missing, s_spans, s_count, s_losses, s_due, s_most, s_whole, s_best, s_layer, s_later, s_left_now, s_room, s_lost, s_bits, s_j, s_parity, s_at] from rfl]
    have hyl := hs'.length_le
    rw [List.length_range] at hyl
    push_cast [↓fr_Sv h_k, ↓fr_SvT h_able]
    rw [x_neN _ (okds_map natI 39 ys fun _ _ => rfl)]
    cases ys with
    | nil =>
      push_cast [List.map_nil, List.isEmpty_nil]
      exact ⟨c2, P, _, _, _, ⟨fr_sh _, fr_ow _, h_place⟩, hP, hok, by omega, rfl⟩
    | cons y0 yr =>
      generalize hyy : y0 :: yr = yy at *
      push_cast [show (yy.map natI).isEmpty = false by rw [← hyy]; rfl]
      refine next_w 7 hd c2 9 (by decide) _ fun r r0 r1 => ?_
      push_cast [List.length_nil]
      by_cases hr0 : r > 0
      · rw [if_pos hr0]
        rw [x_tk3 natI yy (.k (.int 3)) 3 3 rfl rfl]
        push_cast [List.length_nil]
        refine pickF_w 6 hd _ natI (yy.take 3) (by rw [List.length_take, ← hyy]; simp; omega) (by rw [List.length_take]; omega) _ fun p hp => ?_
        obtain ⟨hpm, hpn⟩ := hys p (List.mem_of_mem_take hp)
        push_cast [↓fr_Sv h_place]
        rw [w_itT (pksL row s t) _ p (pkD row s t p) _ (at_nat rfl (by unfold pksL; rw [List.length_map, List.length_range]; exact hpm)) (by unfold pksL; rw [List.getElem?_map, List.getElem?_range hpm]; rfl)]
        push_cast [List.length_nil]
        rw [List.length_map]
        refine ⟨by omega, ?_⟩
        refine wComp_map (leftL (mny row.length s) P) natI (fun q => !decide (q = p)) natI (by omega) (fun q hq => ?_) ?_
        · push_cast [List.length_nil]
          refine ⟨?_, fun _ => rfl, fun _ => rfl⟩
          rw [show decide ((q : Int) = (p : Int)) = decide (q = p) by rw [decide_eq_decide]; omega]
        rw [left_snoc]
        push_cast [↓fr_Sv h_near, ↓fr_SvT h_left, ↓fr_SvT h_come]
        rw [show (if (p : Int) + 1 > ((nearOf P 0 : Nat) : Int) then (p : Int) + 1 else ((nearOf P 0 : Nat) : Int)) = ((nearOf (P ++ [p]) 0 : Nat) : Int) by rw [near_snoc]; split <;> omega, show P.map (pkD row s t) ++ [pkD row s t p] = (P ++ [p]).map (pkD row s t) by rw [List.map_append]; rfl]
        refine ⟨_, P ++ [p], .sh (natI i), .ow (.list (yy.map natI)), .sh (natI p), ⟨fr_sh _, fr_ow _, fr_sh _⟩, fun q hq => ?_, okp_snoc t P 0 p hok hpn, by simp; omega, rfl⟩
        rcases List.mem_append.mp hq with hq | hq
        · exact hP q hq
        · rw [List.mem_singleton.mp hq]; exact hpm
      · rw [if_neg hr0]
        exact ⟨_, P, _, _, _, ⟨fr_sh _, fr_ow _, h_place⟩, hP, hok, by omega, rfl⟩
  obtain ⟨c', P, s_k, s_able, s_place, ⟨h_k, h_able, h_place⟩, hP, hok, hPl, rfl⟩ := hE
  rw [List.length_map, List.length_range] at hPl
  have hll := left_le (mny row.length s) P
  push_cast [List.length_nil]
  rw [back_w 6 (by omega) hs (by omega) (by omega) (by omega) hP hok]
  push_cast [List.length_nil]
  rw [x_eqN _ (okds_map natI 39 _ fun _ _ => rfl)]
  by_cases hL : leftL (mny row.length s) P = []
  · rw [show pbD row (mny row.length s) P = .tuple [yesS, tuI row] from if_pos hL, hL]
    push_cast [List.map_nil, List.isEmpty_nil]
    rw [show PyData.str (PySem.Str.ofString "yes") = yesS from rfl]
    rw [same_all 2 (.tuple [yesS, tuI row]) (sm_2 1 _ _ (.str _ _ (by decide +kernel)) (sm_tuI 0 _ (by omega))) 5]
    push_cast [List.length_nil]
    exact hQ _ _ _ _ _ _ _ (fr_ow _) (fr_ow _) (fr_sh _) h_k h_able h_place
  · rw [show pbD row (mny row.length s) P = .tuple [noS, .tuple ((leftL (mny row.length s) P).map natI)] from if_neg hL]
    rw [show ((leftL (mny row.length s) P).map natI).isEmpty = false by
      cases hh : leftL (mny row.length s) P with
      | nil => exact absurd hh hL
      | cons a r => rfl]
    push_cast [List.length_nil]
    rw [show PyData.str (PySem.Str.ofString "no") = noS from rfl]
    rw [same_all 2 (.tuple [noS, .tuple ((leftL (mny row.length s) P).map natI)]) (sm_2 1 _ _ (.str _ _ (by decide +kernel)) (sm_map 0 natI _ (fun x _ => .int _ _) (by omega))) 5]
    push_cast [List.length_nil]
    exact hQ _ _ _ _ _ _ _ (fr_ow _) (fr_ow _) (fr_sh _) h_k h_able h_place
end LawP

set_option Elab.async false
set_option linter.all false
set_option maxRecDepth 100000
set_option maxHeartbeats 2000000
namespace LawP
open PySem Pv
local macro_rules
  | `(tactic| push_cast [$args,*]) => `(tactic| try simp only [↓wp_some, ↓wGet_z, ↓wGet_s, ↓wSet_z, ↓wSet_s, ↓wCt_sh, ↓wCt_ow, ↓wCt_io, ↓wG_val, ↓wG_bor, ↓wV_sh, ↓wV_ow, ↓wE_k, ↓wE_var, ↓wOv_sh, ↓wOv_ow, ↓wOv_io, ↓wO_var, ↓wO_k, ↓wO_glb, ↓wO_bin, ↓wO_neg, ↓wO_not, ↓wO_cmp, ↓wO_chain, ↓wO_chn3, ↓wO_and, ↓wO_or, ↓wO_ite, ↓wO_tup, ↓wO_lst, ↓wO_dctT, ↓wO_dct, ↓wO_idx, ↓wO_slc, ↓wO_call, ↓wO_blt, ↓wO_mth, ↓wO_upd, ↓wO_mut, ↓wO_rng, ↓wO_comp, ↓wO_callB, ↓wO_kys, ↓wO_fz, ↓wO_rev, ↓wO_lrg, ↓wO_lrs, ↓wO_lzp, ↓wO_trg, ↓wO_lix, ↓wO_cnt, ↓wO_srs, ↓wO_rgs, ↓wO_zip, ↓wO_inr, ↓wO_isi, ↓wO_comp2, ↓wE_bin, ↓wNeg_i, ↓wNot_b, ↓wE_neg, ↓wE_not, ↓wE_cmp, ↓wC_t, ↓wC_f, ↓wC_d, ↓wC_nd, ↓wE_chain, ↓wE_chn3, ↓wE_and, ↓wE_or, ↓wE_ite, ↓wEs_nil, ↓wEs_cons, ↓wOs_nil, ↓wOs_cons, ↓wLim_eq, ↓wE_tup, ↓wE_lst, ↓wE_dctT, ↓wE_dct, ↓wE_idx, ↓wE_slc, ↓wE_rev, ↓wMv_ow, ↓wMv_io, ↓wM_eq, ↓wPv_ow, ↓wPv_io, ↓wP_eq, ↓wMs_nil, ↓wMs_cons, ↓wPs_nil, ↓wPs_cons, ↓wA_nil, ↓wA_cons, ↓wE_call', ↓wLn_sh, ↓wLn_ow, ↓wLn_io, ↓wLns_nil, ↓wLns_cons, ↓wFl_int, ↓wFl_bool, ↓wFl_none, ↓wFl_str, ↓wE_callB', ↓wE_glb', ↓wTs_nil, ↓wTs_cons, ↓wE_blt, ↓wL_l, ↓wDm2_l, ↓wDm2_d, ↓wDm_l, ↓wDm_d, ↓wE_mth, ↓wE_lix, ↓wE_cnt, ↓wTd_t, ↓wE_upd, ↓wE_mut, ↓wE_kys, ↓wE_fz, ↓wE_rng, ↓wE_lrg, ↓wE_lrs, ↓wE_lzp, ↓wTr_l, ↓wE_trg, ↓wE_srs, ↓wE_rgs, ↓wE_zip, ↓wE_inr, ↓wE_isi, ↓wH_val, ↓wH_bor, ↓wI_l, ↓wI_t, ↓wE_comp, ↓wE_comp2, ↓wKo_nx, ↓wKo_ret, ↓wKo_brk, ↓wKo_ct, ↓wXs_nil, ↓wXs_cons, ↓wSv_un, ↓wSv_sh, ↓wSv_ow, ↓wSv_unT, ↓wSv_shT, ↓wSv_owT, ↓wS_eq, ↓wF_i, ↓wF_b, ↓wF_n, ↓wF_t, ↓wF_s, ↓wF_llst, ↓wF_lcmp, ↓wF_lrev, ↓wF_lslc, ↓wF_lbli, ↓wF_lsrs, ↓wF_lsrt, ↓wF_ladd, ↓wF_lmul, ↓wF_lcm2, ↓wF_llrg, ↓wF_llrs, ↓wF_llzp, ↓wF_lvar, ↓wF_lcal, ↓wF_lidx, ↓wF_lmut, ↓wF_lupd, ↓wF_lmth, ↓wF_liteV, ↓wF_liteK, ↓wF_liteI, ↓wF_liteC, ↓wF_liteM, ↓wF_liteS, ↓wF_liteT, ↓wF_liteB, ↓wF_liteN, ↓wF_liteG, ↓wF_liteLV, ↓wF_liteLK, ↓wF_liteLI, ↓wF_liteLC, ↓wF_liteLM, ↓wF_liteLS, ↓wF_liteLT, ↓wF_liteLB, ↓wF_liteLN, ↓wF_liteLG, ↓wF_liteLL, ↓wF_ddctT, ↓wF_ddct, ↓wF_dbld, ↓wF_dbldT, ↓wF_dvar, ↓wF_dcal, ↓wF_didx, ↓wX_asg, ↓wX_tup, ↓wAs_name, ↓wAs_tup, ↓wAs_tupL, ↓wAss_nil, ↓wAss_cons, ↓wPar_nil, ↓wPar_cons, ↓wX_par, ↓wX_aug, ↓wX_augS, ↓wX_setS, ↓w_ii2, ↓w_lsM, ↓wX_parS, ↓wX_exp, ↓wX_ret, ↓wX_ite, ↓wX_for, ↓wX_while, ↓wX_brk, ↓wX_ct, ↓wX_pass, ↓w_add, ↓w_sub, ↓w_mul, ↓w_fdiv, ↓w_mod, ↓w_pow, ↓w_addL, ↓w_addT, ↓w_mulL, ↓w_gadd, ↓w_gsub, ↓w_lt, ↓w_le, ↓w_gt, ↓w_ge, ↓w_eq, ↓w_ne, ↓w_isNN, ↓w_revL, ↓w_revT, ↓w_abs, ↓w_int, ↓w_lenL, ↓w_lenT, ↓w_lenS, ↓w_tupL, ↓w_tupT, ↓w_lisL, ↓w_lisT, ↓w_min2, ↓w_max2, ↓w_app, ↓wq_rng1, ↓wq_rng2, ↓w_isNi, ↓w_isNt, ↓w_isNl, ↓w_isNd, ↓w_isNs, ↓w_isNb, ↓w_notNi, ↓w_notNt, ↓w_notNl, ↓w_notNd, ↓w_notNs, ↓w_notNb, ↓w_notNN, ↓w_isB, ↓w_notB, ↓w_intB, ↓w_zipL, ↓w_zipT, ↓w_inr1, ↓w_inr2, ↓w_tyN, ↓w_tyBi, ↓w_tyBb, ↓w_tyBs, ↓w_tyBt, ↓w_tyBl, ↓w_tyBd, ↓w_tyIi, ↓w_tyIb, ↓w_tyIs, ↓w_tyIt, ↓w_tyIl, ↓w_tyId, ↓w_tySi, ↓w_tySb, ↓w_tySs, ↓w_tySt, ↓w_tySl, ↓w_tySd, ↓w_tyTi, ↓w_tyTb, ↓w_tyTs, ↓w_tyTt, ↓w_tyTl, ↓w_tyTd, ↓w_tyLi, ↓w_tyLb, ↓w_tyLs, ↓w_tyLt, ↓w_tyLl, ↓w_tyLd, ↓w_it0, ↓w_it1, ↓w_it2, ↓w_it3, ↓w_it4, ↓w_it5, ↓w_l1, ↓w_l2, ↓w_l0, ↓wWi_nil, ↓wWi_cons, ↓wComp_map, ↓wComp_rng, ↓wComp_mapA, ↓wComp_rngA, ↓wOut_nx, ↓wOut_ret, ↓wOut_nx1, ↓wOut_ret1, ↓wOut_nx2, ↓wOut_ret2, ↓wDi_W, ↓wDm_W, ↓wDm2_W, ↓wD_A, ↓wD_D, ↓wD_S, ↓wD_N, ↓lp_nx, ↓lp_ct, ↓lp_brk, ↓lp_ret, ↓x_sum, ↓x_sumT, ↓x_all, ↓x_any, ↓x_eqT, ↓x_neT, ↓x_eqL, ↓x_neL, ↓x_inL, ↓x_inT, ↓wInn_row, List.length_cons, List.length_nil, Nat.reduceAdd, Nat.reduceLeDiff, true_and, if_true, if_false, eq_self, decide_true, decide_false, Bool.not_true, Bool.not_false, Bool.false_eq_true, $args,*])
theorem segC {R : List SIR} {Q : Out → Prop} {ds : List D} (hd : Ints ds) (c : Nat)  {s_script s_turn s_row s_size s_round_so s_k s_many s_packets s_left s_come s_near s_able s_place s_own s_missing s_spans s_count s_losses s_due s_most s_whole s_best s_layer s_later s_left_now s_room s_lost s_bits s_j s_parity s_at : Pv.Slot}
    (hQ : ∀ (c' : Nat) (s_missing s_spans s_place : Pv.Slot), Fr s_missing → Fr s_spans → Fr s_place → wXs CC R [s_script, .ow (W ds (c' : Nat)), s_turn, s_row, s_size, s_round_so, s_k, s_many, s_packets, s_left, s_come, s_near, s_able, s_place, s_own, s_missing, s_spans, s_count, s_losses, s_due, s_most, s_whole, s_best, s_layer, s_later, s_left_now, s_room, s_lost, s_bits, s_j, s_parity, s_at] Q) (h_script : Fr s_script := by first | assumption | exact fr_sh _ | exact fr_ow _ | exact fr_un) (h_turn : Fr s_turn := by first | assumption | exact fr_sh _ | exact fr_ow _ | exact fr_un) (h_row : Fr s_row := by first | assumption | exact fr_sh _ | exact fr_ow _ | exact fr_un) (h_size : Fr s_size := by first | assumption | exact fr_sh _ | exact fr_ow _ | exact fr_un) (h_round_so : Fr s_round_so := by first | assumption | exact fr_sh _ | exact fr_ow _ | exact fr_un) (h_k : Fr s_k := by first | assumption | exact fr_sh _ | exact fr_ow _ | exact fr_un) (h_many : Fr s_many := by first | assumption | exact fr_sh _ | exact fr_ow _ | exact fr_un) (h_packets : Fr s_packets := by first | assumption | exact fr_sh _ | exact fr_ow _ | exact fr_un) (h_left : Fr s_left := by first | assumption | exact fr_sh _ | exact fr_ow _ | exact fr_un) (h_come : Fr s_come := by first | assumption | exact fr_sh _ | exact fr_ow _ | exact fr_un) (h_near : Fr s_near := by first | assumption | exact fr_sh _ | exact fr_ow _ | exact fr_un) (h_able : Fr s_able := by first | assumption | exact fr_sh _ | exact fr_ow _ | exact fr_un) (h_place : Fr s_place := by first | assumption | exact fr_sh _ | exact fr_ow _ | exact fr_un) (h_own : Fr s_own := by first | assumption | exact fr_sh _ | exact fr_ow _ | exact fr_un) (h_missing : Fr s_missing := by first | assumption | exact fr_sh _ | exact fr_ow _ | exact fr_un) (h_spans : Fr s_spans := by first | assumption | exact fr_sh _ | exact fr_ow _ | exact fr_un) (h_count : Fr s_count := by first | assumption | exact fr_sh _ | exact fr_ow _ | exact fr_un) (h_losses : Fr s_losses := by first | assumption | exact fr_sh _ | exact fr_ow _ | exact fr_un) (h_due : Fr s_due := by first | assumption | exact fr_sh _ | exact fr_ow _ | exact fr_un) (h_most : Fr s_most := by first | assumption | exact fr_sh _ | exact fr_ow _ | exact fr_un) (h_whole : Fr s_whole := by first | assumption | exact fr_sh _ | exact fr_ow _ | exact fr_un) (h_best : Fr s_best := by first | assumption | exact fr_sh _ | exact fr_ow _ | exact fr_un) (h_layer : Fr s_layer := by first | assumption | exact fr_sh _ | exact fr_ow _ | exact fr_un) (h_later : Fr s_later := by first | assumption | exact fr_sh _ | exact fr_ow _ | exact fr_un) (h_left_now : Fr s_left_now := by first | assumption | exact fr_sh _ | exact fr_ow _ | exact fr_un) (h_room : Fr s_room := by first | assumption | exact fr_sh _ | exact fr_ow _ | exact fr_un) (h_lost : Fr s_lost := by first | assumption | exact fr_sh _ | exact fr_ow _ | exact fr_un) (h_bits : Fr s_bits := by first | assumption | exact fr_sh _ | exact fr_ow _ | exact fr_un) (h_j : Fr s_j := by first | assumption | exact fr_sh _ | exact fr_ow _ | exact fr_un) (h_parity : Fr s_parity := by first | assumption | exact fr_sh _ | exact fr_ow _ | exact fr_un) (h_at : Fr s_at := by first | assumption | exact fr_sh _ | exact fr_ow _ | exact fr_un) : wXs CC ((.par [15, 16] [(.blt .tuple [(.comp (.var 6) (.name 6) (.rng [(.k (.int 9))]) (.cmp .eq (.call 11 [1] [(.k (.int 2))]) (.k (.int 0))) [6])]), (.lst [])]) :: (.for (.name 13) (.var 15) [(.asg (.name 16) (.ite (.and (.cmp .ne (.var 16) (.lst [])) (.cmp .eq (.idx (.idx (.var 16) (.neg (.k (.int 1)))) (.k (.int 1))) (.var 13))) (.bin .add (.slc (.var 16) (.k .none) (.neg (.k (.int 1)))) (.lst [(.tup [(.idx (.idx (.var 16) (.neg (.k (.int 1)))) (.k (.int 0))), (.bin .add (.var 13) (.k (.int 1)))])])) (.bin .add (.var 16) (.lst [(.tup [(.var 13), (.bin .add (.var 13) (.k (.int 1)))])]))))]) :: (.ite (.not (.call 13 [] [(.call 3 [] [(.var 15)]), (.blt .tuple [(.var 16)])])) [(.ret (.k (.bool false)))] []) :: R) [s_script, .ow (W ds (c : Nat)), s_turn, s_row, s_size, s_round_so, s_k, s_many, s_packets, s_left, s_come, s_near, s_able, s_place, s_own, s_missing, s_spans, s_count, s_losses, s_due, s_most, s_whole, s_best, s_layer, s_later, s_left_now, s_room, s_lost, s_bits, s_j, s_parity, s_at] Q := by
  unfold CC at *
  push_cast [List.length_nil]
  refine ⟨by decide, ?_⟩
  rw [show ((9 : Int)).toNat = 9 from rfl, rngI_0]
  refine wComp_invF (List.range 9) natI natI (fun E => ∃ c' : Nat, E = [s_script, .ow (W ds (c' : Nat)), s_turn, s_row, s_size, s_round_so, .un, s_many, s_packets, s_left, s_come, s_near, s_able, s_place, s_own, s_missing, s_spans, s_count, s_losses, s_due, s_most, s_whole, s_best, s_layer, s_later, s_left_now, s_room, s_lost, s_bits, s_j, s_parity, s_at]) (by decide) ⟨_, rfl⟩ (fun x hx E0 hE => ?_) (fun ys E' hs hE => ?_)
  · obtain ⟨c', rfl⟩ := hE
    push_cast [List.length_nil]
    refine next_w 7 hd c' 2 (by decide) _ fun r r0 r1 => ?_
    push_cast [List.length_nil]
    refine ⟨_, rfl, fun _ => ?_, fun _ => ?_⟩
    · first | exact ⟨rfl, _, rfl⟩ | exact ⟨_, rfl⟩
    · exact ⟨_, rfl⟩
  obtain ⟨c', rfl⟩ := hE
  have hyl := hs.length_le
  rw [show (List.range 9).length = 9 from rfl] at hyl
  rw [show backs [s_script, .ow (W ds (c : Nat)), s_turn, s_row, s_size, s_round_so, s_k, s_many, s_packets, s_left, s_come, s_near, s_able, s_place, s_own, s_missing, s_spans, s_count, s_losses, s_due, s_most, s_whole, s_best, s_layer, s_later, s_left_now, s_room, s_lost, s_bits, s_j, s_parity, s_at] [s_script, .ow (W ds (c' : Nat)), s_turn, s_row, s_size, s_round_so, .un, s_many, s_packets, s_left, s_come, s_near, s_able, s_place, s_own, s_missing, s_spans, s_count, s_losses, s_due, s_most, s_whole, s_best, s_layer, s_later, s_left_now, s_room, s_lost, s_bits, s_j, s_parity, s_at] [6] = [s_script, .ow (W ds (c' : Nat)), s_turn, s_row, s_size, s_round_so, s_k, s_many, s_packets, s_left, s_come, s_near, s_able, s_place, s_own, s_missing, s_spans, s_count, s_losses, s_due, s_most, s_whole, s_best, s_layer, s_later, s_left_now, s_room, s_lost, s_bits, s_j, s_parity, s_at] from rfl]
  clear hs
  generalize ys = P at *
  push_cast [↓fr_Sv h_missing, ↓fr_SvT h_spans]
  refine wFor_ok (fun i E => ∃ (s_place s_spans : Pv.Slot), Fr s_place ∧ (s_spans = .ow (.list (((P.take i).foldl spn []).map prD)) ∨ s_spans = .sh (.list (((P.take i).foldl spn []).map prD))) ∧ E = [s_script, .ow (W ds (c' : Nat)), s_turn, s_row, s_size, s_round_so, s_k, s_many, s_packets, s_left, s_come, s_near, s_able, s_place, s_own, .sh (.tuple (P.map natI)), s_spans, s_count, s_losses, s_due, s_most, s_whole, s_best, s_layer, s_later, s_left_now, s_room, s_lost, s_bits, s_j, s_parity, s_at]) ⟨_, _, h_place, .inl rfl, rfl⟩ (fun i x E hx hE => ?_) (fun E' hE => ?_)
  · obtain ⟨s_place, s_spans, h_place, hsp, rfl⟩ := hE
    obtain ⟨hi, rfl⟩ := getR (f := natI) hx
    have htk := List.take_succ_eq_append_getElem hi
    have hln := spns_len (P.take i) []
    have htl : (P.take i).length ≤ 100 := by rw [List.length_take]; omega
    rw [htk, List.foldl_append]
    generalize P[i] = p at *
    generalize (P.take i).foldl spn [] = F at *
    rw [List.length_nil] at hln
    rw [show List.foldl spn F [p] = spn F p from rfl]
    rcases hsp with rfl | rfl
    all_goals
      rcases List.eq_nil_or_concat F with rfl | ⟨F, q, rfl⟩
      · push_cast [↓fr_Sv h_place, List.map_nil]
        rw [x_neN _ rfl]
        push_cast [List.isEmpty_nil]
        refine ⟨.sh (natI p), _, fr_sh _, .inr rfl, ?_⟩
        rw [spn_nil]; rfl
      · rw [List.concat_eq_append] at hln ⊢
        rw [List.length_append, List.length_singleton] at hln
        rw [spn_snoc, List.map_append, List.map_cons, List.map_nil]
        have ok : okds (F.map prD ++ [prD q]) 39 = true := by rw [okds_app, ok_pr]; rfl
        push_cast [↓fr_Sv h_place]
        rw [ne_snoc _ _ ok]
        push_cast [List.length_nil]
        rw [x_lst1]
        push_cast [List.length_nil]
        rw [show prD q = .tuple [natI q.1, natI q.2] from rfl]
        push_cast [List.length_nil]
        by_cases e : q.2 = p
        · rw [if_pos (show ((q.2 : Nat) : Int) = (p : Int) by omega), if_pos e]
          rw [x_dl1 _ _ _ rfl]
          push_cast [List.length_nil]
          rw [x_lst1]
          push_cast [List.length_nil]
          rw [List.length_map]
          refine ⟨by omega, .sh (natI p), _, fr_sh _, .inr rfl, ?_⟩
          rw [List.map_append]; rfl
        · rw [if_neg (show ¬ ((q.2 : Nat) : Int) = (p : Int) by omega), if_neg e]
          push_cast [List.length_nil]
          rw [List.length_append, List.length_map, List.length_singleton]
          refine ⟨by omega, .sh (natI p), _, fr_sh _, .inr rfl, ?_⟩
          rw [List.map_append, List.map_append]; rfl
  obtain ⟨s_place, s_spans, h_place, hsp, rfl⟩ := hE
  rw [List.length_map, List.take_length] at hsp
  have hln := spns_len P []
  rw [List.length_nil] at hln
  rcases hsp with rfl | rfl
  all_goals
    push_cast [List.length_nil]
    rw [spans_w 7 (by omega)]
    push_cast [List.length_nil]
    rw [same_all 2 (.tuple ((P.foldl spn []).map prD)) (sm_map 1 prD _ (fun q _ => sm_2 0 _ _ (.int _ _) (.int _ _)) (by omega)) 5]
    push_cast [List.length_nil]
    exact hQ _ _ _ _ (fr_sh _) (by first | exact fr_ow _ | exact fr_sh _) h_place
theorem prD0 (q : Nat × Nat) (Q) : wp (item (prD q) (.int 0)) Q = Q (natI q.1) := w_it0 _ _ _
theorem prD1 (q : Nat × Nat) (Q) : wp (item (prD q) (.int 1)) Q = Q (natI q.2) := w_it1 _ _ _ _
theorem segD {R : List SIR} {Q : Out → Prop} {ds : List D} (hd : Ints ds) (c : Nat)  {s_script s_turn s_row s_size s_round_so s_k s_many s_packets s_left s_come s_near s_able s_place s_own s_missing s_spans s_count s_losses s_due s_most s_whole s_best s_layer s_later s_left_now s_room s_lost s_bits s_j s_parity s_at : Pv.Slot}
    (hQ : ∀ (c' count : Nat) (s_losses s_due s_place : Pv.Slot), 1 ≤ count → count ≤ 6 → Fr s_losses → Fr s_due → Fr s_place → wXs CC R [s_script, .ow (W ds (c' : Nat)), s_turn, s_row, s_size, s_round_so, s_k, s_many, s_packets, s_left, s_come, s_near, s_able, s_place, s_own, s_missing, s_spans, .sh (natI count), s_losses, s_due, s_most, s_whole, s_best, s_layer, s_later, s_left_now, s_room, s_lost, s_bits, s_j, s_parity, s_at] Q) (h_script : Fr s_script := by first | assumption | exact fr_sh _ | exact fr_ow _ | exact fr_un) (h_turn : Fr s_turn := by first | assumption | exact fr_sh _ | exact fr_ow _ | exact fr_un) (h_row : Fr s_row := by first | assumption | exact fr_sh _ | exact fr_ow _ | exact fr_un) (h_size : Fr s_size := by first | assumption | exact fr_sh _ | exact fr_ow _ | exact fr_un) (h_round_so : Fr s_round_so := by first | assumption | exact fr_sh _ | exact fr_ow _ | exact fr_un) (h_k : Fr s_k := by first | assumption | exact fr_sh _ | exact fr_ow _ | exact fr_un) (h_many : Fr s_many := by first | assumption | exact fr_sh _ | exact fr_ow _ | exact fr_un) (h_packets : Fr s_packets := by first | assumption | exact fr_sh _ | exact fr_ow _ | exact fr_un) (h_left : Fr s_left := by first | assumption | exact fr_sh _ | exact fr_ow _ | exact fr_un) (h_come : Fr s_come := by first | assumption | exact fr_sh _ | exact fr_ow _ | exact fr_un) (h_near : Fr s_near := by first | assumption | exact fr_sh _ | exact fr_ow _ | exact fr_un) (h_able : Fr s_able := by first | assumption | exact fr_sh _ | exact fr_ow _ | exact fr_un) (h_place : Fr s_place := by first | assumption | exact fr_sh _ | exact fr_ow _ | exact fr_un) (h_own : Fr s_own := by first | assumption | exact fr_sh _ | exact fr_ow _ | exact fr_un) (h_missing : Fr s_missing := by first | assumption | exact fr_sh _ | exact fr_ow _ | exact fr_un) (h_spans : Fr s_spans := by first | assumption | exact fr_sh _ | exact fr_ow _ | exact fr_un) (h_count : Fr s_count := by first | assumption | exact fr_sh _ | exact fr_ow _ | exact fr_un) (h_losses : Fr s_losses := by first | assumption | exact fr_sh _ | exact fr_ow _ | exact fr_un) (h_due : Fr s_due := by first | assumption | exact fr_sh _ | exact fr_ow _ | exact fr_un) (h_most : Fr s_most := by first | assumption | exact fr_sh _ | exact fr_ow _ | exact fr_un) (h_whole : Fr s_whole := by first | assumption | exact fr_sh _ | exact fr_ow _ | exact fr_un) (h_best : Fr s_best := by first | assumption | exact fr_sh _ | exact fr_ow _ | exact fr_un) (h_layer : Fr s_layer := by first | assumption | exact fr_sh _ | exact fr_ow _ | exact fr_un) (h_later : Fr s_later := by first | assumption | exact fr_sh _ | exact fr_ow _ | exact fr_un) (h_left_now : Fr s_left_now := by first | assumption | exact fr_sh _ | exact fr_ow _ | exact fr_un) (h_room : Fr s_room := by first | assumption | exact fr_sh _ | exact fr_ow _ | exact fr_un) (h_lost : Fr s_lost := by first | assumption | exact fr_sh _ | exact fr_ow _ | exact fr_un) (h_bits : Fr s_bits := by first | assumption | exact fr_sh _ | exact fr_ow _ | exact fr_un) (h_j : Fr s_j := by first | assumption | exact fr_sh _ | exact fr_ow _ | exact fr_un) (h_parity : Fr s_parity := by first | assumption | exact fr_sh _ | exact fr_ow _ | exact fr_un) (h_at : Fr s_at := by first | assumption | exact fr_sh _ | exact fr_ow _ | exact fr_un) : wXs CC ((.asg (.name 17) (.bin .add (.k (.int 1)) (.call 11 [1] [(.k (.int 6))]))) :: (.asg (.name 18) (.blt .tuple [(.comp (.blt .tuple [(.comp (.var 13) (.name 13) (.rng [(.var 17)]) (.cmp .eq (.call 11 [1] [(.k (.int 3))]) (.k (.int 0))) [13])]) (.name 6) (.rng [(.call 11 [1] [(.k (.int 6))])]) (.k (.bool true)) [6])])) :: (.asg (.name 19) (.call 14 [] [(.var 17), (.var 18)])) :: (.ite (.or (.not (.call 13 [] [(.call 5 [] [(.var 17), (.var 18)]), (.ite (.cmp .isnot (.var 19) (.k .none)) (.idx (.var 19) (.k (.int 0))) (.k .none))])) (.and (.cmp .isnot (.var 19) (.k .none)) (.not (.call 13 [] [(.call 6 [] [(.var 17), (.var 18)]), (.idx (.var 19) (.k (.int 1)))])))) [(.ret (.k (.bool false)))] []) :: R) [s_script, .ow (W ds (c : Nat)), s_turn, s_row, s_size, s_round_so, s_k, s_many, s_packets, s_left, s_come, s_near, s_able, s_place, s_own, s_missing, s_spans, s_count, s_losses, s_due, s_most, s_whole, s_best, s_layer, s_later, s_left_now, s_room, s_lost, s_bits, s_j, s_parity, s_at] Q := by
  unfold CC at *
  push_cast [List.length_nil]
  refine next_w 7 hd c 6 (by decide) _ fun m m0 m1 => ?_
  obtain ⟨m, rfl⟩ := Int.eq_ofNat_of_zero_le m0
  push_cast [↓fr_Sv h_count, show (1 : Int) + (m : Int) = ((1 + m : Nat) : Int) by omega]
  generalize hcnt : 1 + m = count at *
  refine next_w 7 hd _ 6 (by decide) _ fun u u0 u1 => ?_
  push_cast [List.length_nil]
  refine ⟨by omega, ?_⟩
  refine wComp_inv _ (fun E => ∃ c' : Nat, E = [s_script, .ow (W ds (c' : Nat)), s_turn, s_row, s_size, s_round_so, .un, s_many, s_packets, s_left, s_come, s_near, s_able, s_place, s_own, s_missing, s_spans, .sh (natI count), s_losses, s_due, s_most, s_whole, s_best, s_layer, s_later, s_left_now, s_room, s_lost, s_bits, s_j, s_parity, s_at]) (fun y => ∃ l : List Nat, l.length ≤ 6 ∧ y = .tuple (l.map natI)) (by rw [rngI_len]; omega) ⟨_, rfl⟩ (fun x hx E0 hE => ?_) (fun ys E' hl hP hE => ?_)
  · obtain ⟨c', rfl⟩ := hE
    push_cast [List.length_nil]
    rw [Int.toNat_natCast, rngI_0]
    refine ⟨by omega, ?_⟩
    refine wComp_invF (List.range count) natI natI (fun E => ∃ c' : Nat, E = [s_script, .ow (W ds (c' : Nat)), s_turn, s_row, s_size, s_round_so, .sh x, s_many, s_packets, s_left, s_come, s_near, s_able, .un, s_own, s_missing, s_spans, .sh (natI count), s_losses, s_due, s_most, s_whole, s_best, s_layer, s_later, s_left_now, s_room, s_lost, s_bits, s_j, s_parity, s_at]) (by rw [List.length_range]; omega) ⟨_, rfl⟩ (fun p hp E0 hE => ?_) (fun ys E' hs hE => ?_)
    · obtain ⟨c2, rfl⟩ := hE
      push_cast [List.length_nil]
      refine next_w 7 hd c2 3 (by decide) _ fun r r0 r1 => ?_
      push_cast [List.length_nil]
      refine ⟨_, rfl, fun _ => ?_, fun _ => ?_⟩
      · first | exact ⟨rfl, _, rfl⟩ | exact ⟨_, rfl⟩
      · exact ⟨_, rfl⟩
    obtain ⟨c2, rfl⟩ := hE
    have hyl := hs.length_le
    rw [List.length_range] at hyl
    rw [show backs [s_script, .ow (W ds (c' : Nat)), s_turn, s_row, s_size, s_round_so, .sh x, s_many, s_packets, s_left, s_come, s_near, s_able, s_place, s_own, s_missing, s_spans, .sh (natI count), s_losses, s_due, s_most, s_whole, s_best, s_layer, s_later, s_left_now, s_room, s_lost, s_bits, s_j, s_parity, s_at] [s_script, .ow (W ds (c2 : Nat)), s_turn, s_row, s_size, s_round_so, .sh x, s_many, s_packets, s_left, s_come, s_near, s_able, .un, s_own, s_missing, s_spans, .sh (natI count), s_losses, s_due, s_most, s_whole, s_best, s_layer, s_later, s_left_now, s_room, s_lost, s_bits, s_j, s_parity, s_at] [13] = [s_script, .ow (W ds (c2 : Nat)), s_turn, s_row, s_size, s_round_so, .sh x, s_many, s_packets, s_left, s_come, s_near, s_able, s_place, s_own, s_missing, s_spans, .sh (natI count), s_losses, s_due, s_most, s_whole, s_best, s_layer, s_later, s_left_now, s_room, s_lost, s_bits, s_j, s_parity, s_at] from rfl]
    push_cast [List.length_nil]
    exact ⟨⟨ys, by omega, rfl⟩, c2, rfl⟩
  obtain ⟨c', rfl⟩ := hE
  obtain ⟨Ls, rfl, hLs, hl2⟩ := all_map (f := fun l : List Nat => PyData.tuple (l.map natI)) ys hP
  rw [rngI_len] at hl
  rw [show backs [s_script, .ow (W ds ((c + 1 + 1 : Nat) : Int)), s_turn, s_row, s_size, s_round_so, s_k, s_many, s_packets, s_left, s_come, s_near, s_able, s_place, s_own, s_missing, s_spans, .sh (natI count), s_losses, s_due, s_most, s_whole, s_best, s_layer, s_later, s_left_now, s_room, s_lost, s_bits, s_j, s_parity, s_at] [s_script, .ow (W ds (c' : Nat)), s_turn, s_row, s_size, s_round_so, .un, s_many, s_packets, s_left, s_come, s_near, s_able, s_place, s_own, s_missing, s_spans, .sh (natI count), s_losses, s_due, s_most, s_whole, s_best, s_layer, s_later, s_left_now, s_room, s_lost, s_bits, s_j, s_parity, s_at] [6] = [s_script, .ow (W ds (c' : Nat)), s_turn, s_row, s_size, s_round_so, s_k, s_many, s_packets, s_left, s_come, s_near, s_able, s_place, s_own, s_missing, s_spans, .sh (natI count), s_losses, s_due, s_most, s_whole, s_best, s_layer, s_later, s_left_now, s_room, s_lost, s_bits, s_j, s_parity, s_at] from rfl]
  have hLl : Ls.length ≤ 100 := by omega
  have hle := lb_len Ls (List.range count)
  push_cast [↓fr_Sv h_losses]
  rw [lrounds_w 7 (by omega) hLl]
  have hlr := lr_lb Ls (List.range count) 0 0
  rw [List.length_range, Nat.zero_add, Nat.zero_add] at hlr
  rw [hlr]
  have hrd := fun Q => rounds_w 6 (show count ≤ 100 by omega) hLl Q
  unfold rdD at hrd
  have hsent := fun Q => sent_w 6 (show count ≤ 100 by omega) hLl Q
  unfold snN at hsent
  generalize lb (List.range count) Ls = B at *
  by_cases hb : B.getLast? = some 0
  · simp only [if_pos hb] at hrd hsent
    rw [if_pos hb, show lrD (some (B.length, count + B.dropLast.sum)) = .tuple [natI B.length, natI (count + B.dropLast.sum)] from rfl]
    push_cast [↓fr_Sv h_due]
    rw [hrd]
    push_cast [List.length_nil]
    rw [same_all 0 _ (.int _ _) 7]
    push_cast [List.length_nil]
    rw [hsent]
    push_cast [List.length_nil]
    rw [same_all 0 _ (.int _ _) 7]
    push_cast [List.length_nil]
    exact hQ _ _ _ _ _ (by omega) (by omega) (fr_sh _) (fr_sh _) h_place
  · simp only [if_neg hb] at hrd hsent
    rw [if_neg hb, show lrD none = .none from rfl]
    push_cast [↓fr_Sv h_due]
    rw [hrd]
    push_cast [List.length_nil]
    rw [same_all 0 _ (.none _) 7]
    push_cast [List.length_nil]
    exact hQ _ _ _ _ _ (by omega) (by omega) (fr_sh _) (fr_sh _) h_place
end LawP

set_option Elab.async false
set_option linter.all false
set_option maxRecDepth 100000
set_option maxHeartbeats 2000000
namespace LawP
open PySem Pv
local macro_rules
  | `(tactic| push_cast [$args,*]) => `(tactic| try simp only [↓wp_some, ↓wGet_z, ↓wGet_s, ↓wSet_z, ↓wSet_s, ↓wCt_sh, ↓wCt_ow, ↓wCt_io, ↓wG_val, ↓wG_bor, ↓wV_sh, ↓wV_ow, ↓wE_k, ↓wE_var, ↓wOv_sh, ↓wOv_ow, ↓wOv_io, ↓wO_var, ↓wO_k, ↓wO_glb, ↓wO_bin, ↓wO_neg, ↓wO_not, ↓wO_cmp, ↓wO_chain, ↓wO_chn3, ↓wO_and, ↓wO_or, ↓wO_ite, ↓wO_tup, ↓wO_lst, ↓wO_dctT, ↓wO_dct, ↓wO_idx, ↓wO_slc, ↓wO_call, ↓wO_blt, ↓wO_mth, ↓wO_upd, ↓wO_mut, ↓wO_rng, ↓wO_comp, ↓wO_callB, ↓wO_kys, ↓wO_fz, ↓wO_rev, ↓wO_lrg, ↓wO_lrs, ↓wO_lzp, ↓wO_trg, ↓wO_lix, ↓wO_cnt, ↓wO_srs, ↓wO_rgs, ↓wO_zip, ↓wO_inr, ↓wO_isi, ↓wO_comp2, ↓wE_bin, ↓wNeg_i, ↓wNot_b, ↓wE_neg, ↓wE_not, ↓wE_cmp, ↓wC_t, ↓wC_f, ↓wC_d, ↓wC_nd, ↓wE_chain, ↓wE_chn3, ↓wE_and, ↓wE_or, ↓wE_ite, ↓wEs_nil, ↓wEs_cons, ↓wOs_nil, ↓wOs_cons, ↓wLim_eq, ↓wE_tup, ↓wE_lst, ↓wE_dctT, ↓wE_dct, ↓wE_idx, ↓wE_slc, ↓wE_rev, ↓wMv_ow, ↓wMv_io, ↓wM_eq, ↓wPv_ow, ↓wPv_io, ↓wP_eq, ↓wMs_nil, ↓wMs_cons, ↓wPs_nil, ↓wPs_cons, ↓wA_nil, ↓wA_cons, ↓wE_call', ↓wLn_sh, ↓wLn_ow, ↓wLn_io, ↓wLns_nil, ↓wLns_cons, ↓wFl_int, ↓wFl_bool, ↓wFl_none, ↓wFl_str, ↓wE_callB', ↓wE_glb', ↓wTs_nil, ↓wTs_cons, ↓wE_blt, ↓wL_l, ↓wDm2_l, ↓wDm2_d, ↓wDm_l, ↓wDm_d, ↓wE_mth, ↓wE_lix, ↓wE_cnt, ↓wTd_t, ↓wE_upd, ↓wE_mut, ↓wE_kys, ↓wE_fz, ↓wE_rng, ↓wE_lrg, ↓wE_lrs, ↓wE_lzp, ↓wTr_l, ↓wE_trg, ↓wE_srs, ↓wE_rgs, ↓wE_zip, ↓wE_inr, ↓wE_isi, ↓wH_val, ↓wH_bor, ↓wI_l, ↓wI_t, ↓wE_comp, ↓wE_comp2, ↓wKo_nx, ↓wKo_ret, ↓wKo_brk, ↓wKo_ct, ↓wXs_nil, ↓wXs_cons, ↓wSv_un, ↓wSv_sh, ↓wSv_ow, ↓wSv_unT, ↓wSv_shT, ↓wSv_owT, ↓wS_eq, ↓wF_i, ↓wF_b, ↓wF_n, ↓wF_t, ↓wF_s, ↓wF_llst, ↓wF_lcmp, ↓wF_lrev, ↓wF_lslc, ↓wF_lbli, ↓wF_lsrs, ↓wF_lsrt, ↓wF_ladd, ↓wF_lmul, ↓wF_lcm2, ↓wF_llrg, ↓wF_llrs, ↓wF_llzp, ↓wF_lvar, ↓wF_lcal, ↓wF_lidx, ↓wF_lmut, ↓wF_lupd, ↓wF_lmth, ↓wF_liteV, ↓wF_liteK, ↓wF_liteI, ↓wF_liteC, ↓wF_liteM, ↓wF_liteS, ↓wF_liteT, ↓wF_liteB, ↓wF_liteN, ↓wF_liteG, ↓wF_liteLV, ↓wF_liteLK, ↓wF_liteLI, ↓wF_liteLC, ↓wF_liteLM, ↓wF_liteLS, ↓wF_liteLT, ↓wF_liteLB, ↓wF_liteLN, ↓wF_liteLG, ↓wF_liteLL, ↓wF_ddctT, ↓wF_ddct, ↓wF_dbld, ↓wF_dbldT, ↓wF_dvar, ↓wF_dcal, ↓wF_didx, ↓wX_asg, ↓wX_tup, ↓wAs_name, ↓wAs_tup, ↓wAs_tupL, ↓wAss_nil, ↓wAss_cons, ↓wPar_nil, ↓wPar_cons, ↓wX_par, ↓wX_aug, ↓wX_augS, ↓wX_setS, ↓w_ii2, ↓w_lsM, ↓wX_parS, ↓wX_exp, ↓wX_ret, ↓wX_ite, ↓wX_for, ↓wX_while, ↓wX_brk, ↓wX_ct, ↓wX_pass, ↓w_add, ↓w_sub, ↓w_mul, ↓w_fdiv, ↓w_mod, ↓w_pow, ↓w_addL, ↓w_addT, ↓w_mulL, ↓w_gadd, ↓w_gsub, ↓w_lt, ↓w_le, ↓w_gt, ↓w_ge, ↓w_eq, ↓w_ne, ↓w_isNN, ↓w_revL, ↓w_revT, ↓w_abs, ↓w_int, ↓w_lenL, ↓w_lenT, ↓w_lenS, ↓w_tupL, ↓w_tupT, ↓w_lisL, ↓w_lisT, ↓w_min2, ↓w_max2, ↓w_app, ↓wq_rng1, ↓wq_rng2, ↓w_isNi, ↓w_isNt, ↓w_isNl, ↓w_isNd, ↓w_isNs, ↓w_isNb, ↓w_notNi, ↓w_notNt, ↓w_notNl, ↓w_notNd, ↓w_notNs, ↓w_notNb, ↓w_notNN, ↓w_isB, ↓w_notB, ↓w_intB, ↓w_zipL, ↓w_zipT, ↓w_inr1, ↓w_inr2, ↓w_tyN, ↓w_tyBi, ↓w_tyBb, ↓w_tyBs, ↓w_tyBt, ↓w_tyBl, ↓w_tyBd, ↓w_tyIi, ↓w_tyIb, ↓w_tyIs, ↓w_tyIt, ↓w_tyIl, ↓w_tyId, ↓w_tySi, ↓w_tySb, ↓w_tySs, ↓w_tySt, ↓w_tySl, ↓w_tySd, ↓w_tyTi, ↓w_tyTb, ↓w_tyTs, ↓w_tyTt, ↓w_tyTl, ↓w_tyTd, ↓w_tyLi, ↓w_tyLb, ↓w_tyLs, ↓w_tyLt, ↓w_tyLl, ↓w_tyLd, ↓w_it0, ↓w_it1, ↓w_it2, ↓w_it3, ↓w_it4, ↓w_it5, ↓w_l1, ↓w_l2, ↓w_l0, ↓wWi_nil, ↓wWi_cons, ↓wComp_map, ↓wComp_rng, ↓wComp_mapA, ↓wComp_rngA, ↓wOut_nx, ↓wOut_ret, ↓wOut_nx1, ↓wOut_ret1, ↓wOut_nx2, ↓wOut_ret2, ↓wDi_W, ↓wDm_W, ↓wDm2_W, ↓wD_A, ↓wD_D, ↓wD_S, ↓wD_N, ↓lp_nx, ↓lp_ct, ↓lp_brk, ↓lp_ret, ↓x_sum, ↓x_sumT, ↓x_all, ↓x_any, ↓x_eqT, ↓x_neT, ↓x_eqL, ↓x_neL, ↓x_inL, ↓x_inT, ↓wInn_row, List.length_cons, List.length_nil, Nat.reduceAdd, Nat.reduceLeDiff, true_and, if_true, if_false, eq_self, decide_true, decide_false, Bool.not_true, Bool.not_false, Bool.false_eq_true, $args,*])
theorem x_tkT {α : Type} (f : α → D) (L : List α) (ir : IR) (z : Int) (k : Nat) (e : z = (k : Int)) (h : noneK ir = false) (Q) : wp (optX (.k .none) .none) (fun l => wp (optX ir (.int z)) fun h => wp (slice (.tuple (L.map f)) l h) Q) = Q (.tuple ((L.take k).map f)) := by
  subst e
  rw [optX_i ir h]
  simp only [optX, wp_some, slice]
  have e1 : cut (L.map f) none (some (k : Int)) = (L.take k).map f := by
    unfold cut
    rw [sIx_n, List.length_map, List.map_take]
    show ((L.map f).drop 0).take (min k L.length - 0) = _
    rw [List.drop_zero, Nat.sub_zero]
    by_cases hk : k ≤ L.length
    · rw [Nat.min_eq_left hk]
    · rw [Nat.min_eq_right (by omega), List.take_of_length_le (by rw [List.length_map]; omega), List.take_of_length_le (by rw [List.length_map]; omega)]
  rw [e1]
theorem x_drT {α : Type} (f : α → D) (L : List α) (ir : IR) (z : Int) (k : Nat) (e : z = (k : Int)) (h : noneK ir = false) (Q) : wp (optX ir (.int z)) (fun l => wp (optX (.k .none) .none) fun h => wp (slice (.tuple (L.map f)) l h) Q) = Q (.tuple ((L.drop k).map f)) := by
  subst e
  rw [optX_i ir h]
  simp only [optX, wp_some, slice]
  have e1 : cut (L.map f) (some (k : Int)) none = (L.drop k).map f := by
    unfold cut
    rw [sIx_n, List.length_map, List.map_drop]
    show ((L.map f).drop (min k L.length)).take (L.length - min k L.length) = _
    rw [List.take_of_length_le (by rw [List.length_drop, List.length_map]; omega)]
    by_cases hk : k ≤ L.length
    · rw [Nat.min_eq_left hk]
    · rw [Nat.min_eq_right (by omega), List.drop_eq_nil_of_le (by rw [List.length_map]; omega), List.drop_eq_nil_of_le (by rw [List.length_map]; omega)]
  rw [e1]
/-- bits with one row taken out -/
def outB (R : List (List Int)) (a : Nat) : List (Option (List Int)) := (R.take a).map some ++ [none] ++ (R.drop (a + 1)).map some
theorem fm_some : ∀ R : List (List Int), (R.map some).filterMap id = R
  | [] => rfl
  | r :: R => by rw [List.map_cons, List.filterMap_cons_some (f := id) (a := some r) (b := r) rfl, fm_some R]
theorem outB_md {R : List (List Int)} {a : Nat} (ha : a < R.length) (h : ∀ r ∈ R, r.length = 4 ∧ ∀ x ∈ r, x = 0 ∨ x = 1) : mdD (outB R a) (par R) = tuI R[a] := by
  have e1 : (outB R a).filterMap id = R.take a ++ R.drop (a + 1) := by
    unfold outB
    rw [List.filterMap_append, List.filterMap_append, fm_some, fm_some]; simp
  have eR : R = R.take a ++ [R[a]] ++ R.drop (a + 1) := by
    rw [← List.take_succ_eq_append_getElem ha, List.take_append_drop]
  unfold mdD
  rw [e1, if_pos (by unfold outB; simp only [List.length_append, List.length_map, List.length_take, List.length_drop, List.length_singleton]; omega)]
  have hr := h _ (List.getElem_mem ha)
  have := par_mend (R.take a) (R.drop (a + 1)) R[a] hr.1 hr.2
  rw [← eR] at this
  rw [this]
theorem full_md {R : List (List Int)} (p : List Int) : mdD (R.map some) p = .none := by
  unfold mdD
  rw [fm_some, if_neg (by rw [List.length_map]; omega)]
theorem two_md {R : List (List Int)} (p : List Int) : mdD (R.map some ++ [none, none]) p = .none := by
  unfold mdD
  rw [List.filterMap_append, fm_some, if_neg (by simp)]
theorem orD_some (R : List (List Int)) : (R.map some).map orD = R.map tuI := by rw [List.map_map]; rfl
theorem outB_D (R : List (List Int)) (a : Nat) : (outB R a).map orD = (R.take a).map tuI ++ [PyData.none] ++ (R.drop (a + 1)).map tuI := by
  unfold outB
  rw [List.map_append, List.map_append, orD_some, orD_some]; rfl
theorem par_len (R : List (List Int)) : (par R).length = 4 := by unfold par; rw [List.length_map, List.length_range]
theorem segF {R : List SIR} {Q : Out → Prop} {ds : List D} (hd : Ints ds) (c : Nat)  {s_script s_turn s_row s_size s_round_so s_k s_many s_packets s_left s_come s_near s_able s_place s_own s_missing s_spans s_count s_losses s_due s_most s_whole s_best s_layer s_later s_left_now s_room s_lost s_bits s_j s_parity s_at : Pv.Slot}
    (hQ : ∀ (c' : Nat) (s_bits s_parity s_at : Pv.Slot), Fr s_bits → Fr s_parity → Fr s_at → wXs CC R [s_script, .ow (W ds (c' : Nat)), s_turn, s_row, s_size, s_round_so, s_k, s_many, s_packets, s_left, s_come, s_near, s_able, s_place, s_own, s_missing, s_spans, s_count, s_losses, s_due, s_most, s_whole, s_best, s_layer, s_later, s_left_now, s_room, s_lost, s_bits, s_j, s_parity, s_at] Q) (h_script : Fr s_script := by first | assumption | exact fr_sh _ | exact fr_ow _ | exact fr_un) (h_turn : Fr s_turn := by first | assumption | exact fr_sh _ | exact fr_ow _ | exact fr_un) (h_row : Fr s_row := by first | assumption | exact fr_sh _ | exact fr_ow _ | exact fr_un) (h_size : Fr s_size := by first | assumption | exact fr_sh _ | exact fr_ow _ | exact fr_un) (h_round_so : Fr s_round_so := by first | assumption | exact fr_sh _ | exact fr_ow _ | exact fr_un) (h_k : Fr s_k := by first | assumption | exact fr_sh _ | exact fr_ow _ | exact fr_un) (h_many : Fr s_many := by first | assumption | exact fr_sh _ | exact fr_ow _ | exact fr_un) (h_packets : Fr s_packets := by first | assumption | exact fr_sh _ | exact fr_ow _ | exact fr_un) (h_left : Fr s_left := by first | assumption | exact fr_sh _ | exact fr_ow _ | exact fr_un) (h_come : Fr s_come := by first | assumption | exact fr_sh _ | exact fr_ow _ | exact fr_un) (h_near : Fr s_near := by first | assumption | exact fr_sh _ | exact fr_ow _ | exact fr_un) (h_able : Fr s_able := by first | assumption | exact fr_sh _ | exact fr_ow _ | exact fr_un) (h_place : Fr s_place := by first | assumption | exact fr_sh _ | exact fr_ow _ | exact fr_un) (h_own : Fr s_own := by first | assumption | exact fr_sh _ | exact fr_ow _ | exact fr_un) (h_missing : Fr s_missing := by first | assumption | exact fr_sh _ | exact fr_ow _ | exact fr_un) (h_spans : Fr s_spans := by first | assumption | exact fr_sh _ | exact fr_ow _ | exact fr_un) (h_count : Fr s_count := by first | assumption | exact fr_sh _ | exact fr_ow _ | exact fr_un) (h_losses : Fr s_losses := by first | assumption | exact fr_sh _ | exact fr_ow _ | exact fr_un) (h_due : Fr s_due := by first | assumption | exact fr_sh _ | exact fr_ow _ | exact fr_un) (h_most : Fr s_most := by first | assumption | exact fr_sh _ | exact fr_ow _ | exact fr_un) (h_whole : Fr s_whole := by first | assumption | exact fr_sh _ | exact fr_ow _ | exact fr_un) (h_best : Fr s_best := by first | assumption | exact fr_sh _ | exact fr_ow _ | exact fr_un) (h_layer : Fr s_layer := by first | assumption | exact fr_sh _ | exact fr_ow _ | exact fr_un) (h_later : Fr s_later := by first | assumption | exact fr_sh _ | exact fr_ow _ | exact fr_un) (h_left_now : Fr s_left_now := by first | assumption | exact fr_sh _ | exact fr_ow _ | exact fr_un) (h_room : Fr s_room := by first | assumption | exact fr_sh _ | exact fr_ow _ | exact fr_un) (h_lost : Fr s_lost := by first | assumption | exact fr_sh _ | exact fr_ow _ | exact fr_un) (h_bits : Fr s_bits := by first | assumption | exact fr_sh _ | exact fr_ow _ | exact fr_un) (h_j : Fr s_j := by first | assumption | exact fr_sh _ | exact fr_ow _ | exact fr_un) (h_parity : Fr s_parity := by first | assumption | exact fr_sh _ | exact fr_ow _ | exact fr_un) (h_at : Fr s_at := by first | assumption | exact fr_sh _ | exact fr_ow _ | exact fr_un) : wXs CC ((.asg (.name 28) (.blt .tuple [(.comp (.blt .tuple [(.comp (.call 11 [1] [(.k (.int 2))]) (.name 6) (.rng [(.k (.int 4))]) (.k (.bool true)) [6])]) (.name 29) (.rng [(.bin .add (.k (.int 1)) (.call 11 [1] [(.k (.int 4))]))]) (.k (.bool true)) [29])])) :: (.asg (.name 30) (.blt .tuple [(.comp (.bin .mod (.blt .int [(.blt .sum [(.comp (.idx (.var 14) (.var 6)) (.name 14) (.var 28) (.k (.bool true)) [14])])]) (.k (.int 2))) (.name 6) (.rng [(.k (.int 4))]) (.k (.bool true)) [6])])) :: (.asg (.name 31) (.call 11 [1] [(.blt .len [(.var 28)])])) :: (.ite (.or (.not (.call 13 [] [(.call 8 [] [(.var 28)]), (.var 30)])) (.or (.not (.call 13 [] [(.call 9 [] [(.bin .add (.bin .add (.slc (.var 28) (.k .none) (.var 31)) (.tup [(.k .none)])) (.slc (.var 28) (.bin .add (.var 31) (.k (.int 1))) (.k .none))), (.var 30)]), (.idx (.var 28) (.var 31))])) (.or (.cmp .isnot (.call 9 [] [(.var 28), (.var 30)]) (.k .none)) (.cmp .isnot (.call 9 [] [(.bin .add (.var 28) (.tup [(.k .none), (.k .none)])), (.var 30)]) (.k .none))))) [(.ret (.k (.bool false)))] []) :: R) [s_script, .ow (W ds (c : Nat)), s_turn, s_row, s_size, s_round_so, s_k, s_many, s_packets, s_left, s_come, s_near, s_able, s_place, s_own, s_missing, s_spans, s_count, s_losses, s_due, s_most, s_whole, s_best, s_layer, s_later, s_left_now, s_room, s_lost, s_bits, s_j, s_parity, s_at] Q := by
  unfold CC at *
  push_cast [List.length_nil]
  refine next_w 7 hd c 4 (by decide) _ fun m m0 m1 => ?_
  obtain ⟨m, rfl⟩ := Int.eq_ofNat_of_zero_le m0
  push_cast [List.length_nil]
  refine ⟨by omega, ?_⟩
  refine wComp_inv _ (fun E => ∃ c' : Nat, E = [s_script, .ow (W ds (c' : Nat)), s_turn, s_row, s_size, s_round_so, s_k, s_many, s_packets, s_left, s_come, s_near, s_able, s_place, s_own, s_missing, s_spans, s_count, s_losses, s_due, s_most, s_whole, s_best, s_layer, s_later, s_left_now, s_room, s_lost, s_bits, .un, s_parity, s_at]) (fun y => ∃ l : List Int, (l.length = 4 ∧ ∀ x ∈ l, x = 0 ∨ x = 1) ∧ y = tuI l) (by rw [rngI_len]; omega) ⟨_, rfl⟩ (fun x hx E0 hE => ?_) (fun ys E' hl hP hE => ?_)
  · obtain ⟨c', rfl⟩ := hE
    push_cast [List.length_nil]
    refine ⟨by decide, ?_⟩
    refine wComp_inv _ (fun E => ∃ c' : Nat, E = [s_script, .ow (W ds (c' : Nat)), s_turn, s_row, s_size, s_round_so, .un, s_many, s_packets, s_left, s_come, s_near, s_able, s_place, s_own, s_missing, s_spans, s_count, s_losses, s_due, s_most, s_whole, s_best, s_layer, s_later, s_left_now, s_room, s_lost, s_bits, .sh x, s_parity, s_at]) (fun y => ∃ r : Int, (r = 0 ∨ r = 1) ∧ y = .int r) (by rw [rngI_len]; decide) ⟨_, rfl⟩ (fun z hz E0 hE => ?_) (fun ys E' hl hP hE => ?_)
    · obtain ⟨c2, rfl⟩ := hE
      push_cast [List.length_nil]
      refine next_w 7 hd c2 2 (by decide) _ fun r r0 r1 => ?_
      push_cast [List.length_nil]
      first | exact ⟨⟨r, by omega, rfl⟩, _, rfl⟩ | exact ⟨by omega, _, rfl⟩ | trace_state
    obtain ⟨c2, rfl⟩ := hE
    obtain ⟨l, rfl, hl1, hl2⟩ := all_map ys hP
    rw [rngI_len, ← hl2] at hl
    rw [show backs [s_script, .ow (W ds (c' : Nat)), s_turn, s_row, s_size, s_round_so, s_k, s_many, s_packets, s_left, s_come, s_near, s_able, s_place, s_own, s_missing, s_spans, s_count, s_losses, s_due, s_most, s_whole, s_best, s_layer, s_later, s_left_now, s_room, s_lost, s_bits, .sh x, s_parity, s_at] [s_script, .ow (W ds (c2 : Nat)), s_turn, s_row, s_size, s_round_so, .un, s_many, s_packets, s_left, s_come, s_near, s_able, s_place, s_own, s_missing, s_spans, s_count, s_losses, s_due, s_most, s_whole, s_best, s_layer, s_later, s_left_now, s_room, s_lost, s_bits, .sh x, s_parity, s_at] [6] = [s_script, .ow (W ds (c2 : Nat)), s_turn, s_row, s_size, s_round_so, s_k, s_many, s_packets, s_left, s_come, s_near, s_able, s_place, s_own, s_missing, s_spans, s_count, s_losses, s_due, s_most, s_whole, s_best, s_layer, s_later, s_left_now, s_room, s_lost, s_bits, .sh x, s_parity, s_at] from rfl]
    push_cast [List.length_nil]
    exact ⟨⟨l, ⟨hl, hl1⟩, rfl⟩, c2, rfl⟩
  obtain ⟨c', rfl⟩ := hE
  obtain ⟨R, rfl, hR, hl2⟩ := all_map (f := tuI) ys hP
  rw [rngI_len, ← hl2] at hl
  rw [show backs [s_script, .ow (W ds ((c + 1 : Nat) : Int)), s_turn, s_row, s_size, s_round_so, s_k, s_many, s_packets, s_left, s_come, s_near, s_able, s_place, s_own, s_missing, s_spans, s_count, s_losses, s_due, s_most, s_whole, s_best, s_layer, s_later, s_left_now, s_room, s_lost, s_bits, s_j, s_parity, s_at] [s_script, .ow (W ds (c' : Nat)), s_turn, s_row, s_size, s_round_so, s_k, s_many, s_packets, s_left, s_come, s_near, s_able, s_place, s_own, s_missing, s_spans, s_count, s_losses, s_due, s_most, s_whole, s_best, s_layer, s_later, s_left_now, s_room, s_lost, s_bits, .un, s_parity, s_at] [29] = [s_script, .ow (W ds (c' : Nat)), s_turn, s_row, s_size, s_round_so, s_k, s_many, s_packets, s_left, s_come, s_near, s_able, s_place, s_own, s_missing, s_spans, s_count, s_losses, s_due, s_most, s_whole, s_best, s_layer, s_later, s_left_now, s_room, s_lost, s_bits, s_j, s_parity, s_at] from rfl]
  have hRl : 1 ≤ R.length ∧ R.length ≤ 4 := by omega
  have h4 : ∀ r ∈ R, r.length = 4 := fun r hr => (hR r hr).1
  clear hl hl2 hP
  push_cast [↓fr_Sv h_bits]
  refine ⟨by decide, ?_⟩
  rw [show ((4 : Int)).toNat = 4 from rfl, rngI_0]
  refine wComp_mapA (List.range 4) natI (fun k => .int ((col R k).fmod 2)) (by decide) (fun k hk => ?_) ?_
  · have hk := List.mem_range.mp hk
    push_cast [List.length_nil]
    refine wComp_mapA R tuI (fun r => .int (r.getD k 0)) (by omega) (fun r hr => ?_) ?_
    · push_cast [gT r k (by rw [h4 r hr]; exact hk)]
      first | rfl | exact ⟨rfl, rfl⟩
    rw [show R.map (fun r => PyData.int (r.getD k 0)) = (R.map fun r => r.getD k 0).map PyData.int by rw [List.map_map]; rfl]
    push_cast [x_sum]
    exact ⟨by decide, rfl, rfl⟩
  rw [show (List.range 4).map (fun k => PyData.int ((col R k).fmod 2)) = (par R).map PyData.int by unfold par; rw [List.map_map]; rfl]
  push_cast [↓fr_Sv h_parity]
  rw [List.length_map]
  refine next_w 7 hd c' (R.length : Int) (by omega) _ fun a a0 a1 => ?_
  obtain ⟨a, rfl⟩ := Int.eq_ofNat_of_zero_le a0
  have ha : a < R.length := by omega
  push_cast [↓fr_Sv h_at]
  have hpar := fun Q => par_w 7 (R := R) (by omega) (by omega) h4 false Q
  rw [show rwsD false R = .tuple (R.map tuI) from rfl] at hpar
  rw [hpar]
  push_cast [List.length_nil]
  rw [same_all 1 (tuI (par R)) (sm_tuI 0 _ (by rw [par_len]; omega)) 6]
  push_cast [List.length_nil]
  rw [x_tkT tuI R _ _ a rfl rfl]
  push_cast [List.length_nil]
  rw [x_drT tuI R _ _ (a + 1) (by omega) rfl]
  push_cast [List.length_nil]
  rw [← outB_D]
  have h4o : ∀ r, some r ∈ outB R a → r.length = 4 := fun r hr => by
    unfold outB at hr
    rcases List.mem_append.mp hr with hr | hr
    · rcases List.mem_append.mp hr with hr | hr
      · obtain ⟨q, hq, e⟩ := List.mem_map.mp hr
        injection e with e
        rw [← e]; exact h4 q (List.mem_of_mem_take hq)
      · simp at hr
    · obtain ⟨q, hq, e⟩ := List.mem_map.mp hr
      injection e with e
      rw [← e]; exact h4 q (List.mem_of_mem_drop hq)
  have hol : (outB R a).length ≤ 99 := by unfold outB; simp only [List.length_append, List.length_map, List.length_take, List.length_drop, List.length_singleton]; omega
  refine ⟨by rw [List.length_map, List.length_take]; omega, by simp only [List.length_append, List.length_map, List.length_take, List.length_drop, List.length_singleton]; omega, ?_⟩
  rw [mended_w 6 hol h4o (par_len R), outB_md ha hR]
  push_cast [List.length_nil]
  rw [w_itT (R.map tuI) _ a (tuI R[a]) _ (at_nat rfl (by rw [List.length_map]; exact ha)) (by rw [List.getElem?_map, List.getElem?_eq_getElem ha]; rfl)]
  push_cast [List.length_nil]
  rw [same_all 1 (tuI R[a]) (sm_tuI 0 _ (by rw [h4 _ (List.getElem_mem ha)]; omega)) 6]
  push_cast [List.length_nil]
  have hm1 := fun Q => mended_w 6 (O := R.map some) (p := par R) (by rw [List.length_map]; omega) (fun r hr => by
    obtain ⟨q, hq, e⟩ := List.mem_map.mp hr
    injection e with e
    rw [← e]; exact h4 q hq) (par_len R) Q
  rw [orD_some, full_md] at hm1
  rw [hm1]
  push_cast [List.length_nil]
  have hm2 := fun Q => mended_w 6 (O := R.map some ++ [none, none]) (p := par R) (by simp; omega) (fun r hr => by
    rcases List.mem_append.mp hr with hr | hr
    · obtain ⟨q, hq, e⟩ := List.mem_map.mp hr
      injection e with e
      rw [← e]; exact h4 q hq
    · simp at hr) (par_len R) Q
  rw [List.map_append, orD_some, two_md] at hm2
  rw [show ([none, none] : List (Option (List Int))).map orD = [PyData.none, PyData.none] from rfl] at hm2
  refine ⟨by rw [List.length_map]; omega, ?_⟩
  rw [hm2]
  push_cast [List.length_nil]
  exact hQ _ _ _ _ (fr_sh _) (fr_sh _) (fr_sh _)
end LawP

set_option Elab.async false
set_option linter.all false
set_option maxRecDepth 100000
set_option maxHeartbeats 2000000
namespace LawP
open PySem Pv
local macro_rules
  | `(tactic| push_cast [$args,*]) => `(tactic| try simp only [↓wp_some, ↓wGet_z, ↓wGet_s, ↓wSet_z, ↓wSet_s, ↓wCt_sh, ↓wCt_ow, ↓wCt_io, ↓wG_val, ↓wG_bor, ↓wV_sh, ↓wV_ow, ↓wE_k, ↓wE_var, ↓wOv_sh, ↓wOv_ow, ↓wOv_io, ↓wO_var, ↓wO_k, ↓wO_glb, ↓wO_bin, ↓wO_neg, ↓wO_not, ↓wO_cmp, ↓wO_chain, ↓wO_chn3, ↓wO_and, ↓wO_or, ↓wO_ite, ↓wO_tup, ↓wO_lst, ↓wO_dctT, ↓wO_dct, ↓wO_idx, ↓wO_slc, ↓wO_call, ↓wO_blt, ↓wO_mth, ↓wO_upd, ↓wO_mut, ↓wO_rng, ↓wO_comp, ↓wO_callB, ↓wO_kys, ↓wO_fz, ↓wO_rev, ↓wO_lrg, ↓wO_lrs, ↓wO_lzp, ↓wO_trg, ↓wO_lix, ↓wO_cnt, ↓wO_srs, ↓wO_rgs, ↓wO_zip, ↓wO_inr, ↓wO_isi, ↓wO_comp2, ↓wE_bin, ↓wNeg_i, ↓wNot_b, ↓wE_neg, ↓wE_not, ↓wE_cmp, ↓wC_t, ↓wC_f, ↓wC_d, ↓wC_nd, ↓wE_chain, ↓wE_chn3, ↓wE_and, ↓wE_or, ↓wE_ite, ↓wEs_nil, ↓wEs_cons, ↓wOs_nil, ↓wOs_cons, ↓wLim_eq, ↓wE_tup, ↓wE_lst, ↓wE_dctT, ↓wE_dct, ↓wE_idx, ↓wE_slc, ↓wE_rev, ↓wMv_ow, ↓wMv_io, ↓wM_eq, ↓wPv_ow, ↓wPv_io, ↓wP_eq, ↓wMs_nil, ↓wMs_cons, ↓wPs_nil, ↓wPs_cons, ↓wA_nil, ↓wA_cons, ↓wE_call', ↓wLn_sh, ↓wLn_ow, ↓wLn_io, ↓wLns_nil, ↓wLns_cons, ↓wFl_int, ↓wFl_bool, ↓wFl_none, ↓wFl_str, ↓wE_callB', ↓wE_glb', ↓wTs_nil, ↓wTs_cons, ↓wE_blt, ↓wL_l, ↓wDm2_l, ↓wDm2_d, ↓wDm_l, ↓wDm_d, ↓wE_mth, ↓wE_lix, ↓wE_cnt, ↓wTd_t, ↓wE_upd, ↓wE_mut, ↓wE_kys, ↓wE_fz, ↓wE_rng, ↓wE_lrg, ↓wE_lrs, ↓wE_lzp, ↓wTr_l, ↓wE_trg, ↓wE_srs, ↓wE_rgs, ↓wE_zip, ↓wE_inr, ↓wE_isi, ↓wH_val, ↓wH_bor, ↓wI_l, ↓wI_t, ↓wE_comp, ↓wE_comp2, ↓wKo_nx, ↓wKo_ret, ↓wKo_brk, ↓wKo_ct, ↓wXs_nil, ↓wXs_cons, ↓wSv_un, ↓wSv_sh, ↓wSv_ow, ↓wSv_unT, ↓wSv_shT, ↓wSv_owT, ↓wS_eq, ↓wF_i, ↓wF_b, ↓wF_n, ↓wF_t, ↓wF_s, ↓wF_llst, ↓wF_lcmp, ↓wF_lrev, ↓wF_lslc, ↓wF_lbli, ↓wF_lsrs, ↓wF_lsrt, ↓wF_ladd, ↓wF_lmul, ↓wF_lcm2, ↓wF_llrg, ↓wF_llrs, ↓wF_llzp, ↓wF_lvar, ↓wF_lcal, ↓wF_lidx, ↓wF_lmut, ↓wF_lupd, ↓wF_lmth, ↓wF_liteV, ↓wF_liteK, ↓wF_liteI, ↓wF_liteC, ↓wF_liteM, ↓wF_liteS, ↓wF_liteT, ↓wF_liteB, ↓wF_liteN, ↓wF_liteG, ↓wF_liteLV, ↓wF_liteLK, ↓wF_liteLI, ↓wF_liteLC, ↓wF_liteLM, ↓wF_liteLS, ↓wF_liteLT, ↓wF_liteLB, ↓wF_liteLN, ↓wF_liteLG, ↓wF_liteLL, ↓wF_ddctT, ↓wF_ddct, ↓wF_dbld, ↓wF_dbldT, ↓wF_dvar, ↓wF_dcal, ↓wF_didx, ↓wX_asg, ↓wX_tup, ↓wAs_name, ↓wAs_tup, ↓wAs_tupL, ↓wAss_nil, ↓wAss_cons, ↓wPar_nil, ↓wPar_cons, ↓wX_par, ↓wX_aug, ↓wX_augS, ↓wX_setS, ↓w_ii2, ↓w_lsM, ↓wX_parS, ↓wX_exp, ↓wX_ret, ↓wX_ite, ↓wX_for, ↓wX_while, ↓wX_brk, ↓wX_ct, ↓wX_pass, ↓w_add, ↓w_sub, ↓w_mul, ↓w_fdiv, ↓w_mod, ↓w_pow, ↓w_addL, ↓w_addT, ↓w_mulL, ↓w_gadd, ↓w_gsub, ↓w_lt, ↓w_le, ↓w_gt, ↓w_ge, ↓w_eq, ↓w_ne, ↓w_isNN, ↓w_revL, ↓w_revT, ↓w_abs, ↓w_int, ↓w_lenL, ↓w_lenT, ↓w_lenS, ↓w_tupL, ↓w_tupT, ↓w_lisL, ↓w_lisT, ↓w_min2, ↓w_max2, ↓w_app, ↓wq_rng1, ↓wq_rng2, ↓w_isNi, ↓w_isNt, ↓w_isNl, ↓w_isNd, ↓w_isNs, ↓w_isNb, ↓w_notNi, ↓w_notNt, ↓w_notNl, ↓w_notNd, ↓w_notNs, ↓w_notNb, ↓w_notNN, ↓w_isB, ↓w_notB, ↓w_intB, ↓w_zipL, ↓w_zipT, ↓w_inr1, ↓w_inr2, ↓w_tyN, ↓w_tyBi, ↓w_tyBb, ↓w_tyBs, ↓w_tyBt, ↓w_tyBl, ↓w_tyBd, ↓w_tyIi, ↓w_tyIb, ↓w_tyIs, ↓w_tyIt, ↓w_tyIl, ↓w_tyId, ↓w_tySi, ↓w_tySb, ↓w_tySs, ↓w_tySt, ↓w_tySl, ↓w_tySd, ↓w_tyTi, ↓w_tyTb, ↓w_tyTs, ↓w_tyTt, ↓w_tyTl, ↓w_tyTd, ↓w_tyLi, ↓w_tyLb, ↓w_tyLs, ↓w_tyLt, ↓w_tyLl, ↓w_tyLd, ↓w_it0, ↓w_it1, ↓w_it2, ↓w_it3, ↓w_it4, ↓w_it5, ↓w_l1, ↓w_l2, ↓w_l0, ↓wWi_nil, ↓wWi_cons, ↓wComp_map, ↓wComp_rng, ↓wComp_mapA, ↓wComp_rngA, ↓wOut_nx, ↓wOut_ret, ↓wOut_nx1, ↓wOut_ret1, ↓wOut_nx2, ↓wOut_ret2, ↓wDi_W, ↓wDm_W, ↓wDm2_W, ↓wD_A, ↓wD_D, ↓wD_S, ↓wD_N, ↓lp_nx, ↓lp_ct, ↓lp_brk, ↓lp_ret, ↓x_sum, ↓x_sumT, ↓x_all, ↓x_any, ↓x_eqT, ↓x_neT, ↓x_eqL, ↓x_neL, ↓x_inL, ↓x_inT, ↓wInn_row, List.length_cons, List.length_nil, Nat.reduceAdd, Nat.reduceLeDiff, true_and, if_true, if_false, eq_self, decide_true, decide_false, Bool.not_true, Bool.not_false, Bool.false_eq_true, $args,*])
def Inv (s0 : D) (ds : List D) (E : Pv.Env) : Prop := ∃ (k : Nat) (L : List Pv.Slot), E = .sh s0 :: .ow (W ds k) :: L ∧ L.length = 30 ∧ ∀ s ∈ L, Fr s
theorem inv_mk {s0 : D} {ds : List D} {k : Nat} {s_turn s_row s_size s_round_so s_k s_many s_packets s_left s_come s_near s_able s_place s_own s_missing s_spans s_count s_losses s_due s_most s_whole s_best s_layer s_later s_left_now s_room s_lost s_bits s_j s_parity s_at : Pv.Slot} (h_turn : Fr s_turn := by first | assumption | exact fr_sh _ | exact fr_ow _ | exact fr_un) (h_row : Fr s_row := by first | assumption | exact fr_sh _ | exact fr_ow _ | exact fr_un) (h_size : Fr s_size := by first | assumption | exact fr_sh _ | exact fr_ow _ | exact fr_un) (h_round_so : Fr s_round_so := by first | assumption | exact fr_sh _ | exact fr_ow _ | exact fr_un) (h_k : Fr s_k := by first | assumption | exact fr_sh _ | exact fr_ow _ | exact fr_un) (h_many : Fr s_many := by first | assumption | exact fr_sh _ | exact fr_ow _ | exact fr_un) (h_packets : Fr s_packets := by first | assumption | exact fr_sh _ | exact fr_ow _ | exact fr_un) (h_left : Fr s_left := by first | assumption | exact fr_sh _ | exact fr_ow _ | exact fr_un) (h_come : Fr s_come := by first | assumption | exact fr_sh _ | exact fr_ow _ | exact fr_un) (h_near : Fr s_near := by first | assumption | exact fr_sh _ | exact fr_ow _ | exact fr_un) (h_able : Fr s_able := by first | assumption | exact fr_sh _ | exact fr_ow _ | exact fr_un) (h_place : Fr s_place := by first | assumption | exact fr_sh _ | exact fr_ow _ | exact fr_un) (h_own : Fr s_own := by first | assumption | exact fr_sh _ | exact fr_ow _ | exact fr_un) (h_missing : Fr s_missing := by first | assumption | exact fr_sh _ | exact fr_ow _ | exact fr_un) (h_spans : Fr s_spans := by first | assumption | exact fr_sh _ | exact fr_ow _ | exact fr_un) (h_count : Fr s_count := by first | assumption | exact fr_sh _ | exact fr_ow _ | exact fr_un) (h_losses : Fr s_losses := by first | assumption | exact fr_sh _ | exact fr_ow _ | exact fr_un) (h_due : Fr s_due := by first | assumption | exact fr_sh _ | exact fr_ow _ | exact fr_un) (h_most : Fr s_most := by first | assumption | exact fr_sh _ | exact fr_ow _ | exact fr_un) (h_whole : Fr s_whole := by first | assumption | exact fr_sh _ | exact fr_ow _ | exact fr_un) (h_best : Fr s_best := by first | assumption | exact fr_sh _ | exact fr_ow _ | exact fr_un) (h_layer : Fr s_layer := by first | assumption | exact fr_sh _ | exact fr_ow _ | exact fr_un) (h_later : Fr s_later := by first | assumption | exact fr_sh _ | exact fr_ow _ | exact fr_un) (h_left_now : Fr s_left_now := by first | assumption | exact fr_sh _ | exact fr_ow _ | exact fr_un) (h_room : Fr s_room := by first | assumption | exact fr_sh _ | exact fr_ow _ | exact fr_un) (h_lost : Fr s_lost := by first | assumption | exact fr_sh _ | exact fr_ow _ | exact fr_un) (h_bits : Fr s_bits := by first | assumption | exact fr_sh _ | exact fr_ow _ | exact fr_un) (h_j : Fr s_j := by first | assumption | exact fr_sh _ | exact fr_ow _ | exact fr_un) (h_parity : Fr s_parity := by first | assumption | exact fr_sh _ | exact fr_ow _ | exact fr_un) (h_at : Fr s_at := by first | assumption | exact fr_sh _ | exact fr_ow _ | exact fr_un) : Inv s0 ds [.sh s0, .ow (W ds k), s_turn, s_row, s_size, s_round_so, s_k, s_many, s_packets, s_left, s_come, s_near, s_able, s_place, s_own, s_missing, s_spans, s_count, s_losses, s_due, s_most, s_whole, s_best, s_layer, s_later, s_left_now, s_room, s_lost, s_bits, s_j, s_parity, s_at] :=
  ⟨k, [s_turn, s_row, s_size, s_round_so, s_k, s_many, s_packets, s_left, s_come, s_near, s_able, s_place, s_own, s_missing, s_spans, s_count, s_losses, s_due, s_most, s_whole, s_best, s_layer, s_later, s_left_now, s_room, s_lost, s_bits, s_j, s_parity, s_at], rfl, rfl, fun s hs => by
    simp only [List.mem_cons, List.not_mem_nil, or_false] at hs
    rcases hs with rfl | rfl | rfl | rfl | rfl | rfl | rfl | rfl | rfl | rfl | rfl | rfl | rfl | rfl | rfl | rfl | rfl | rfl | rfl | rfl | rfl | rfl | rfl | rfl | rfl | rfl | rfl | rfl | rfl | rfl <;> assumption⟩
theorem fr_all : ∀ {L : List Pv.Slot}, L.length = 30 → (∀ s ∈ L, Fr s) → ∃ s_turn s_row s_size s_round_so s_k s_many s_packets s_left s_come s_near s_able s_place s_own s_missing s_spans s_count s_losses s_due s_most s_whole s_best s_layer s_later s_left_now s_room s_lost s_bits s_j s_parity s_at, L = [s_turn, s_row, s_size, s_round_so, s_k, s_many, s_packets, s_left, s_come, s_near, s_able, s_place, s_own, s_missing, s_spans, s_count, s_losses, s_due, s_most, s_whole, s_best, s_layer, s_later, s_left_now, s_room, s_lost, s_bits, s_j, s_parity, s_at] ∧ Fr s_turn ∧ Fr s_row ∧ Fr s_size ∧ Fr s_round_so ∧ Fr s_k ∧ Fr s_many ∧ Fr s_packets ∧ Fr s_left ∧ Fr s_come ∧ Fr s_near ∧ Fr s_able ∧ Fr s_place ∧ Fr s_own ∧ Fr s_missing ∧ Fr s_spans ∧ Fr s_count ∧ Fr s_losses ∧ Fr s_due ∧ Fr s_most ∧ Fr s_whole ∧ Fr s_best ∧ Fr s_layer ∧ Fr s_later ∧ Fr s_left_now ∧ Fr s_room ∧ Fr s_lost ∧ Fr s_bits ∧ Fr s_j ∧ Fr s_parity ∧ Fr s_at := fun {L} hl h =>
  match L, hl with
  | [s_turn, s_row, s_size, s_round_so, s_k, s_many, s_packets, s_left, s_come, s_near, s_able, s_place, s_own, s_missing, s_spans, s_count, s_losses, s_due, s_most, s_whole, s_best, s_layer, s_later, s_left_now, s_room, s_lost, s_bits, s_j, s_parity, s_at], _ => ⟨s_turn, s_row, s_size, s_round_so, s_k, s_many, s_packets, s_left, s_come, s_near, s_able, s_place, s_own, s_missing, s_spans, s_count, s_losses, s_due, s_most, s_whole, s_best, s_layer, s_later, s_left_now, s_room, s_lost, s_bits, s_j, s_parity, s_at, rfl, h _ (by simp), h _ (by simp), h _ (by simp), h _ (by simp), h _ (by simp), h _ (by simp), h _ (by simp), h _ (by simp), h _ (by simp), h _ (by simp), h _ (by simp), h _ (by simp), h _ (by simp), h _ (by simp), h _ (by simp), h _ (by simp), h _ (by simp), h _ (by simp), h _ (by simp), h _ (by simp), h _ (by simp), h _ (by simp), h _ (by simp), h _ (by simp), h _ (by simp), h _ (by simp), h _ (by simp), h _ (by simp), h _ (by simp), h _ (by simp)⟩
def body : List SIR := [(.par [3, 4, 5] [(.blt .tuple [(.comp (.call 11 [1] [(.k (.int 256))]) (.name 6) (.rng [(.call 11 [1] [(.k (.int 10))])]) (.k (.bool true)) [6])]), (.bin .add (.k (.int 1)) (.call 11 [1] [(.k (.int 3))])), (.bin .add (.k (.int 2)) (.call 11 [1] [(.k (.int 6))]))]), (.asg (.name 7) (.bin .fdiv (.bin .sub (.bin .add (.blt .len [(.var 3)]) (.var 4)) (.k (.int 1))) (.var 4))), (.asg (.name 8) (.blt .tuple [(.comp (.tup [(.bin .mod (.blt .int [(.var 6)]) (.var 5)), (.slc (.var 3) (.bin .mul (.var 6) (.var 4)) (.bin .add (.bin .mul (.var 6) (.var 4)) (.var 4)))]) (.name 6) (.rng [(.var 7)]) (.k (.bool true)) [6])])), (.ite (.not (.call 13 [] [(.call 0 [] [(.var 3), (.var 4), (.var 5)]), (.var 8)])) [(.ret (.k (.bool false)))] []), (.par [9, 10, 11] [(.lrg [(.var 7)]), (.lst []), (.k (.int 0))]), (.for (.name 6) (.rng [(.bin .add (.bin .mul (.k (.int 2)) (.var 7)) (.k (.int 2)))]) [(.asg (.name 12) (.comp (.var 13) (.name 13) (.rng [(.var 7)]) (.and (.cmp .eq (.call 15 [] [(.bin .mod (.blt .int [(.var 13)]) (.var 5)), (.var 5), (.var 11)]) (.var 13)) (.and (.cmp .le (.blt .abs [(.bin .sub (.var 13) (.var 11))]) (.bin .fdiv (.var 5) (.k (.int 2)))) (.or (.cmp .isin (.var 13) (.var 9)) (.cmp .eq (.call 11 [1] [(.k (.int 4))]) (.k (.int 0)))))) [13])), (.ite (.and (.cmp .ne (.var 12) (.lst [])) (.cmp .gt (.call 11 [1] [(.k (.int 9))]) (.k (.int 0)))) [(.asg (.name 13) (.call 12 [1] [(.slc (.var 12) (.k .none) (.k (.int 3)))])), (.par [10, 9, 11] [(.bin .add (.var 10) (.lst [(.idx (.var 8) (.var 13))])), (.comp (.var 14) (.name 14) (.var 9) (.cmp .ne (.var 14) (.var 13)) [14]), (.blt .max2 [(.var 11), (.bin .add (.var 13) (.k (.int 1)))])])] [])]), (.ite (.not (.call 13 [] [(.call 2 [] [(.blt .tuple [(.var 10)]), (.var 4), (.var 5), (.var 7)]), (.ite (.cmp .eq (.var 9) (.lst [])) (.tup [(.k (.str (PySem.Str.ofString "yes"))), (.var 3)]) (.tup [(.k (.str (PySem.Str.ofString "no"))), (.blt .tuple [(.var 9)])]))])) [(.ret (.k (.bool false)))] []), (.par [15, 16] [(.blt .tuple [(.comp (.var 6) (.name 6) (.rng [(.k (.int 9))]) (.cmp .eq (.call 11 [1] [(.k (.int 2))]) (.k (.int 0))) [6])]), (.lst [])]), (.for (.name 13) (.var 15) [(.asg (.name 16) (.ite (.and (.cmp .ne (.var 16) (.lst [])) (.cmp .eq (.idx (.idx (.var 16) (.neg (.k (.int 1)))) (.k (.int 1))) (.var 13))) (.bin .add (.slc (.var 16) (.k .none) (.neg (.k (.int 1)))) (.lst [(.tup [(.idx (.idx (.var 16) (.neg (.k (.int 1)))) (.k (.int 0))), (.bin .add (.var 13) (.k (.int 1)))])])) (.bin .add (.var 16) (.lst [(.tup [(.var 13), (.bin .add (.var 13) (.k (.int 1)))])]))))]), (.ite (.not (.call 13 [] [(.call 3 [] [(.var 15)]), (.blt .tuple [(.var 16)])])) [(.ret (.k (.bool false)))] []), (.asg (.name 17) (.bin .add (.k (.int 1)) (.call 11 [1] [(.k (.int 6))]))), (.asg (.name 18) (.blt .tuple [(.comp (.blt .tuple [(.comp (.var 13) (.name 13) (.rng [(.var 17)]) (.cmp .eq (.call 11 [1] [(.k (.int 3))]) (.k (.int 0))) [13])]) (.name 6) (.rng [(.call 11 [1] [(.k (.int 6))])]) (.k (.bool true)) [6])])), (.asg (.name 19) (.call 14 [] [(.var 17), (.var 18)])), (.ite (.or (.not (.call 13 [] [(.call 5 [] [(.var 17), (.var 18)]), (.ite (.cmp .isnot (.var 19) (.k .none)) (.idx (.var 19) (.k (.int 0))) (.k .none))])) (.and (.cmp .isnot (.var 19) (.k .none)) (.not (.call 13 [] [(.call 6 [] [(.var 17), (.var 18)]), (.idx (.var 19) (.k (.int 1)))])))) [(.ret (.k (.bool false)))] []), (.par [20, 21, 22, 23] [(.bin .add (.k (.int 1)) (.call 11 [1] [(.k (.int 3))])), (.call 11 [1] [(.k (.int 6))]), (.k (.int 0)), (.lst [])]), (.asg (.name 23) (.lst [(.tup [(.var 17), (.var 21)])])), (.while (.cmp .ne (.var 23) (.lst [])) [(.par [22, 24] [(.bin .add (.var 22) (.k (.int 1))), .dctT]), (.for (.tup [(.name 25), (.name 26)]) (.var 23) [(.exp (.upd 24 (.blt .dictT [(.comp (.tup [(.tup [(.var 27), (.bin .sub (.var 26) (.var 27))]), (.k (.bool true))]) (.name 27) (.rng [(.k (.int 1)), (.bin .add (.blt .min2 [(.var 25), (.var 20), (.var 26)]) (.k (.int 1)))]) (.k (.bool true)) [27])])))]), (.asg (.name 23) (.blt .sorted [(.var 24)]))]), (.ite (.not (.call 13 [] [(.call 7 [] [(.var 17), (.var 20), (.var 21)]), (.var 22)])) [(.ret (.k (.bool false)))] []), (.asg (.name 28) (.blt .tuple [(.comp (.blt .tuple [(.comp (.call 11 [1] [(.k (.int 2))]) (.name 6) (.rng [(.k (.int 4))]) (.k (.bool true)) [6])]) (.name 29) (.rng [(.bin .add (.k (.int 1)) (.call 11 [1] [(.k (.int 4))]))]) (.k (.bool true)) [29])])), (.asg (.name 30) (.blt .tuple [(.comp (.bin .mod (.blt .int [(.blt .sum [(.comp (.idx (.var 14) (.var 6)) (.name 14) (.var 28) (.k (.bool true)) [14])])]) (.k (.int 2))) (.name 6) (.rng [(.k (.int 4))]) (.k (.bool true)) [6])])), (.asg (.name 31) (.call 11 [1] [(.blt .len [(.var 28)])])), (.ite (.or (.not (.call 13 [] [(.call 8 [] [(.var 28)]), (.var 30)])) (.or (.not (.call 13 [] [(.call 9 [] [(.bin .add (.bin .add (.slc (.var 28) (.k .none) (.var 31)) (.tup [(.k .none)])) (.slc (.var 28) (.bin .add (.var 31) (.k (.int 1))) (.k .none))), (.var 30)]), (.idx (.var 28) (.var 31))])) (.or (.cmp .isnot (.call 9 [] [(.var 28), (.var 30)]) (.k .none)) (.cmp .isnot (.call 9 [] [(.bin .add (.var 28) (.tup [(.k .none), (.k .none)])), (.var 30)]) (.k .none))))) [(.ret (.k (.bool false)))] [])]
theorem turn (s0 : D) {ds : List D} (hd : Ints ds) (E : Pv.Env) (h : Inv s0 ds E) (x : D) (Q : Out → Prop) (hQ : ∀ E, Inv s0 ds E → Q (.nx E)) : wAs (.name 2) x E fun E1 => wXs CC body E1 Q := by
  obtain ⟨c, L, rfl, hl, hf⟩ := h
  obtain ⟨s_turn, s_row, s_size, s_round_so, s_k, s_many, s_packets, s_left, s_come, s_near, s_able, s_place, s_own, s_missing, s_spans, s_count, s_losses, s_due, s_most, s_whole, s_best, s_layer, s_later, s_left_now, s_room, s_lost, s_bits, s_j, s_parity, s_at, rfl, h_turn, h_row, h_size, h_round_so, h_k, h_many, h_packets, h_left, h_come, h_near, h_able, h_place, h_own, h_missing, h_spans, h_count, h_losses, h_due, h_most, h_whole, h_best, h_layer, h_later, h_left_now, h_room, h_lost, h_bits, h_j, h_parity, h_at⟩ := fr_all hl hf
  rw [wAs_name]
  push_cast [↓fr_Sv h_turn]
  unfold body
  refine segA hd c fun c row s t hr hs hs3 ht ht7 => ?_
  refine segB hd c hr hs hs3 ht ht7 fun c s_left s_come s_near s_k s_able s_place h_left h_come h_near h_k h_able h_place => ?_
  refine segC hd c fun c s_missing s_spans s_place h_missing h_spans h_place => ?_
  refine segD hd c fun c count s_losses s_due s_place h1 h6 h_losses h_due h_place => ?_
  refine segE hd c h1 h6 fun c s_most s_whole s_best s_layer s_later s_left_now s_room s_lost h_most h_whole h_best h_layer h_later h_left_now h_room h_lost => ?_
  refine segF hd c fun c s_bits s_parity s_at h_bits h_parity h_at => ?_
  rw [wXs_nil]
  exact hQ _ inv_mk
theorem law_plain (ns : List Int) (h : ns.length ≤ 63) : callN tab gls 9 16 [.dict [(.none, .list (ns.map PyData.int))]] = some (.bool true, []) := by
  refine def_eq (def_run (F := d_law) (E := .sh (.dict [(.none, .list (ns.map PyData.int))]) :: List.replicate 31 .un) rfl ⟨rfl, by decide, by decide⟩ rfl ?_)
  rw [show d_law.body = [(.asg (.name 1) (.dct [(.k (.str (PySem.Str.ofString "draws"))), (.call 10 [] [(.var 0), (.k (.int 600))]), (.k (.str (PySem.Str.ofString "at"))), (.k (.int 0))])), .for (.name 2) (.rng [(.k (.int 7))]) body, .ret (.k (.bool true))] from rfl, show d_law.nio = 0 from rfl]
  simp only [List.replicate]
  push_cast [List.length_nil]
  refine draws_w 7 ns h 600 (by decide) _ fun ds hd => ?_
  push_cast [W_fold]
  refine ⟨by decide, ?_⟩
  show wFor CC _ _ _ (.sh _ :: .ow (W ds ((0 : Nat) : Int)) :: List.replicate 30 .un) _
  refine wFor_ok (fun i E => Inv (.dict [(.none, .list (ns.map PyData.int))]) ds E) ⟨0, List.replicate 30 .un, rfl, rfl, fun s hs => by rw [List.eq_of_mem_replicate hs]; exact fr_un⟩ (fun i x E hx hI => turn _ hd E hI x _ fun E hE => hE) (fun E' hE => ?_)
  obtain ⟨k, L, rfl, _, _⟩ := hE
  push_cast [List.length_nil]
  (first | done | exact ⟨rfl, trivial⟩ | exact ⟨rfl, rfl⟩ | rfl | trivial | exact ⟨fun _ => rfl, fun _ => rfl⟩ | exact ⟨rfl, fun _ => rfl, fun _ => rfl⟩ | exact ⟨trivial, fun _ => rfl, fun _ => rfl⟩ | exact fun _ => rfl)
end LawP

set_option maxRecDepth 1000000
set_option maxHeartbeats 0
namespace LawP
open PySem PySem.Spec L2 Pv
theorem facts {P : Program} {w : World} {K : PySem.W.Frag} {h : Heap} {mg : Str → Option Value} {f : Addr} (X : K.In h) (G : h.Ns mainGlobals mg) (hfa : mg ("law" : Str) = some (.ref f)) (c : He.SaysX fa fn [] [] (exL ge gls) w h K) :
    ∃ fd : FuncData, (∀ (s : Shared) (v : Value), BindsTo s fd ⟨[v], []⟩ [("script", v)]) ∧ ∀ base : Heap, K.In base → base.Ns mainGlobals mg → FnOk P w K mg base CX0 9 f fd ["script"] (spLaw K) := by
  have hd := heads_of X G c plain_ok binds_ok
  obtain ⟨r, hr, _, hm, hb⟩ := hd.fs "law" 16 1 (by decide +kernel)
  have er : rows[16]? = some ⟨defD "law" (top 18), d_law, n_law⟩ := rfl
  rw [er] at hr
  cases hr
  obtain ⟨fd, F⟩ := hd.fd 16 _ er
  rw [hm] at hfa
  cases hfa
  refine ⟨fd, fun s v => FunD.bindsA (ps := ["script"]) F hb s [v] rfl, fun base _ _ => law_ok hd er F rfl rfl fun vs H Q E h => ?_⟩
  obtain ⟨a, ns, rfl, hS, hl, hQ⟩ := h
  exact ⟨a, ns, rfl, hS, ⟨[], law_plain ns hl, rfl⟩, hQ⟩
end LawP
open PySem PySem.W PySem.Calls PyProof.Rows
theorem PySem.Challenge.cw_farwheels_k20_packets_put_back_holds : PySem.Challenge.rw_farwheels_k20_packets_put_back.Holds := by
  w_on; o_law
  refine HandSHeadRun.head_any (r := OpenLaw.row PySem.Challenge.rw_farwheels_k20_packets_put_back) (q := view (OpenLaw.row PySem.Challenge.rw_farwheels_k20_packets_put_back).prog [18]) (H := LawP.hk) (ob := LawP.ob) (M := 6000) (loose := LawP.names) (d := HandSHeadRun.topDef (OpenLaw.row PySem.Challenge.rw_farwheels_k20_packets_put_back).prog 18) (kwd := []) LawP.ob_eq
    (by kernel_rfl) (fun s => by kernel_rfl) LawP.run (by kernel_rfl) (by kernel_rfl) (by kernel_rfl) (by rfl) (by first | assumption | decide +kernel) (by decide +kernel) ⟨rfl, rfl, rfl, rfl, rfl, by decide +kernel⟩ ?hw ?hc
  case hw => w_witness2
  case hc =>
    refine L2.walk_ofE (l := PySem.Challenge.rw_farwheels_k20_packets_put_back) (n := 63) (k := 9) (x := "script") (CX := L2.CX0) rfl (by decide) (by kernel_rfl) ⟨rfl, by decide, by decide⟩ ?F (fun _ _ _ _ z => z)
    intro w mg fa h Y G hmg0
    obtain ⟨K, KX, c⟩ := Y
    have hmg : mg ("law" : PySem.Str) = some (.ref fa) := by
      have e : (HandSHeadRun.topDef (OpenLaw.row PySem.Challenge.rw_farwheels_k20_packets_put_back).prog 18).name = ("law" : PySem.Str) := by kernel_rfl
      rw [← e]
      exact hmg0
    obtain ⟨fd, hb, hF⟩ := LawP.facts (P := (PySem.Challenge.rw_farwheels_k20_packets_put_back).prog) (w := w) KX G hmg c
    exact ⟨K, fd, LawP.spLaw K, KX, hb, fun H a ns hl _ hS => ⟨a, ns, rfl, hS, hl, fun _ => rfl⟩, hF⟩
